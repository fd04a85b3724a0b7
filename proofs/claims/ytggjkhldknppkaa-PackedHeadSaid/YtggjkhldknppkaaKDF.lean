/- number: the next number that is taken, from what is left. -/
import Derived.Test.YtggjkhldknppkaaKDE
import Derived.Test.YtggjkhldknppkaaJ
namespace Go.Proofs.Ytggjkhldknppkaa.Dg
open Go.RowKit Go.Shelf DigM
attribute [local go_sem] Oper.semAt_some

theorem grown_row {w a b : World} {g : Nat} {r2 : Option Nat} (h : w.grownBy a (some g)) (hab : a.grownBy b r2) (hr : ∀ k, r2 = some k → k = g ∨ w.heap.size ≤ k) : w.grownBy b (some g) :=
  ⟨hab.os.trans h.os, hab.tape.trans h.tape, hab.output.trans h.output, Nat.le_trans h.size hab.size, fun k hk hne => (hab.block k (Nat.lt_of_lt_of_le hk h.size) (by
    intro e
    rcases hr k e.symm with e2 | e2
    · exact hne (by rw [e2])
    · omega)).trans (h.block k hk hne)⟩
theorem box_own {β : Type} (g : Nat) (t : TypeId) (f : β → Array Value) : Own (fun (s : β) W => Box W g t (f s)) := by
  intro s W W' row h hg hr
  exact (hg.block g h.lt (fun e => by
    obtain ⟨o, ho, hc⟩ := hr g e.symm
    rw [show W.heap[g]? = _ from h] at ho
    cases ho; cases hc)).trans h
/-- What stands in the call's own variables while it goes through. -/
def NumI (bs : List UInt8) (g : Nat) (w : World) (pre : List (UInt8 × Nat)) (W : World) : Prop := ∃ nn : Nat, Box W (w.heap.size + 2) 3 #[.int .i64 (nn : Int)] ∧ Box W w.heap.size 3 #[.int .i64 0] ∧ Box W (w.heap.size + 1) 26 #[.int .i64 0] ∧
  takeF pre.length nn (bs.drop pre.length) = takeN bs ∧ nn < 128 ^ pre.length ∧ pre.length ≤ 5 ∧ w.grownBy W (some g) ∧ w.heap.size + 4 ≤ W.heap.size
def NumX (bs : List UInt8) (g : Nat) (w : World) (c : Code) (pre : List (UInt8 × Nat)) (W : World) : Prop := c = .ret ∧ Box W w.heap.size 3 #[.int .i64 ((takeN bs).1 : Int)] ∧ Box W (w.heap.size + 1) 26 #[.int .i64 (takeN bs).2.2] ∧
  ((takeN bs).2.2 = 0 → (takeN bs).2.1 = bs.drop pre.length) ∧ w.grownBy W (some g)
theorem box_from {B g : Nat} {t : TypeId} {cs : Array Value} {W W' : World} {row : Option Nat} (h : Box W g t cs) (hg : W.grownBy W' row) (hr : ∀ r, row = some r → B ≤ r ∧ ∃ o : Obj, W.heap[r]? = some o ∧ o.isCells = false) : Box W' g t cs :=
  (hg.block g h.lt (fun e => by
    obtain ⟨_, o, ho, hc⟩ := hr g e.symm
    rw [show W.heap[g]? = _ from h] at ho
    cases ho; cases hc)).trans h
theorem numI_own (bs : List UInt8) (g : Nat) (w : World) (B : Nat) (hB : w.heap.size ≤ B) : OwnFrom B (NumI bs g w) := by
  rintro pre W W' row ⟨nn, h1, h2, h3, h4, h5, h6, h7, h8⟩ hg hr
  exact ⟨nn, box_from h1 hg hr, box_from h2 hg hr, box_from h3 hg hr, h4, h5, h6, grown_row h7 hg (fun k hk => .inr (Nat.le_trans hB (hr k hk).1)), Nat.le_trans h8 hg.size⟩
theorem numX_own (bs : List UInt8) (g : Nat) (w : World) (B : Nat) (hB : w.heap.size ≤ B) (c : Code) : OwnFrom B (NumX bs g w c) := by
  rintro pre W W' row ⟨h0, h1, h2, h3, h4⟩ hg hr
  exact ⟨h0, box_from h1 hg hr, box_from h2 hg hr, h3, grown_row h4 hg (fun k hk => .inr (Nat.le_trans hB (hr k hk).1))⟩
theorem box_g {g k : Nat} {t : TypeId} {cs : Array Value} {W W' : World} (h : Box W k t cs) (hg : OwnG g W W') (hne : k ≠ g) : Box W' k t cs := (hg.block k h.lt (by simpa using hne)).trans h
theorem numI_g {bs : List UInt8} {g : Nat} {w : World} (hlt : g < w.heap.size) (pre : List (UInt8 × Nat)) (W W' : World) (h : NumI bs g w pre W) (hg : OwnG g W W') : NumI bs g w pre W' := by
  obtain ⟨nn, h1, h2, h3, h4, h5, h6, h7, h8⟩ := h
  exact ⟨nn, box_g h1 hg (by omega), box_g h2 hg (by omega), box_g h3 hg (by omega), h4, h5, h6, grown_row h7 hg (fun k hk => .inl (Option.some.inj hk).symm), Nat.le_trans h8 hg.size⟩

theorem pow_seven (i : Nat) : 128 ^ i = 2 ^ (7 * i) := by rw [Nat.pow_mul]
theorem seven_lt (q i : Nat) (hq : q < 128) (h : i ≤ 4) : q * 128 ^ i < 34359738368 := by
  have h1 : q ≤ 127 := by omega
  have h2 : 128 ^ i ≤ 128 ^ 4 := Nat.pow_le_pow_right (by omega) h
  have := Nat.mul_le_mul h1 h2
  omega
theorem run_seven {P : Program} (q : Nat) (i : Nat) (hq : q < 128) (h : i ≤ 4) (z : Nat) (hz : z = q * 128 ^ i) (w : World) :
    (Op.shift .shl .i64 (q : Int) .i64 (7 * (i : Int))).run P w = .ok (.int .i64 (z : Int)) w := by
  have h3 := seven_lt q i hq h
  rw [← hz] at h3
  unfold Op.shift
  rw [if_neg (by omega)]
  have h2 : min (7 * (i : Int)).toNat IntKind.i64.bits = 7 * i := by
    rw [show IntKind.i64.bits = 64 from rfl]; omega
  simp only [h2]
  have h4 : (q : Int) * 2 ^ (7 * i) = (z : Int) := by
    rw [hz, pow_seven]; push_cast; rfl
  rw [h4, IntWalk.i64_in _ ⟨by omega, by omega⟩]
  rfl
theorem seven_val (q : Nat) (i : Nat) (hq : q < 128) (h : i ≤ 4) (z : Nat) (hz : z = q * 128 ^ i) : IntKind.i64.wrap ((q : Int) * 2 ^ (7 * (i : Int)).toNat) = (z : Int) := by
  have h3 := seven_lt q i hq h
  rw [← hz] at h3
  have h4 : (q : Int) * 2 ^ (7 * (i : Int)).toNat = (z : Int) := by
    rw [hz, pow_seven, show (7 * (i : Int)).toNat = 7 * i by omega]; push_cast; rfl
  rw [h4]
  exact IntWalk.i64_in _ ⟨by omega, by omega⟩
theorem or_seven (nn z q i : Nat) (hq : q < 128) (h : i ≤ 4) (hn : nn < 128 ^ i) (hz : z = q * 128 ^ i) : bits .or .i64 (nn : Int) (z : Int) = ((nn + z : Nat) : Int) := by
  have h3 := seven_lt q i hq h
  rw [← hz] at h3
  have h2 : 128 ^ i ≤ 128 ^ 4 := Nat.pow_le_pow_right (by omega) h
  rw [bits_or_i64 nn z (by omega) (by omega), hz, pow_seven, or_add nn _ _ (by rw [← pow_seven]; exact hn)]
theorem keepG_set {g Bw N b : Nat} {W W' : World} (h : KeepG g Bw N W W') (i : Nat) (u : Value) (h1 : b ≠ g) (h2 : b ≠ Bw) (h3 : N ≤ b) : KeepG g Bw N W (W'.setCell ⟨b, i, none⟩ u) :=
  ⟨by simpa [World.setCell] using h.1, (Below.heap_setCell W' _ u g (by simpa using Ne.symm h1)).trans h.2.1, (Below.heap_setCell W' _ u Bw (by simpa using Ne.symm h2)).trans h.2.2.1, fun k hk => (Below.heap_setCell W' _ u k (by simp; omega)).trans (h.2.2.2 k hk)⟩
theorem KeepG.rf (g Bw N : Nat) (W : World) : KeepG g Bw N W W := ⟨Nat.le_refl _, rfl, rfl, fun _ _ => rfl⟩
theorem own_set {w W : World} {g b : Nat} (h : w.grownBy W (some g)) (i : Nat) (u : Value) (hb : w.heap.size ≤ b) : w.grownBy (W.setCell ⟨b, i, none⟩ u) (some g) :=
  ⟨h.os, h.tape, h.output, by simpa [World.setCell] using h.size, fun k hk hne => (Below.heap_setCell W ⟨b, i, none⟩ u k (by simp; omega)).trans (h.block k hk hne)⟩
/-- The call's results are stored. -/
theorem num_ret {bs : List UInt8} {g N B0 : Nat} {w W₀ W : World} {pre : List (UInt8 × Nat)} {act : Act} {x y : Int} (hg : g < N) (hN : N ≤ w.heap.size) (hk0 : KeepsFrom B0 W₀ W) (hkg : KeepG g (w.heap.size + 3) N W₀ W) (hB1 : Box W w.heap.size 3 #[.int .i64 x]) (hB2 : Box W (w.heap.size + 1) 26 #[.int .i64 y]) (hgr : w.grownBy W (some g)) (a e : Int)
    (ha : ((takeN bs).1 : Int) = a) (he : (takeN bs).2.2 = e) (hr : e = 0 → (takeN bs).2.1 = bs.drop pre.length) :
    roundOut B0 (KeepG g (w.heap.size + 3) N) (NumI bs g w) (NumX bs g w) pre W₀ .ret act ((W.setCell ⟨w.heap.size, 0, none⟩ (.int .i64 a)).setCell ⟨w.heap.size + 1, 0, none⟩ (.int .i64 e)) := by
  subst ha he
  have h1 := (hB1.set_ 0 (.int .i64 ((takeN bs).1 : Int))).far (p := ⟨w.heap.size + 1, 0, none⟩) (by simp) (.int .i64 (takeN bs).2.2)
  have h2 := (hB2.far (p := ⟨w.heap.size, 0, none⟩) (by simp) (.int .i64 ((takeN bs).1 : Int))).set_ 0 (.int .i64 (takeN bs).2.2)
  exact ⟨hk0.trans (((KeepsOthers.setCell _ _ _).trans (KeepsOthers.setCell _ _ _)).from _), keepG_set (keepG_set hkg _ _ (by omega) (by omega) hN) _ _ (by omega) (by omega) (by omega),
    rfl, h1, h2, hr, own_set (own_set hgr _ _ (Nat.le_refl _)) _ _ (by omega)⟩
theorem seven_next {nn q i : Nat} (h : nn < 128 ^ i) (hq : q < 128) : nn + q * 128 ^ i < 128 ^ (i + 1) := by
  have h1 : q * 128 ^ i ≤ 127 * 128 ^ i := Nat.mul_le_mul_right _ (by omega)
  rw [Nat.pow_succ]
  omega
set_option maxRecDepth 100000 in
set_option maxHeartbeats 2000000 in
theorem number_any (g N : Nat) (B : Option Addr) (m d : Nat) (bs : List UInt8) (w : World) (hl : LeftIs g N (.slice B m d) bs w) (hg : g < N) (hN : N ≤ w.heap.size) (hmax : bs.length ≤ 1000000) :
    Calls Try.prog 49 #[.pointer (some ⟨g, 0, none⟩)] w fun e w' => e = .returned (.tuple #[.int .i64 ((takeN bs).1 : Int), .int .i64 (takeN bs).2.2]) ∧ w.grownBy w' (some g) ∧ ((takeN bs).2.2 = 0 → LeftIs g N (.slice B m d) (takeN bs).2.1 w') := by
  have hmix : Try.prog.follows .mixedOrders = true := by kernel_rfl
  refine (callsIn_wide (n := 9)).1 ?_
  have h1 : 1 ≤ 9 := by omega
  refine callsIn_of_wp_marks Try.func49 rfl trivial ?_ rfl
  simp only [Try.ntmps49, List.size_toArray, List.length_cons, List.length_nil, Nat.reduceAdd, Nat.reduceSub, Array.replicate_succ, Array.replicate_zero, List.push_toArray, List.append_toArray, List.nil_append, List.cons_append]
  gi_wp2_with (refine ⟨trivial, ?_⟩; gi_at_call 55; refine (callsIn_wide.2 (bytes_any _ _)).mono ?_; rintro e w2 ⟨rfl, rfl⟩)
  obtain ⟨W0, hW0⟩ : ∃ W0, (((w.alloc (.cells #[.int .i64 0] 3)).alloc (.cells #[.int .i64 0] 26)).alloc (.cells #[.int .i64 0] 3)).alloc (.cells #[.pointer (some ⟨g, 0, none⟩)] 101) = W0 := ⟨_, rfl⟩
  have hE0 : Ext w W0 := by rw [← hW0]; exact (((ext_alloc _ _).tr (ext_alloc _ _)).tr (ext_alloc _ _)).tr (ext_alloc _ _)
  have hs0 : W0.heap.size = w.heap.size + 4 := by rw [← hW0]; simp
  have hb1 : Box W0 w.heap.size 3 #[.int .i64 0] := by rw [← hW0]; exact (((Box.new _ _ _).alloc _).alloc _).alloc _
  have hb2 : Box W0 (w.heap.size + 1) 26 #[.int .i64 0] := by
    rw [← hW0]; have := ((Box.new (w.alloc (.cells #[.int .i64 0] 3)) 26 #[.int .i64 0]).alloc (.cells #[.int .i64 0] 3)).alloc (.cells #[.pointer (some ⟨g, 0, none⟩)] 101)
    rwa [World.size_alloc] at this
  have hb3 : Box W0 (w.heap.size + 2) 3 #[.int .i64 0] := by
    rw [← hW0]; have := (Box.new ((w.alloc (.cells #[.int .i64 0] 3)).alloc (.cells #[.int .i64 0] 26)) 3 #[.int .i64 0]).alloc (.cells #[.pointer (some ⟨g, 0, none⟩)] 101)
    rwa [World.size_alloc, World.size_alloc] at this
  have hb4 : Box W0 (w.heap.size + 3) 101 #[.pointer (some ⟨g, 0, none⟩)] := by
    rw [← hW0]; have := Box.new (((w.alloc (.cells #[.int .i64 0] 3)).alloc (.cells #[.int .i64 0] 26)).alloc (.cells #[.int .i64 0] 3)) 101 #[.pointer (some ⟨g, 0, none⟩)]
    rwa [World.size_alloc, World.size_alloc, World.size_alloc] at this
  have hgw : g < w.heap.size := by omega
  have hl0 : LeftIs g N (.slice B m d) bs W0 := LeftIs.keep (Bw := g) hl ⟨hE0.size, hE0.block g hgw, hE0.block g hgw, fun k hk => hE0.block k (by omega)⟩
  rw [hW0]
  refine wpIn_rangeOwn (F := Fence.wide) rfl h1 (gf := 58) (lb := #[.pointer (some ⟨w.heap.size + 3, 0, none⟩)]) rfl trivial (enters_of Try.func58 (by kernel_rfl) rfl)
    (bytes_seq 8 (by omega) (w.heap.size + 3) g N B m d bs W0 (hb4.at_ 0 rfl) (by omega) (by omega) (by omega) hl0 (by omega)) KeepG.t
    (fun W l o' hl => ⟨by simp, World.putObj_heap_other (by omega), World.putObj_heap_other (by omega), fun k hk => World.putObj_heap_other (by omega)⟩)
    (fun W W' k hO hk hk2 => hO.block k hk2 (by simp; omega)) (fun pre W l o' hl hT => LeftIs.put hg l o' (by omega) hT) (fun _ => rfl)
    (NumI bs g w) (NumX bs g w) (numI_own bs g w _ (by omega)) (numX_own bs g w _ (by omega)) (numI_g hgw)
    ⟨0, hb3, hb1, hb2, rfl, by simp, by simp, grown_ext hE0 _, by omega⟩
    (fun x => { tmps := #[.pointer (some ⟨g, 0, none⟩), undef, .pointer (some ⟨w.heap.size, 0, none⟩), .pointer (some ⟨w.heap.size + 1, 0, none⟩), .pointer (some ⟨w.heap.size + 2, 0, none⟩), .int .i64 (x.2 : Int), .int .u8 (x.1.toNat : Int),
      .pointer (some ⟨g, 0, none⟩), .pointer (some ⟨g, 0, none⟩), .pointer (some ⟨g, 0, none⟩), .func (.func 58) #[] #[.pointer (some ⟨w.heap.size + 3, 0, none⟩)], .int .i64 (x.2 : Int), .int .u8 (x.1.toNat : Int),
      undef, undef, undef, undef, undef, undef, undef, undef, undef, undef, undef, undef, undef, undef, undef, undef, undef, undef, undef, undef, undef, undef], defers := [] }) ?assign ?body ?done ?stop
  case assign =>
    intro l x W K hK
    gi_wp2
    exact hK
  case body =>
    have hs1 : w.heap.size + 4 ≤ W0.heap.size := by omega
    have hs2 : W0.heap.size ≤ w.heap.size + 4 := by omega
    clear hs0
    rintro l pre ⟨c, i⟩ W ⟨nn, hB3, hB1, hB2, htk, hnn, hle, hgr, hsW⟩ hpre
    obtain ⟨hi, hil, hdrop⟩ := zip_next hpre
    dsimp only at hi hdrop ⊢
    subst hi
    have hc := UInt8.toNat_lt c
    rw [hdrop] at htk
    unfold takeF at htk
    have hc1 := hB1.at_ 0 rfl
    have hc2 := hB2.at_ 0 rfl
    have hc3 := hB3.at_ 0 rfl
    have hf1 := hB1.frozen 0
    have hf2 := hB2.frozen 0
    have hf3 := hB3.frozen 0
    by_cases h5 : 5 ≤ pre.length
    · rw [if_pos (.inl h5)] at htk
      have H := hide htk
      clear htk hdrop
      gi_wp2
      exact num_ret hg hN (KeepsFrom.refl _ _) (KeepG.rf _ _ _ _) hB1 hB2 hgr 0 11 (by rw [← H.out]; rfl) (by rw [← H.out]) (fun h => by cases h)
    · have hlen : (pre ++ [(c, pre.length)]).length = pre.length + 1 := by simp
      have Hlen := hide hlen
      have Htk := hide htk
      have Hdrop := hide hdrop
      have Hnn := hide hnn
      clear hlen htk hdrop hnn
      generalize pre ++ [(c, pre.length)] = pre' at *
      generalize pre.length = i at *
      obtain ⟨z, hz⟩ : ∃ z, z = c.toNat % 128 * 128 ^ i := ⟨_, rfl⟩
      have hand : bits .and .u8 (c.toNat : Int) 127 = ((c.toNat % 128 : Nat) : Int) := by have := bits_and_u8 c.toNat 127 c.toNat_lt (by omega); rwa [and_127] at this
      have hsh := seven_val (c.toNat % 128) i (by omega) (by omega) z hz
      have hwr : IntKind.i64.wrap ((c.toNat % 128 : Nat) : Int) = ((c.toNat % 128 : Nat) : Int) := IntWalk.i64_in _ ⟨by omega, by omega⟩
      have hor : bits .or .i64 (nn : Int) (z : Int) = ((nn + z : Nat) : Int) := or_seven nn z (c.toNat % 128) i (by omega) (by omega) Hnn.out hz
      have hz2 := seven_lt (c.toNat % 128) i (by omega) (by omega)
      have Hnx := hide (seven_next Hnn.out (show c.toNat % 128 < 128 by omega))
      rw [← hz] at Hnx
      rw [← hz] at hz2 Htk
      have Hz := hide hz
      clear hz
      generalize c.toNat % 128 = q at *
      gi_upto_region 7 with (fail)
      refine vregionI (freeF_round _) (fun ⟨_, _, h⟩ => h.elim) (by kernel_rfl) 8 [] (by kernel_rfl) (by kernel_rfl) (fun _ _ _ _ _ h => h) ?_
      refine VWalk.load1 3 _ rfl (want_none rfl) (opd_frame 4 rfl (by kernel_rfl)) (fun _ => by kernel_rfl) (hB3.at_ 0 rfl) (ext_drew _) ?_
      refine VWalk.move _ rfl (want_none rfl) (opd_frame 6 rfl (by kernel_rfl)) ?_
      refine VWalk.det2 (r := .int .u8 (q : Int)) (Operand.tmp 16) (Operand.const (Value.int IntKind.u8 127)) (want_none rfl) (opd_dep 1 16 0 rfl rfl rfl rfl) (opd_const _) (fun ρ W hE h1 h2 => by simp [execOp, h1, h2, go_sem, hand]) ?_
      refine VWalk.det1 (r := .int .i64 (q : Int)) _ (want_none rfl) (opd_dep 2 17 0 rfl rfl rfl rfl) (fun ρ W hE h1 => by simp [execOp, h1, go_sem, hwr]) ?_
      refine VWalk.move _ rfl (want_none rfl) (opd_frame 5 rfl (by kernel_rfl)) ?_
      refine VWalk.mul64 _ _ _ _ rfl (want_none rfl) (opd_const _) (opd_dep 4 19 0 rfl rfl rfl rfl) (by omega) ?_
      refine VWalk.det2 (r := .int .i64 (z : Int)) (Operand.tmp 18) (Operand.tmp 20) (want_none rfl) (opd_dep 3 18 2 rfl rfl rfl rfl) (opd_dep 5 20 0 rfl rfl rfl rfl) (fun ρ W hE h1 h2 => by simp [execOp, h1, h2, go_sem, hsh]) ?_
      refine VWalk.det2 (r := .int .i64 ((nn + z : Nat) : Int)) (Operand.tmp 15) (Operand.tmp 21) (want_none rfl) (opd_dep 0 15 6 rfl rfl rfl rfl) (opd_dep 6 21 0 rfl rfl rfl rfl) (fun ρ W hE h1 h2 => by simp [execOp, h1, h2, go_sem, hor]) ?_
      refine ⟨rfl, fun W7 hE7 => ?_⟩
      refine VFin.eq ?_  -- 0
      refine VFin.eq ?_  -- 1
      refine VFin.eq ?_  -- 2
      refine VFin.eq ?_  -- 3
      refine VFin.eq ?_  -- 4
      refine VFin.eq ?_  -- 5
      refine VFin.eq ?_  -- 6
      refine VFin.eq ?_  -- 7
      refine VFin.nil ?_
      simp only [Act.put, List.setIfInBounds_toArray, List.set_cons_zero, List.set_cons_succ]
      have hB3 := hB3.drew.ext hE7
      have hB1 := hB1.drew.ext hE7
      have hB2 := hB2.drew.ext hE7
      clear hc1 hc2 hc3 hf1 hf2 hf3 hand hsh hwr
      have hc1 := hB1.at_ 0 rfl
      have hc2 := hB2.at_ 0 rfl
      have hc3 := hB3.at_ 0 rfl
      have hf1 := hB1.frozen 0
      have hf2 := hB2.frozen 0
      have hf3 := hB3.frozen 0
      have hk7 := KeepsFrom.of_grownBy (B := W0.heap.size) (grown_ext ((ext_drew W).tr hE7) none) (fun j h => by cases h)
      have hg7 : KeepG g (w.heap.size + 3) N W W7 := by
        have hx := (ext_drew W).tr hE7
        have h3 := hgr.size
        have h4 := hk7.size
        exact ⟨h4, hx.block g (by omega), hx.block _ (by omega), fun k hk => hx.block k (by omega)⟩
      have hgr7 := grown_row hgr (grown_ext ((ext_drew W).tr hE7) none) (fun k h => by cases h)
      go_wp2
      have hB3 := hB3.set_ 0 (.int .i64 ((nn : Int) + (z : Int)))
      have hB1 := hB1.far (p := ⟨w.heap.size + 2, 0, none⟩) (by simp) (.int .i64 ((nn : Int) + (z : Int)))
      have hB2 := hB2.far (p := ⟨w.heap.size + 2, 0, none⟩) (by simp) (.int .i64 ((nn : Int) + (z : Int)))
      have hk8 := hk7.trans ((KeepsOthers.setCell W7 ⟨w.heap.size + 2, 0, none⟩ (.int .i64 ((nn : Int) + (z : Int)))).from W0.heap.size)
      have hg8 := keepG_set hg7 0 (.int .i64 ((nn : Int) + (z : Int))) (b := w.heap.size + 2) (by omega) (by omega) (by omega)
      have hgr8 := own_set hgr7 0 (.int .i64 ((nn : Int) + (z : Int))) (b := w.heap.size + 2) (by omega)
      clear hc1 hc2 hc3 hf1 hf2 hf3 hk7 hg7 hgr7 hE7 hgr
      generalize W7.setCell ⟨w.heap.size + 2, 0, none⟩ (.int .i64 ((nn : Int) + (z : Int))) = W8 at *
      have hc1 := hB1.at_ 0 rfl
      have hc2 := hB2.at_ 0 rfl
      have hc3 := hB3.at_ 0 rfl
      have hf1 := hB1.frozen 0
      have hf2 := hB2.frozen 0
      have hf3 := hB3.frozen 0
      have htk := Htk.out
      by_cases hm : most < nn + z
      · rw [if_pos (.inr hm)] at htk
        have H := hide htk
        clear htk
        have hm2 : (2147483647 : Int) < (nn : Int) + (z : Int) := by unfold most at hm; omega
        clear hm
        gi_wp2
        exact num_ret hg hN hk8 hg8 hB1 hB2 hgr8 0 11 (by rw [← H.out]; rfl) (by rw [← H.out]) (fun h => by cases h)
      · rw [if_neg (by omega)] at htk
        have hm2 : ¬ (2147483647 : Int) < (nn : Int) + (z : Int) := by unfold most at hm; omega
        clear hm
        have hand8 := bits_and_u8 c.toNat 128 hc (by omega)
        rw [and_128 _ hc] at hand8
        by_cases hh : 128 ≤ c.toNat
        · rw [if_pos hh] at htk hand8
          have H := hide htk
          clear htk
          have hand9 : bits .and .u8 (c.toNat : Int) 128 = 128 := hand8
          clear hand8
          gi_wp2
          refine ⟨hk8, hg8, nn + z, hB3, hB1, hB2, ?_, ?_, by rw [Hlen.out]; omega, hgr8, Nat.le_trans hsW hk8.size⟩
          · rw [Hlen.out]; exact H.out
          · rw [Hlen.out]; exact Hnx.out
        · rw [if_neg hh] at htk hand8
          have hand9 : bits .and .u8 (c.toNat : Int) 128 = 0 := hand8
          clear hand8
          by_cases h0 : c.toNat = 0
          · by_cases hi0 : 0 < i
            · rw [if_pos ⟨h0, hi0⟩] at htk
              have H := hide htk
              have h0' : ((c.toNat : Int) == 0) = true := by rw [h0]; rfl
              have hi0' : (0 : Int) < (i : Int) := by omega
              clear htk h0 hh hi0
              gi_wp2
              exact num_ret hg hN hk8 hg8 hB1 hB2 hgr8 0 12 (by rw [← H.out]; rfl) (by rw [← H.out]) (fun h => by cases h)
            · rw [if_neg (fun h => hi0 h.2)] at htk
              have H := hide htk
              have h0' : ((c.toNat : Int) == 0) = true := by rw [h0]; rfl
              have hi0' : ¬ (0 : Int) < (i : Int) := by omega
              clear htk h0 hh hi0
              gi_wp2
              exact num_ret hg hN hk8 hg8 hB1 hB2 hgr8 ((nn : Int) + (z : Int)) 0 (by rw [← H.out]; exact Int.natCast_add nn z) (by rw [← H.out]) (fun _ => by rw [← H.out, Hlen.out])
          · rw [if_neg (fun h => h0 h.1)] at htk
            have H := hide htk
            have h0' : ((c.toNat : Int) == 0) = false := by rw [beq_eq_false_iff_ne]; omega
            clear htk h0 hh
            gi_wp2
            exact num_ret hg hN hk8 hg8 hB1 hB2 hgr8 ((nn : Int) + (z : Int)) 0 (by rw [← H.out]; exact Int.natCast_add nn z) (by rw [← H.out]) (fun _ => by rw [← H.out, Hlen.out])
  case done =>
    rintro D xs W hD rfl hT ⟨nn, hB3, hB1, hB2, htk, hnn, hle, hgr, hsW⟩ hK
    have hlz : bs.zipIdx.length = bs.length := by simp
    rw [hlz, List.drop_length] at htk
    have H : Hid (((0, [], 10) : Nat × List UInt8 × Int) = takeN bs) := htk
    have hc1 := hB1.at_ 0 rfl
    have hc2 := hB2.at_ 0 rfl
    have hf1 := hB1.frozen 0
    have hf2 := hB2.frozen 0
    clear htk hT hlz
    gi_wp2
    have hK' := ((KeepsOthers.setCell W ⟨w.heap.size, 0, none⟩ (.int .i64 0)).trans (KeepsOthers.setCell _ ⟨w.heap.size + 1, 0, none⟩ (.int .i64 10))).same D _ hK rfl
    refine ⟨by simp, .inl ⟨_, _, rfl, run_takeDeferred hK', ?_⟩⟩
    have h1 := (hB1.set_ 0 (.int .i64 0)).far (p := ⟨w.heap.size + 1, 0, none⟩) (by simp) (.int .i64 10)
    have h2 := (hB2.far (p := ⟨w.heap.size, 0, none⟩) (by simp) (.int .i64 0)).set_ 0 (.int .i64 10)
    have hc3 : ∀ o : Obj, (((W.setCell ⟨w.heap.size, 0, none⟩ (.int .i64 0)).setCell ⟨w.heap.size + 1, 0, none⟩ (.int .i64 10)).putObj D o).cell? ⟨w.heap.size, 0, none⟩ = some (.int .i64 0) := fun o => Box.at_ ((World.putObj_heap_other (by omega)).trans h1) 0 rfl
    have hc4 : ∀ o : Obj, (((W.setCell ⟨w.heap.size, 0, none⟩ (.int .i64 0)).setCell ⟨w.heap.size + 1, 0, none⟩ (.int .i64 10)).putObj D o).cell? ⟨w.heap.size + 1, 0, none⟩ = some (.int .i64 10) := fun o => Box.at_ ((World.putObj_heap_other (by omega)).trans h2) 0 rfl
    refine ⟨.tuple #[.int .i64 0, .int .i64 10], by simp [results, Try.results49, go_sem, hc3, hc4], ?_⟩
    refine ⟨by rw [← H.out]; rfl, ?_, fun h => by rw [← H.out] at h; cases h⟩
    exact grown_row (own_set (own_set hgr 0 (.int .i64 0) (Nat.le_refl _)) 0 (.int .i64 10) (by omega)) (grownBy_putObj' _ D _) (fun k hk => .inr (by cases hk; omega))
  case stop =>
    rintro D c pre W hD hpre hT ⟨rfl, hB1, hB2, hr, hgr⟩ hK
    gi_wp2
    refine ⟨by simp, .inl ⟨_, _, rfl, run_takeDeferred hK, ?_⟩⟩
    have hc3 : ∀ o : Obj, (W.putObj D o).cell? ⟨w.heap.size, 0, none⟩ = some (.int .i64 ((takeN bs).1 : Int)) := fun o => Box.at_ ((World.putObj_heap_other (by omega)).trans hB1) 0 rfl
    have hc4 : ∀ o : Obj, (W.putObj D o).cell? ⟨w.heap.size + 1, 0, none⟩ = some (.int .i64 (takeN bs).2.2) := fun o => Box.at_ ((World.putObj_heap_other (by omega)).trans hB2) 0 rfl
    refine ⟨.tuple #[.int .i64 ((takeN bs).1 : Int), .int .i64 (takeN bs).2.2], by simp [results, Try.results49, go_sem, hc3, hc4], ?_⟩
    refine ⟨rfl, grown_row hgr (grownBy_putObj' _ D _) (fun k hk => .inr (by cases hk; omega)), fun h => ?_⟩
    rw [hr h]
    exact LeftIs.put hg D _ (by omega) hT
end Go.Proofs.Ytggjkhldknppkaa.Dg
