/- class.Bytes, Least, walked. -/
import Derived.Test.YtfbamdkalamliaaClE
namespace Go.Proofs.Ytfbamdkalamliaa
open Go.RowKit Go.Shelf LetM SetM
attribute [local go_sem] Oper.semAt_some
section
variable {F : Fence} {n : Nat} {P : Program} {ops : Array Oper} {rest : List Oper} {o : Oper} {a : Act} {w : World} {Q : Exit → Act → World → Prop}
theorem wpListIn_append_src (hgd : o.guard = none) (s x : Operand) (t : TypeId)
    (ho : o.op = .call { callee := .builtin .append, args := #[s, x], argTypes := #[t, t] })
    (base : Nat) (e : TypeId) (i : TypeInfo) (z : Value) (size bytes : Nat) (ht : P.underlying t = some (.slice e)) (hi : P.info? e = some i) (hz : i.zero = some z) (hs : i.size = size) (hb : i.bytes = bytes) (hzs : z.cells.size = size) (hsz : 0 < size)
    (v u : Value) (k m : Nat) (xs news : List Value) (hv : a.eval s = v) (hown : w.ownsRow base e size v k xs) (hl : news.length = m * size) (hu : a.eval x = u) (hx : Src w u m news) (h1 : ∀ y ∈ news, y.oneCell' = true) (hlen : (k + m) * (bytes + 1) ≤ 140000000000000) (hbase : base ≤ w.heap.size)
    (h : ∀ v' w', w'.ownsRow base e size v' (k + m) (xs ++ news) → w.grownBy w' v.ownBlock → (v'.ownBlock = v.ownBlock ∨ v'.ownBlock = some w.heap.size) → wpListIn F n P ops Q rest (a.put o.dst v') w') : wpListIn F n P ops Q (o :: rest) a w := by
  refine wpListIn_plain hgd fun K hK => ?_
  obtain ⟨v', w', hrun, h2, h3, h4⟩ := run_append_src (P := P) base t o.type e i z size bytes ht hi hz hs hb hzs hsz v u k m xs news hown hl hx h1 hlen hbase
  unfold Oper.wpIn
  refine ⟨by simp [Oper.about, ho, resolve, Target.leads, Sem.run_pure], ?_⟩
  rw [Oper.semAt_plain F _ _ (by rw [ho]; intro c hc'; cases hc')]
  simp [execOp, ho, resolve, invoke, builtin, hv, hu, hrun, Result.andThen]
  exact hK _ _ (h v' w' h2 h3 h4)
end
/-- An own row stands what turns no cells. -/
theorem own_nc {w w' : World} {base : Nat} {e : TypeId} {size n : Nat} {v : Value} {xs : List Value} {row : Option Nat} (h : w.ownsRow base e size v n xs) (hg : w.grownBy w' row) (hr : ∀ r, row = some r → ∃ o : Obj, w.heap[r]? = some o ∧ o.isCells = false) : w'.ownsRow base e size v n xs := by
  obtain ⟨h1, h2⟩ := h
  rcases h2 with ⟨h3, h4⟩ | ⟨g, cap, cur, h3, h4, h5, h6⟩
  · exact ⟨h1, .inl ⟨h3, h4⟩⟩
  · refine ⟨h1, .inr ⟨g, cap, cur, h3, h4, ?_, h6⟩⟩
    refine (hg.block g (Array.getElem?_eq_some_iff.1 h5).1 ?_).trans h5
    intro e
    obtain ⟨o, ho, hc⟩ := hr g e.symm
    rw [h5] at ho
    cases ho; cases hc
theorem own_ownFrom {base : Nat} {e : TypeId} {size B g : Nat} {T : TypeId} : OwnFrom B (fun (pre : List UInt8) W => ∃ sv, Box W g T #[sv] ∧ W.ownsRow base e size sv pre.length (pre.map byteV)) := fun pre W W' row ⟨sv, h1, h2⟩ hg hr =>
  ⟨sv, (hg.block g h1.lt (by
    intro e
    obtain ⟨-, o, ho, hc⟩ := hr g e.symm
    rw [show W.heap[g]? = _ from h1] at ho
    cases ho; cases hc)).trans h1, own_nc h2 hg fun r e => (hr r e).2⟩
theorem own_set {w : World} {base : Nat} {e : TypeId} {size n : Nat} {v : Value} {xs : List Value} (h : w.ownsRow base e size v n xs) (p : Addr) (hp : v.ownBlock ≠ some p.block) (u : Value) : (w.setCell p u).ownsRow base e size v n xs := by
  refine ⟨h.1, ?_⟩
  rcases h.2 with h2 | ⟨g, cap, cur, rfl, hb, hg, r⟩
  · exact .inl h2
  · exact .inr ⟨g, cap, cur, rfl, hb, (Below.heap_setCell w p u g (fun e => hp (by rw [← e]; rfl))).trans hg, r⟩
theorem own_cells {w : World} {base : Nat} {e : TypeId} {size n : Nat} {v : Value} {xs : List Value} (h : w.ownsRow base e size v n xs) (j : Nat) (o : Obj) (hj : v.ownBlock = some j) (ho : w.heap[j]? = some o) : o.isCells = true := by
  obtain ⟨-, h2⟩ := h
  rcases h2 with ⟨rfl, h4⟩ | ⟨g, cap, cur, rfl, h4, h5, h6⟩
  · cases hj
  · cases hj
    rw [show w.heap[g]? = _ from h5] at ho
    cases ho; rfl
set_option maxRecDepth 100000 in
set_option maxHeartbeats 2000000 in
theorem clBytes_yes (f : Bool) (ws : List (List UInt8)) (cl : Int) (u : Value) (w : World) (hS : VSet f ws u w) (hlen : ws.flatten.length ≤ 1000000) (hn : ws.length ≤ 1000000) (hr : rightS f ws = true) : Calls Try.prog 14 #[u, .int .i64 cl] w (Ret w (VBytes (clsL (cRun f (hasB f ws.flatten) 256).1 cl 256))) := by
  obtain ⟨i0, hi, hz0, hz1, hz2⟩ := info_parts Try.infoB
  have hS0 := hS
  obtain ⟨sl, rfl, hP⟩ := hS
  obtain ⟨A, c, rfl, -⟩ := VParts.form hP
  clear hP
  have hX := ext_alloc w (.cells #[.bool f, .slice A ws.length c] 24)
  have hS1 := VP.st _ _ _ _ hS0 hX
  have hct := clcount_any f ws _ _ hS1 hlen hn hr
  clear hS0 hS1 hr
  refine (callsIn_wide (n := 9)).1 ?_
  have h1 : 1 ≤ 9 := by omega
  refine callsIn_of_wp_marks Try.func14 rfl trivial ?_ rfl
  simp only [Try.ntmps14, List.size_toArray, List.length_cons, List.length_nil, Nat.reduceAdd, Nat.reduceSub, Array.replicate_succ, Array.replicate_zero, List.push_toArray, List.append_toArray, List.nil_append, List.cons_append]
  gi_wp2_with (first
    | (refine ⟨trivial, ?_⟩; gi_at_call 23; refine (callsIn_wide.2 hct).mono ?_; rintro e w1 ⟨g, rfl, hE1, hge, hbg⟩)
    | (refine ⟨trivial, ?_⟩; gi_at_call 25; refine (callsIn_wide.2 (clof_any _ _ _)).mono ?_; rintro e w2 ⟨rfl, rfl⟩))
  obtain ⟨W0, hW0⟩ : ∃ W0, ((w1.alloc (.cells #[.slice none 0 0] 26)).alloc (.cells #[.pointer (some ⟨g, 0, none⟩)] 67)).alloc (.cells #[.int .i64 cl] 3) = W0 := ⟨_, rfl⟩
  have hs0 : W0.heap.size = w1.heap.size + 3 := by rw [← hW0]; simp
  have hE0 : Ext w1 W0 := by rw [← hW0]; exact ((ext_alloc _ _).tr (ext_alloc _ _)).tr (ext_alloc _ _)
  have hb7 : Box W0 w1.heap.size 26 #[.slice none 0 0] := by rw [← hW0]; exact ((Box.new _ _ _).alloc _).alloc _
  have hbt : Box W0 (w1.heap.size + 1) 67 #[.pointer (some ⟨g, 0, none⟩)] := by
    rw [← hW0]; have := (Box.new (w1.alloc (.cells #[.slice none 0 0] 26)) 67 #[.pointer (some ⟨g, 0, none⟩)]).alloc (.cells #[.int .i64 cl] 3)
    rwa [World.size_alloc] at this
  have hbc : Box W0 (w1.heap.size + 2) 3 #[.int .i64 cl] := by
    rw [← hW0]; have := Box.new ((w1.alloc (.cells #[.slice none 0 0] 26)).alloc (.cells #[.pointer (some ⟨g, 0, none⟩)] 67)) 3 #[.int .i64 cl]
    rwa [World.size_alloc, World.size_alloc] at this
  rw [hW0]
  have hE : Ext w w1 := hX.tr hE1
  clear hct hX hE1
  obtain ⟨cf, hcf⟩ : ∃ cf, (cRun f (hasB f ws.flatten) 256).1 = cf := ⟨_, rfl⟩
  generalize (cRun f (hasB f ws.flatten) 256).2 = m at *
  have hst := of_stops Fence.wide 8 trivial rfl (by omega) (w1.heap.size + 1) (w1.heap.size + 2) g (cRun f (hasB f ws.flatten) 256).1 m cl W0 (hbt.at_ 0 rfl) (hbg.ext hE0) (hbc.at_ 0 rfl)
  rw [hcf] at hst
  have Hcf := hide hcf
  clear hcf
  have hsE := hE.size
  refine wpIn_rangeFunc_ownF (F := Fence.wide) rfl h1 (gf := 35) (lb := #[.pointer (some ⟨w1.heap.size + 1, 0, none⟩), .pointer (some ⟨w1.heap.size + 1 + 1, 0, none⟩)]) rfl trivial (enters_of Try.func35 (by kernel_rfl) rfl)
    hst KeepK.t (keepK_b (fun k hk => by subst hk; omega)) (Below.refl _ _) (fun _ => rfl)
    (fun pre W => ((∃ sv, Box W w1.heap.size 26 #[sv] ∧ W.ownsRow W0.heap.size 5 1 sv pre.length (pre.map byteV)) ∧ Below w.heap.size w W) ∧ W0.heap.size ≤ W.heap.size)
    (fun _ _ _ => False)
    (OwnFrom.and (OwnFrom.and own_ownFrom (ownFrom_below (Nat.le_refl _) (by omega))) (fun _ _ _ _ h hg _ => Nat.le_trans h hg.size))
    (fun _ _ _ _ _ hs _ _ => hs)
    ⟨⟨⟨_, hb7, World.ownsRow_nil _ _ _ _⟩, hE.tr hE0⟩, Nat.le_refl _⟩
    (fun b => { tmps := #[.agg #[.bool f, .slice A ws.length c], .int .i64 cl, .pointer (some ⟨w.heap.size, 0, none⟩), undef, .slice none 0 0, .pointer (some ⟨g, 0, none⟩), .bool true, .pointer (some ⟨w1.heap.size, 0, none⟩), .int .u8 (b.toNat : Int),
      .tuple #[.pointer (some ⟨g, 0, none⟩), .bool true], .agg #[.bool f, .slice A ws.length c], .tuple #[.pointer (some ⟨g, 0, none⟩), .bool true], .pointer (some ⟨g, 0, none⟩), .bool true, .bool true, .bool false,
      .pointer (some ⟨g, 0, none⟩), .pointer (some ⟨g, 0, none⟩), .pointer (some ⟨g, 0, none⟩), .int .i64 cl, .func (.func 35) #[] #[.pointer (some ⟨w1.heap.size + 1, 0, none⟩), .pointer (some ⟨w1.heap.size + 1 + 1, 0, none⟩)],
      .int .u8 (b.toNat : Int), undef, undef, undef, undef, undef], defers := [] }) ?assign ?body ?done ?stop
  case assign =>
    intro l x W K hK
    gi_wp2
    exact hK
  case body =>
    rintro l pre b W ⟨⟨⟨sv, hb, ho⟩, hB⟩, hB2⟩ hpl
    obtain ⟨B1, c1, rfl⟩ := own_form ho
    have hc7 := hb.at_ 0 rfl
    have hf7 := hb.frozen 0
    have hXa : Ext W (W.alloc (.cells #[.int .u8 (b.toNat : Int)] 5)) := ext_alloc _ _
    have hca := (hb.ext hXa).at_ 0 rfl
    have HO := hide (own_st ho hXa)
    have Hb := hide (hb.ext hXa)
    have hlo := own_ge ho
    have hlp := clsL_len cf cl 256
    clear hb ho
    gi_wp2_with (gi_at_builtin; refine wpListIn_append_src rfl _ _ 26 rfl W0.heap.size 5 i0 (.int .u8 0) 1 1 Try.underlying26 hi hz0 hz1 hz2 rfl (by omega) _ _ pre.length 1 (pre.map byteV) [.int .u8 (b.toNat : Int)] rfl HO.out rfl rfl (Src.new _ _ _ _) (fun y hy => by rw [List.mem_singleton] at hy; subst hy; rfl) (by omega) (by simp; omega) ?_; intro v' w' hown hgrow hat; obtain ⟨A4, c4, hv4⟩ := own_form hown; subst hv4; have hb' := Hb.out.grows hgrow (fun e => absurd (hlo _ e) (by omega)); have hc' := hb'.at_ 0 rfl; have hf' := hb'.frozen 0)
    have hbase : W0.heap.size ≤ W0.heap.size := Nat.le_refl _
    have hne4 : Value.ownBlock (.slice A4 (pre.length + 1) c4) ≠ some w1.heap.size := fun e => absurd (own_ge hown _ e) (by omega)
    have hkp : KeepK (· = w1.heap.size + 2) (W.alloc (.cells #[.int .u8 (b.toNat : Int)] 5)) w' := ⟨hgrow.size, fun k hk => hgrow.block k (by simp; omega) (fun e => absurd (hlo _ e.symm) (by omega))⟩
    refine ⟨(KeepsOthers.alloc W _).trans ((KeepsOthers.of_grownBy hgrow (own_cells HO.out)).trans (KeepsOthers.setCell _ _ _)), ((KeepK.of_ext hXa (fun k hk => by omega)).t hkp).t (keepK_set _ _ (by show ¬ (w1.heap.size = w1.heap.size + 2); omega)),
      ⟨⟨_, hb'.set_ 0 _, ?_⟩, (below_ng hB hgrow (fun k hk => Nat.le_trans (by omega) (hlo k hk))).setCell (p := ⟨w1.heap.size, 0, none⟩) hsE _⟩, ?_⟩
    · rw [List.length_append, List.map_append]
      exact own_set hown _ hne4 _
    · have := hgrow.size
      rw [World.size_alloc] at this
      simp only [World.setCell, Array.size_setIfInBounds]
      first | omega | (split <;> simp <;> omega) | (simp; omega)
  case done =>
    rintro D ys W hD rfl ⟨⟨⟨sv, hb, ho⟩, hB⟩, hB2⟩ hK
    obtain ⟨B1, c1, rfl⟩ := own_form ho
    have hc7 := hb.at_ 0 rfl
    gi_wp2
    refine ⟨by simp, .inl ⟨_, _, rfl, run_takeDeferred hK, ?_⟩⟩
    refine ⟨.slice B1 (clsL cf cl 256).length c1, by simp [results, Try.results14, go_sem], ?_⟩
    refine Ret.mk (hB.trans (belowK_b (w := w) (Nat.le_refl _) _ D _ _ (by omega) hK rfl rfl)) ?_
    rw [Hcf.out]
    exact OwnB.bytes (base := W0.heap.size) (e := 5) (own_nc ho (grownBy_putObj' W D _) (fun r e => by cases e; exact ⟨_, hK, rfl⟩))
  case stop =>
    rintro D c pre W _ _ h _
    exact h.elim
end Go.Proofs.Ytfbamdkalamliaa
