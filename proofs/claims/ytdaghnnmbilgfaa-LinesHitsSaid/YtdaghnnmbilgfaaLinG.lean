/- Where lines begin; lines.lay, walked. -/
import Derived.Test.YtdaghnnmbilgfaaLinF
import Derived.Test.YtdaghnnmbilgfaaY
namespace Go.Proofs.Ytdaghnnmbilgfaa
open Go.RowKit Go.Shelf LinM
namespace LinM
def begF : Int → List UInt8 → List Int
  | _, [] => []
  | off, b :: bs => if b.toNat = 10 then (off + 1) :: begF (off + 1) bs else begF (off + 1) bs
def begC (bs : List UInt8) : List Int := 0 :: begF 0 bs
theorem begF_append (off : Int) (xs ys : List UInt8) : begF off (xs ++ ys) = begF off xs ++ begF (off + xs.length) ys := by
  induction xs generalizing off with
  | nil => simp [begF]
  | cons b xs ih =>
    simp only [List.cons_append, begF, ih, List.length_cons]
    rw [show off + 1 + (xs.length : Int) = off + ((xs.length + 1 : Nat) : Int) by omega]
    split <;> rfl
theorem begF_mem (off : Int) (bs : List UInt8) (x : Int) (h : x ∈ begF off bs) : off + 1 ≤ x ∧ x ≤ off + bs.length := by
  induction bs generalizing off with
  | nil => simp [begF] at h
  | cons b bs ih =>
    simp only [begF] at h
    simp only [List.length_cons]
    split at h
    · rcases List.mem_cons.1 h with rfl | h
      · omega
      · have := ih _ h; omega
    · have := ih _ h; omega
theorem begF_len (off : Int) (bs : List UInt8) : (begF off bs).length ≤ bs.length := by
  induction bs generalizing off with
  | nil => simp [begF]
  | cons b bs ih =>
    simp only [begF, List.length_cons]
    split
    · have := ih (off + 1); simp; omega
    · have := ih (off + 1); omega
theorem begF_snoc (off : Int) (bs : List UInt8) (b : UInt8) : begF off (bs ++ [b]) = if b.toNat = 10 then begF off bs ++ [off + bs.length + 1] else begF off bs := by
  rw [begF_append]
  simp only [begF]
  split <;> simp
theorem begC_len (bs : List UInt8) : (begC bs).length ≤ bs.length + 1 := by unfold begC; have := begF_len 0 bs; simp; omega
theorem countC_beg (a l s : Int) (xs : List UInt8) : (countC (a, l, s) xs).2.1 = l + (begF a xs).length ∧ (countC (a, l, s) xs).2.2 = a + xs.length - ((a - s) :: begF a xs).getLast (by simp) := by
  induction xs generalizing a l s with
  | nil => simp [countC, begF]; omega
  | cons b xs ih =>
    by_cases hb : b.toNat = 10
    · have e : countC (a, l, s) (b :: xs) = countC (a + 1, l + 1, 0) xs := by show countC (stepC _ _) xs = _; unfold stepC; rw [if_pos hb]
      have f : begF a (b :: xs) = (a + 1) :: begF (a + 1) xs := by simp only [begF]; rw [if_pos hb]
      have i := ih (a + 1) (l + 1) 0
      rw [e]
      simp only [f]
      refine ⟨by rw [i.1]; simp; omega, ?_⟩
      rw [i.2, List.getLast_cons_cons]
      simp; omega
    · have e : countC (a, l, s) (b :: xs) = countC (a + 1, l, s + 1) xs := by show countC (stepC _ _) xs = _; unfold stepC; rw [if_neg hb]
      have f : begF a (b :: xs) = begF (a + 1) xs := by simp only [begF]; rw [if_neg hb]
      have i := ih (a + 1) l (s + 1)
      rw [e]
      simp only [f]
      refine ⟨i.1, ?_⟩
      rw [i.2]
      simp only [show a + 1 - (s + 1) = a - s by omega, List.length_cons]
      omega
end LinM
theorem own_set {w : World} {base : Nat} {e : TypeId} {size n : Nat} {v : Value} {xs : List Value} (h : w.ownsRow base e size v n xs) (p : Addr) (hp : v.ownBlock ≠ some p.block) (u : Value) : (w.setCell p u).ownsRow base e size v n xs := by
  refine ⟨h.1, ?_⟩
  rcases h.2 with h2 | ⟨g, cap, cur, rfl, hb, hg, r⟩
  · exact .inl h2
  · exact .inr ⟨g, cap, cur, rfl, hb, (Below.heap_setCell w p u g (fun e => hp (by rw [← e]; rfl))).trans hg, r⟩
theorem Box.grown {w w' : World} {g : Nat} {t : TypeId} {cs : Array Value} {row : Option Nat} (h : Box w g t cs) (hg : w.grownBy w' row) (hne : row ≠ some g) : Box w' g t cs := (hg.block g h.lt (fun e => hne e.symm)).trans h
theorem Try.infoI : (Try.prog.info? 3).map (fun i => (i.zero, i.size, i.bytes)) = some (some (.int .i64 0), 1, 8) := by kernel_rfl
set_option maxRecDepth 100000 in
set_option maxHeartbeats 2000000 in
theorem lay_any (bs : List UInt8) (fr : Int) (v : Value) (w : World) (hB : VBytes bs v w) (hlen : bs.length ≤ 1000000) : Calls Try.prog 24 #[v, .int .i64 fr] w fun e w' => ∃ g sv, e = .returned (.pointer (some ⟨g, 0, none⟩)) ∧ Ext w w' ∧ w.heap.size ≤ g ∧ Box w' g 74 #[.int .i64 fr, .int .i64 (bs.length : Int), sv] ∧ OwnI w' w.heap.size 3 sv (begC bs) := by
  obtain ⟨i0, hi, hz0, hz1, hz2⟩ := info_parts Try.infoI
  obtain ⟨A, c, rfl, hc1, hc2, hx⟩ := VBytes.form hB
  clear hB
  unfold maxLen at hc2
  go_enter Try.func24, Try.ntmps24
  go_wp2
  have hb1 : Box ((w.alloc (.cells #[.int .i64 0] 3)).alloc (.cells #[.int .i64 fr, .int .i64 (bs.length : Int), .slice (some ⟨w.heap.size, 0, none⟩) 1 1] 74)) (w.heap.size + 1) 74 #[.int .i64 fr, .int .i64 (bs.length : Int), .slice (some ⟨w.heap.size, 0, none⟩) 1 1] := by
    have := Box.new (w.alloc (.cells #[.int .i64 0] 3)) 74 #[.int .i64 fr, .int .i64 (bs.length : Int), .slice (some ⟨w.heap.size, 0, none⟩) 1 1]
    rwa [World.size_alloc] at this
  have ho1 : ((w.alloc (.cells #[.int .i64 0] 3)).alloc (.cells #[.int .i64 fr, .int .i64 (bs.length : Int), .slice (some ⟨w.heap.size, 0, none⟩) 1 1] 74)).ownsRow w.heap.size 3 1 (.slice (some ⟨w.heap.size, 0, none⟩) 1 1) 1 [.int .i64 0] :=
    ⟨rfl, .inr ⟨w.heap.size, 1, #[.int .i64 0], rfl, Nat.le_refl _, (Box.new w 3 #[.int .i64 0]).alloc _, by omega, by decide, rfl, rfl⟩⟩
  have hE1 : Below w.heap.size w ((w.alloc (.cells #[.int .i64 0] 3)).alloc (.cells #[.int .i64 fr, .int .i64 (bs.length : Int), .slice (some ⟨w.heap.size, 0, none⟩) 1 1] 74)) := (ext_alloc _ _).tr (ext_alloc _ _)
  have hsz : w.heap.size + 2 ≤ ((w.alloc (.cells #[.int .i64 0] 3)).alloc (.cells #[.int .i64 fr, .int .i64 (bs.length : Int), .slice (some ⟨w.heap.size, 0, none⟩) 1 1] 74)).heap.size := by simp
  go_loopw [16] (fun i wr => ∃ (k : Nat) (A1 : Option Addr) (c1 : Nat), k ≤ bs.length ∧ i = .int .i64 (k : Int) ∧ Box wr (w.heap.size + 1) 74 #[.int .i64 fr, .int .i64 (bs.length : Int), .slice A1 (begC (bs.take k)).length c1] ∧ wr.ownsRow w.heap.size 3 1 (.slice A1 (begC (bs.take k)).length c1) (begC (bs.take k)).length ((begC (bs.take k)).map (.int .i64)) ∧ Value.ownBlock (.slice A1 (begC (bs.take k)).length c1) ≠ some (w.heap.size + 1) ∧ Below w.heap.size w wr ∧ w.heap.size + 2 ≤ wr.heap.size) (fun i _ => bs.length - (intOf i).toNat)
  case atStart => exact ⟨0, _, _, by omega, rfl, hb1, ho1, by simp [Value.ownBlock], hE1, hsz⟩
  case round =>
    clear hb1 ho1 hE1 hsz
    obtain ⟨k, A1, c1, hk, rfl, hb, ho, hne, hR, hsz⟩ := hrel
    have hE : Ext w wr := hR
    have hc0 := hb.at_ 0 rfl
    have hc1' := hb.at_ 1 rfl
    have hcc := hb.at_ 2 rfl
    by_cases hlt : k < bs.length
    · obtain ⟨b, off, rfl, hbl, hcell⟩ := hx (by omega)
      have hx3 := (hE.cell (p := ⟨b, off + k, none⟩) hbl).trans (hcell k hlt)
      have Hs := hide (begF_snoc 0 (bs.take k) bs[k])
      have Htk := hide (take_snoc bs k hlt)
      have hln := begC_len (bs.take k)
      rw [List.length_take, Nat.min_eq_left (by omega)] at hln
      clear hcell hx
      generalize bs[k] = y at *
      by_cases hy : (y.toNat : Int) = 10
      · have Hn := hide (show begC (bs.take (k + 1)) = begC (bs.take k) ++ [(k : Int) + 1] by unfold begC; rw [Htk.out, Hs.out, if_pos (by omega), List.length_take, Nat.min_eq_left (by omega)]; simp)
        generalize begC (bs.take k) = ns at *
        have HB := hide hb
        have HO := hide ho
        have hX : Ext wr (wr.alloc (.cells #[.int .i64 ((k : Int) + 1)] 3)) := ext_alloc _ _
        go_wp2_with (at_builtin; refine wpList_append_src rfl _ _ 72 rfl w.heap.size 3 i0 (.int .i64 0) 1 8 Try.underlying72 hi hz0 hz1 hz2 rfl (by omega) _ _ ns.length 1 (ns.map (.int .i64)) [.int .i64 ((k : Int) + 1)] rfl (own_st HO.out hX) rfl rfl (Src.new _ _ _ _) (fun y hy => by rw [List.mem_singleton] at hy; subst hy; rfl) (by omega) (by simp; omega) ?_; intro v' w' hown hgrow hat; obtain ⟨A4, c4, hv4⟩ := own_form hown; subst hv4; have hb4 := (HB.out.alloc _).grown hgrow hne; have hc14 := hb4.at_ 2 rfl; have hf14 := hb4.frozen 2; have HB4 := hide hb4; clear hb4)
        have hs4 := hgrow.size
        rw [World.size_alloc] at hs4
        have hne4 : Value.ownBlock (.slice A4 (ns.length + 1) c4) ≠ some (w.heap.size + 1) := by
          rcases hat with h | h
          · rw [h]; exact hne
          · rw [h, World.size_alloc]; intro e; have := Option.some.inj e; omega
        go_roundw
        case rel =>
          refine ⟨k + 1, A4, c4, by omega, by go_num, ?_, ?_, ?_, (below_ng hR hgrow (fun k hk => own_ge HO.out k hk)).setCell (p := ⟨w.heap.size + 1, 2, none⟩) (by simp) _, by simp only [World.setCell, Array.size_setIfInBounds]; first | omega | (split <;> simp <;> omega) | (simp; omega)⟩
          · rw [show (begC (bs.take (k + 1))).length = ns.length + 1 by rw [Hn.out]; simp]
            exact HB4.out.set_ 2 _
          · rw [Hn.out, List.length_append, List.map_append]
            exact own_set hown _ hne4 _
          · rw [show (begC (bs.take (k + 1))).length = ns.length + 1 by rw [Hn.out]; simp]
            exact hne4
        case measure => simp [intOf]; omega
      · have Hn := hide (show begC (bs.take (k + 1)) = begC (bs.take k) by unfold begC; rw [Htk.out, Hs.out, if_neg (by omega)])
        generalize begC (bs.take k) = ns at *
        have HB := hide hb
        have HO := hide ho
        clear hb ho
        go_wp2
        go_roundw
        case rel =>
          have e2 := Hn.out
          exact ⟨k + 1, A1, c1, by omega, by go_num, by rw [e2]; exact HB.out, by rw [e2]; exact HO.out, by rw [e2]; exact hne, hR, hsz⟩
        case measure => simp [intOf]; omega
    · obtain rfl : k = bs.length := by omega
      rw [List.take_length] at *
      have HB := hide hb
      have HO := hide ho
      clear hb ho hx
      go_wp2
      go_ret
      exact ⟨_, _, rfl, hE, by omega, HB.out, HO.out⟩
end Go.Proofs.Ytdaghnnmbilgfaa
