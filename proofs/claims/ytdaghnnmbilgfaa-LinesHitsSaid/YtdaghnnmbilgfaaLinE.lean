/- Of. -/
import Derived.Test.YtdaghnnmbilgfaaLinD
namespace Go.Proofs.Ytdaghnnmbilgfaa
open Go.RowKit Go.Shelf LinM
attribute [local go_sem] Oper.semAt_some
set_option maxRecDepth 100000 in
set_option maxHeartbeats 2000000 in
theorem of_no (bs : List UInt8) (at_ : Int) (v : Value) (w : World) (hB : VBytes bs v w) (h : at_ < 0 ∨ (bs.length : Int) ≤ at_) : Calls Try.prog 7 #[v, .int .i64 at_] w (Ret w (VTup [VEq (plcV (0, 0)), VEq (.bool false)])) := by
  obtain ⟨A, c, rfl, hc1, hc2, -⟩ := VBytes.form hB
  have hb4 := Box.new w 27 #[.int .i64 0, .int .i64 0]
  have hc40 := hb4.at_ 0 rfl
  have hc41 := hb4.at_ 1 rfl
  have hf40 := hb4.frozen 0
  have hf41 := hb4.frozen 1
  have hE : Below w.heap.size w (w.alloc (.cells #[.int .i64 0, .int .i64 0] 27)) := ext_alloc _ _
  clear hb4 hE
  by_cases h1 : at_ < 0
  · clear h
    go_enter Try.func7, Try.ntmps7
    go_wp2
    exact bodyPost_ret (results_cell_tmp rfl _ _ w.heap.size 27 #[.int .i64 0, .int .i64 0] (0, 0) _ (.bool false) rfl rfl (Box.new w _ _) Try.underlying27 rfl (by kernel_rfl)) rfl (tup_two (ext_alloc _ _) rfl rfl)
  · have h2 : (bs.length : Int) ≤ at_ := by omega
    clear h
    go_enter Try.func7, Try.ntmps7
    go_wp2
    exact bodyPost_ret (results_cell_tmp rfl _ _ w.heap.size 27 #[.int .i64 0, .int .i64 0] (0, 0) _ (.bool false) rfl rfl (Box.new w _ _) Try.underlying27 rfl (by kernel_rfl)) rfl (tup_two (ext_alloc _ _) rfl rfl)
theorem VBytes.upto {bs : List UInt8} {A : Option Addr} {n c : Nat} {w : World} (h : VBytes bs (.slice A n c) w) (k : Nat) (hk : k ≤ bs.length) : VBytes (bs.take k) (.slice A k c) w := by
  obtain ⟨A', c', e, h2, h3, h4⟩ := VBytes.form h
  cases e
  have hl : (bs.take k).length = k := by simp; omega
  have := VBytes.of (bs := bs.take k) (A := A) (c := c) (w := w) (by omega) h3 (fun hp => by
    obtain ⟨b, off, rfl, hb, hcell⟩ := h4 (by omega)
    refine ⟨b, off, rfl, hb, fun j hj => ?_⟩
    rw [hcell j (by omega), List.getElem_take])
  rwa [hl] at this
theorem one_part (bs : List UInt8) (u : Value) (t : TypeId) (w : World) (h : VBytes bs u w) : VParts [bs] (.slice (some ⟨w.heap.size, 0, none⟩) 1 1) (w.alloc (.cells #[u] t)) :=
  ⟨_, 1, rfl, Nat.le_refl _, by decide, fun _ => ⟨_, 0, rfl, by simp, fun j F hj => by
    cases j with
    | zero => cases hj; exact ⟨_, (Box.new w t #[u]).at_ 0 rfl, VP.st _ _ _ _ h (ext_alloc _ _)⟩
    | succ j => simp at hj⟩⟩
set_option maxRecDepth 100000 in
set_option maxHeartbeats 2000000 in
theorem of_yes (bs : List UInt8) (k : Nat) (v : Value) (w : World) (hB : VBytes bs v w) (hk : k < bs.length) (hlen : bs.length ≤ 1000000) : Calls Try.prog 7 #[v, .int .i64 (k : Int)] w (Ret w (VTup [VEq (plcV (nextC (countC (0, 0, 0) (bs.take k)))), VEq (.bool true)])) := by
  have hB0 := hB
  obtain ⟨A, c, rfl, hc1, hc2, -⟩ := VBytes.form hB
  have Hcut := hide (VBytes.upto hB0 k (by omega))
  clear hB hB0
  have hk2 : ¬ (k : Int) < 0 := by omega
  have hk3 : ¬ (bs.length : Int) ≤ (k : Int) := by omega
  refine (callsIn_wide (n := 9)).1 ?_
  have h1 : 1 ≤ 9 := by omega
  refine callsIn_of_wp_marks Try.func7 rfl trivial ?_ rfl
  simp only [Try.ntmps7, List.size_toArray, List.length_cons, List.length_nil, Nat.reduceAdd, Nat.reduceSub, Array.replicate_succ, Array.replicate_zero, List.push_toArray, List.append_toArray, List.nil_append, List.cons_append]
  gi_wp2_with (refine ⟨trivial, ?_⟩; gi_at_call 17; refine (callsIn_wide.2 (all_any _ _ _ _)).mono ?_; rintro e w2 ⟨rfl, rfl⟩)
  obtain ⟨W0, hW0⟩ : ∃ W0, (((w.alloc (.cells #[.int .i64 0, .int .i64 0] 27)).alloc (.cells #[.int .i64 0, .int .i64 0, .int .i64 0] 52)).alloc (.cells #[.slice A k c] 22)).alloc (.cells #[.slice (some ⟨w.heap.size + 1 + 1, 0, none⟩) 1 1] 37) = W0 := ⟨_, rfl⟩
  have hs0 : W0.heap.size = w.heap.size + 4 := by rw [← hW0]; simp
  have hE0 : Ext w W0 := by rw [← hW0]; exact (((ext_alloc _ _).tr (ext_alloc _ _)).tr (ext_alloc _ _)).tr (ext_alloc _ _)
  have hb1 : Box W0 w.heap.size 27 #[.int .i64 0, .int .i64 0] := by rw [← hW0]; exact (((Box.new _ _ _).alloc _).alloc _).alloc _
  have hb2 : Box W0 (w.heap.size + 1) 52 #[.int .i64 0, .int .i64 0, .int .i64 0] := by
    rw [← hW0]; have := ((Box.new (w.alloc (.cells #[.int .i64 0, .int .i64 0] 27)) 52 #[.int .i64 0, .int .i64 0, .int .i64 0]).alloc (.cells #[.slice A k c] 22)).alloc (.cells #[.slice (some ⟨w.heap.size + 1 + 1, 0, none⟩) 1 1] 37)
    rwa [World.size_alloc] at this
  have hb3 : Box W0 (w.heap.size + 2) 22 #[.slice A k c] := by
    rw [← hW0]; have := (Box.new ((w.alloc (.cells #[.int .i64 0, .int .i64 0] 27)).alloc (.cells #[.int .i64 0, .int .i64 0, .int .i64 0] 52)) 22 #[.slice A k c]).alloc (.cells #[.slice (some ⟨w.heap.size + 1 + 1, 0, none⟩) 1 1] 37)
    rwa [World.size_alloc, World.size_alloc] at this
  have hP : PartsK (fun b => b < w.heap.size ∨ b = w.heap.size + 2) [bs.take k] (.slice (some ⟨w.heap.size + 1 + 1, 0, none⟩) 1 1) W0 := by
    refine ⟨_, 1, rfl, Nat.le_refl _, by decide, fun _ => ⟨_, 0, rfl, .inr rfl, fun j hj => ?_⟩⟩
    have hj0 : j = 0 := by simpa using hj
    subst hj0
    obtain ⟨A', c', e, h2, h3, h4⟩ := VBytes.form Hcut.out
    have hl : (bs.take k).length = k := by simp; omega
    simp only [List.getElem_cons_zero]
    rw [hl] at e
    cases e
    refine ⟨A, c, by rw [hl]; exact hb3.at_ 0 rfl, h2, h3, fun hp => ?_⟩
    obtain ⟨b, off, rfl, hb, hc⟩ := h4 hp
    exact ⟨b, off, rfl, .inl hb, fun i hi => (hE0.cell (p := ⟨b, off + i, none⟩) hb).trans (hc i hi)⟩
  have hb4 : Box W0 (w.heap.size + 3) 37 #[.slice (some ⟨w.heap.size + 1 + 1, 0, none⟩) 1 1] := by
    rw [← hW0]
    have := Box.new (((w.alloc (.cells #[.int .i64 0, .int .i64 0] 27)).alloc (.cells #[.int .i64 0, .int .i64 0, .int .i64 0] 52)).alloc (.cells #[.slice A k c] 22)) 37 #[.slice (some ⟨w.heap.size + 1 + 1, 0, none⟩) 1 1]
    rwa [World.size_alloc, World.size_alloc, World.size_alloc] at this
  have hflat : [bs.take k].flatten = bs.take k := by simp
  rw [hW0]
  have hKl : ∀ b, (b < w.heap.size ∨ b = w.heap.size + 2) → b < W0.heap.size := fun b h => by omega
  have hst := all_stops Fence.wide 8 trivial rfl (by omega) (w.heap.size + 3) (fun b => b < w.heap.size ∨ b = w.heap.size + 2) [bs.take k] _ W0 hP (hb4.at_ 0 rfl) hKl
  rw [hflat] at hst
  have hlk : (bs.take k).length ≤ 1000000 := by simp; omega
  have hq := countC_le (0, 0, 0) (bs.take k)
  refine wpIn_rangeFunc_ownF (F := Fence.wide) rfl h1 (gf := 27) (lb := #[.pointer (some ⟨w.heap.size + 3, 0, none⟩)]) rfl trivial (enters_of Try.func27 (by kernel_rfl) rfl)
    hst KeepK.t (keepK_b hKl) (Below.refl _ _) (fun _ => rfl)
    (fun pre W => (Box W (w.heap.size + 1) 52 (cntA (countC (0, 0, 0) pre)) ∧ Box W w.heap.size 27 #[.int .i64 0, .int .i64 0] ∧ w.heap.size + 4 ≤ W.heap.size) ∧ Below w.heap.size w W)
    (fun _ _ _ => False)
    (OwnFrom.and (Own.from (fun s X Y row hs hg hr => ⟨box_own _ _ (fun pre => cntA (countC (0, 0, 0) pre)) s X Y row hs.1 hg hr, box_own _ _ (fun _ => #[.int .i64 0, .int .i64 0]) s X Y row hs.2.1 hg hr, Nat.le_trans hs.2.2 hg.size⟩) _) (ownFrom_below (Nat.le_refl _) (by omega)))
    (fun _ _ _ _ _ hs _ _ => hs)
    ⟨⟨hb2, hb1, by omega⟩, hE0⟩
    (fun b => { tmps := #[.slice A bs.length c, .int .i64 (k : Int), undef, undef, .pointer (some ⟨w.heap.size, 0, none⟩), .bool false, .pointer (some ⟨w.heap.size + 1, 0, none⟩), .int .u8 (b.toNat : Int), .int .i64 (k : Int),
      .bool false, .bool false, .int .i64 (k : Int), .slice A bs.length c, .int .i64 (bs.length : Int), .bool false, .bool false, undef, .agg #[.int .i64 0, .int .i64 0, .int .i64 0], .slice A bs.length c, .int .i64 (k : Int), .slice A k c,
      .slice (some ⟨w.heap.size + 1 + 1, 0, none⟩) 1 1, .func (.func 27) #[] #[.pointer (some ⟨w.heap.size + 1 + 1 + 1, 0, none⟩)], .int .u8 (b.toNat : Int), undef, undef, undef, undef, undef], defers := [] }) ?assign ?body ?done ?stop
  case assign =>
    intro l x W K hK
    gi_wp2
    exact hK
  case body =>
    rintro l pre b W ⟨⟨hb1, hb2, hsW⟩, hB⟩ hpl
    obtain ⟨p1, p2, p3, p4, p5, p6⟩ := countC_le (0, 0, 0) pre rfl (by show (0 : Int) + _ ≤ _; omega)
    gi_wp2_with (refine ⟨trivial, ?_⟩; gi_at_call 18; refine (CallsIn.inRound l (callsIn_wide.2 (come_any _ _ _ _ p1 p2 p3 p4 p5 p6 hb1))).mono ?_; rintro e w2 ⟨rfl, hg2, hb3⟩)
    have hlt := hb1.lt
    refine ⟨KeepsOthers.of_grownBy hg2 (fun j o e ho => ?_), ⟨hg2.size, fun k hk => ?_⟩, ⟨⟨?_, ?_⟩, hB.grown hg2 hB.size (fun k e => by cases e; omega)⟩⟩
    · cases e
      rw [show W.heap[w.heap.size + 1]? = _ from hb1] at ho
      cases ho; rfl
    · rcases Nat.lt_or_ge k W.heap.size with h | h
      · exact hg2.block k h (by simp; omega)
      · exact absurd hsW (by omega)
    · rw [countC_snoc]; exact hb3
    · exact ⟨(hg2.block _ hb2.lt (by simp)).trans hb2, Nat.le_trans hsW hg2.size⟩
  case done =>
    rintro D ys W hD rfl ⟨⟨hb1, hb2, -⟩, hB⟩ hK
    have hc0 := hb1.at_ 0 rfl
    have hc1 := hb1.at_ 1 rfl
    have hc2 := hb1.at_ 2 rfl
    have hD2 : w.heap.size ≠ D := by omega
    have hD3 : w.heap.size ≤ D := by omega
    have hnx := next_any (countC (0, 0, 0) (bs.take k))
    clear hs0 hE0 hb4 hP hst hflat hq hlk hk2 hk3 hb3 hKl
    unfold cntV at hnx
    generalize countC (0, 0, 0) (bs.take k) = q at *
    obtain ⟨q1, q2, q3⟩ := q
    dsimp only at *
    unfold plcV at *
    generalize (nextC (q1, q2, q3)).1 = x at *
    generalize (nextC (q1, q2, q3)).2 = y at *
    have HW := hide hb2
    have HK := hide hK
    have HB := hide hB
    clear hb1 hb2 hK hB
    gi_wp2_with (refine ⟨trivial, ?_⟩; gi_at_call 8; refine (callsIn_wide.2 (hnx _)).mono ?_; rintro e w2 ⟨v, rfl, hE2, rfl⟩; have hb5 := HW.out.ext hE2; have hz0 := hb5.at_ 0 rfl; have hz1 := hb5.at_ 1 rfl; have hy0 := hb5.frozen 0; have hy1 := hb5.frozen 1; clear hb5)
    have hb5 := HW.out.ext hE2
    have hK2 := (hE2.block D (Array.getElem?_eq_some_iff.1 HK.out).1).trans HK.out
    have hB5 := HB.out.trans (hE2.mono HB.out.size)
    have hb3 := (hb5.set_ 0 (.int .i64 x)).set_ 1 (.int .i64 y)
    have hB3 := (hB5.setCell (p := ⟨w.heap.size, 0, none⟩) (by simp) (.int .i64 x)).setCell (p := ⟨w.heap.size, 1, none⟩) (by simp) (.int .i64 y)
    have hK' := ((KeepsOthers.setCell w2 ⟨w.heap.size, 0, none⟩ (.int .i64 x)).trans (KeepsOthers.setCell _ ⟨w.heap.size, 1, none⟩ (.int .i64 y))).same D _ hK2 rfl
    refine ⟨by simp, .inl ⟨_, _, rfl, run_takeDeferred hK', ?_⟩⟩
    refine ⟨_, results_cell_tmp rfl _ _ w.heap.size 27 #[.int .i64 x, .int .i64 y] (0, 0) _ (.bool true) rfl rfl ?_ Try.underlying27 rfl (by kernel_rfl), ?_⟩
    · exact (World.putObj_heap_other hD2).trans hb3
    · exact tup_two (hB3.trans (belowK_b (w := w) (Nat.le_refl _) _ D _ _ hD3 hK' rfl rfl)) rfl rfl
  case stop =>
    rintro D c pre W _ _ h _
    exact h.elim
theorem of_any (bs : List UInt8) (at_ : Int) (v : Value) (w : World) (hB : VBytes bs v w) (hlen : bs.length ≤ 1000000) : Calls Try.prog 7 #[v, .int .i64 at_] w (Ret w (VTup [VEq (plcV (ofC bs at_).1), VEq (.bool (ofC bs at_).2)])) := by
  unfold ofC
  by_cases h : at_ < 0 ∨ (bs.length : Int) ≤ at_
  · rw [if_pos h]; exact of_no bs at_ v w hB h
  · rw [if_neg h]
    obtain ⟨k, rfl⟩ : ∃ k : Nat, at_ = (k : Int) := ⟨at_.toNat, by omega⟩
    rw [Int.toNat_natCast]
    exact of_yes bs k v w hB (by omega) hlen
end Go.Proofs.Ytdaghnnmbilgfaa
