/- Feed, where all is counted; Of. -/
import Derived.Test.YtdaghnnmbilgfaaLinC
namespace Go.Proofs.Ytdaghnnmbilgfaa
open Go.RowKit Go.Shelf LinM
attribute [local go_sem] Oper.semAt_some
/-- How great a count's numbers are behind some bytes. -/
theorem countC_le (c : Cnt) (bs : List UInt8) (h : rightC c = true) (hm : c.1 + bs.length ≤ 2147483647) : (countC c bs).1 ≤ 4000000000 ∧ -4000000000 ≤ (countC c bs).1 ∧ (countC c bs).2.1 ≤ 4000000000 ∧ -4000000000 ≤ (countC c bs).2.1 ∧ (countC c bs).2.2 ≤ 4000000000 ∧ -4000000000 ≤ (countC c bs).2.2 := by
  have h1 := (rightC_iff _).1 (countC_right c bs h hm)
  omega
set_option maxRecDepth 100000 in
set_option maxHeartbeats 2000000 in
theorem feed_yes (c : Cnt) (ps : List (List UInt8)) (v : Value) (w : World) (hP : VParts ps v w) (hrr : rightC c = true) (hsum : c.1 + ps.flatten.length ≤ 2147483647) : Calls Try.prog 9 #[cntV c, v] w (Ret w (VTup [VEq (cntV (countC c ps.flatten)), VEq (.int .i64 0)])) := by
  have hr := right_any c
  have hri := (rightC_iff c).1 hrr
  have hP0 := hP
  obtain ⟨A, cc, rfl, hc1, hc2, hx⟩ := VParts.form hP
  clear hP
  unfold maxLen at hc2
  rw [hrr] at hr
  have Hrr := hide hrr
  have Hsum := hide hsum
  have hcv : cntV c = .agg #[.int .i64 c.1, .int .i64 c.2.1, .int .i64 c.2.2] := rfl
  rw [hcv] at hr ⊢
  have hx0 : 0 ≤ c.1 := hri.1
  have hx1 : c.1 ≤ 2147483647 := hri.2.1
  have hxs : c.1 + (flen ps ps.length : Int) ≤ 2147483647 := by unfold flen; rw [List.take_length]; exact hsum
  clear hrr hri hsum hcv
  obtain ⟨x, hxe⟩ : ∃ x, x = c.1 := ⟨_, rfl⟩
  obtain ⟨y, hye⟩ : ∃ y, y = c.2.1 := ⟨_, rfl⟩
  obtain ⟨z, hze⟩ : ∃ z, z = c.2.2 := ⟨_, rfl⟩
  rw [← hxe, ← hye, ← hze] at hr ⊢
  rw [← hxe] at hx0 hx1 hxs
  have hcnt : cntA c = #[.int .i64 x, .int .i64 y, .int .i64 z] := by unfold cntA; rw [hxe, hye, hze]
  have Hcnt := hide hcnt
  clear hxe hye hze hcnt
  refine (callsIn_wide (n := 9)).1 ?_
  have h1 : 1 ≤ 9 := by omega
  refine callsIn_of_wp_marks Try.func9 rfl trivial ?_ rfl
  simp only [Try.ntmps9, List.size_toArray, List.length_cons, List.length_nil, Nat.reduceAdd, Nat.reduceSub, Array.replicate_succ, Array.replicate_zero, List.push_toArray, List.append_toArray, List.nil_append, List.cons_append]
  gi_wp2_with fail
  refine ⟨trivial, ?_⟩
  refine (callsIn_wide.2 (hr _)).mono ?_
  rintro e w1 ⟨v, rfl, hE1, rfl⟩
  clear hr
  have hE : Ext w w1 := ((ext_alloc _ _).tr (ext_alloc _ _)).tr hE1
  have hb2 := ((Box.new w 25 #[.int .i64 x, .int .i64 y, .int .i64 z]).alloc (.cells #[.int .i64 0, .int .i64 0, .int .i64 0] 25)).ext hE1
  have hb4 := (Box.new (w.alloc (.cells #[.int .i64 x, .int .i64 y, .int .i64 z] 25)) 25 #[.int .i64 0, .int .i64 0, .int .i64 0]).ext hE1
  rw [World.size_alloc] at hb4
  have hsz : w.heap.size + 2 ≤ w1.heap.size := by have := hE1.size; simp at this; omega
  clear hE1
  have hc20 := hb2.at_ 0 rfl
  have hc21 := hb2.at_ 1 rfl
  have hc22 := hb2.at_ 2 rfl
  gi_wp2
  gi_loop [6, 20] (fun r i => ∃ k m : Nat, k ≤ ps.length ∧ i = .int .i64 (k : Int) ∧ r = .int .i64 (2147483647 - x - (m : Int)) ∧ x + (m : Int) ≤ 2147483647 ∧ Hid (flen ps k = m)) (fun _ i => ps.length - (intOf i).toNat)
  case atStart => exact ⟨0, 0, by omega, rfl, by simp, by simpa using hx1, rfl⟩
  case round =>
    obtain ⟨k, m, hk, rfl, rfl, hm, Hm⟩ := hrel
    by_cases hlt : k < ps.length
    · obtain ⟨b, off, rfl, hb, hcell⟩ := hx (by omega)
      obtain ⟨u, hu1, hu2⟩ := hcell k hlt
      have hu3 := (hE.cell (p := ⟨b, off + k, none⟩) hb).trans hu1
      have Hfl := hide (flen_succ ps k hlt)
      have hle : flen ps (k + 1) ≤ flen ps ps.length := by have := flen_le ps (k + 1); unfold flen at this ⊢; rw [List.take_length]; exact this
      rw [Hfl.out, Hm.out] at hle
      obtain ⟨A2, c2, rfl, hd1, hd2, -⟩ := VBytes.form hu2
      unfold maxLen at hd2
      clear hcell hx hu1 hu2
      generalize flen ps ps.length = tot at *
      generalize ps[k].length = n at *
      have hbg : ¬ 2147483647 - x - (m : Int) < (n : Int) := by omega
      gi_wp2
      go_round
      case rel => exact ⟨k + 1, m + n, by omega, by go_num, congrArg (Value.int .i64) (by omega), by omega, by show _ = _; rw [Hfl.out, Hm.out]⟩
      case measure => simp [intOf]; omega
    · obtain rfl : k = ps.length := by omega
      clear hx
      gi_wp2_with (refine ⟨trivial, ?_⟩; gi_at_call 17; refine (callsIn_wide.2 (all_any _ _ _ _)).mono ?_; rintro e w2 ⟨rfl, rfl⟩)
      obtain ⟨W0, hW0⟩ : ∃ W0, (w1.alloc (.cells #[.int .i64 x, .int .i64 y, .int .i64 z] 52)).alloc (.cells #[.slice A ps.length cc] 37) = W0 := ⟨_, rfl⟩
      have hs0 : W0.heap.size = w1.heap.size + 2 := by rw [← hW0]; simp
      have hE3 : Ext w1 W0 := by rw [← hW0]; exact (ext_alloc _ _).tr (ext_alloc _ _)
      have hbr : Box W0 w1.heap.size 52 #[.int .i64 x, .int .i64 y, .int .i64 z] := by rw [← hW0]; exact (Box.new _ _ _).alloc _
      have hbp : Box W0 (w1.heap.size + 1) 37 #[.slice A ps.length cc] := by rw [← hW0]; have := Box.new (w1.alloc (.cells #[.int .i64 x, .int .i64 y, .int .i64 z] 52)) 37 #[.slice A ps.length cc]; rwa [World.size_alloc] at this
      rw [hW0]
      rw [← Hcnt.out] at hbr
      have hPK : PartsK (fun k => k < w.heap.size) ps (.slice A ps.length cc) W0 := partsK_ext (PartsK.of hP0 fun k hk => hk) (hE.tr hE3) (fun k hk => hk)
      refine wpIn_rangeFunc_ownF (F := Fence.wide) rfl h1 (gf := 27) (lb := #[.pointer (some ⟨w1.heap.size + 1, 0, none⟩)]) rfl trivial (enters_of Try.func27 (by kernel_rfl) rfl)
        (all_stops Fence.wide 8 trivial rfl (by omega) (w1.heap.size + 1) (fun k => k < w.heap.size) ps _ W0 hPK (hbp.at_ 0 rfl) (fun k hk => by omega)) KeepK.t (keepK_b (fun k hk => by omega)) (Below.refl _ _) (fun _ => rfl)
        (fun pre W => (Box W w1.heap.size 52 (cntA (countC c pre)) ∧ Box W (w.heap.size + 1) 25 #[.int .i64 0, .int .i64 0, .int .i64 0]) ∧ Below w.heap.size w W)
        (fun _ _ _ => False)
        (OwnFrom.and (Own.from (fun s X Y row hs hg hr => ⟨box_own _ _ (fun pre => cntA (countC c pre)) s X Y row hs.1 hg hr, box_own _ _ (fun _ => #[.int .i64 0, .int .i64 0, .int .i64 0]) s X Y row hs.2 hg hr⟩) _) (ownFrom_below (Nat.le_refl _) (by omega)))
        (fun _ _ _ _ _ hs _ _ => hs)
        ⟨⟨hbr, hb4.ext hE3⟩, hE.tr hE3⟩
        (fun b => { tmps := #[.agg #[.int .i64 x, .int .i64 y, .int .i64 z], .slice A ps.length cc, .pointer (some ⟨w.heap.size, 0, none⟩), undef, .pointer (some ⟨w.heap.size + 1, 0, none⟩), u5, .int .i64 (2147483647 - x - (m : Int)), undef, u8, .pointer (some ⟨w1.heap.size, 0, none⟩), .int .u8 (b.toNat : Int),
          .agg #[.int .i64 x, .int .i64 y, .int .i64 z], .bool true, .bool false, undef, .pointer (some ⟨w.heap.size, 0, none⟩), .int .i64 x, .int .i64 (2147483647 - x), .slice A ps.length cc, .int .i64 ps.length, .int .i64 ps.length, .bool false, u22, u23, u24, u25, u26, u27, u28, u29, u30, u31, u32, u33,
          .agg #[.int .i64 x, .int .i64 y, .int .i64 z], .agg #[.int .i64 x, .int .i64 y, .int .i64 z], .slice A ps.length cc, .func (.func 27) #[] #[.pointer (some ⟨w1.heap.size + 1, 0, none⟩)], .int .u8 (b.toNat : Int), undef, undef, undef, undef], defers := [] }) ?assign ?body ?done ?stop
      case assign =>
        intro l x W K hK
        gi_wp2
        exact hK
      case body =>
        rintro l pre b W ⟨⟨hb1, hb2⟩, hB⟩ hpl
        obtain ⟨p1, p2, p3, p4, p5, p6⟩ := countC_le c pre Hrr.out (by have := Hsum.out; omega)
        gi_wp2_with (refine ⟨trivial, ?_⟩; gi_at_call 18; refine (CallsIn.inRound l (callsIn_wide.2 (come_any _ _ _ _ p1 p2 p3 p4 p5 p6 hb1))).mono ?_; rintro e w2 ⟨rfl, hg2, hb3⟩)
        have hlt : w1.heap.size < W.heap.size := hb1.lt
        have hszz : w.heap.size ≤ w1.heap.size := by omega
        refine ⟨KeepsOthers.of_grownBy hg2 (fun j o e ho => ?_), ⟨hg2.size, fun k hk => hg2.block k (by have := hB.size; omega) (by simp; omega)⟩, ⟨⟨?_, ?_⟩, hB.grown hg2 hB.size (fun k e => by cases e; exact hszz)⟩⟩
        · cases e
          rw [show W.heap[w1.heap.size]? = _ from hb1] at ho
          cases ho; rfl
        · rw [countC_snoc]; exact hb3
        · exact (hg2.block _ hb2.lt (by simp; omega)).trans hb2
      case done =>
        rintro D ys W hD rfl ⟨⟨hb1, hb2⟩, hB⟩ hK
        have hc0 := hb1.at_ 0 rfl
        have hc1 := hb1.at_ 1 rfl
        have hc2 := hb1.at_ 2 rfl
        have hz0 := hb2.at_ 0 rfl
        have hz1 := hb2.at_ 1 rfl
        have hz2 := hb2.at_ 2 rfl
        have hy0 := hb2.frozen 0
        have hy1 := hb2.frozen 1
        have hy2 := hb2.frozen 2
        have hD2 : w.heap.size + 1 ≠ D := by omega
        have hD3 : w.heap.size ≤ D := by omega
        clear hs0 hE3 hbr hbp
        generalize countC c ps.flatten = q at *
        obtain ⟨q1, q2, q3⟩ := q
        dsimp only at *
        gi_wp2
        have hb3 := ((hb2.set_ 0 (.int .i64 q1)).set_ 1 (.int .i64 q2)).set_ 2 (.int .i64 q3)
        have hB3 := ((hB.setCell (p := ⟨w.heap.size + 1, 0, none⟩) (by simp) (.int .i64 q1)).setCell (p := ⟨w.heap.size + 1, 1, none⟩) (by simp) (.int .i64 q2)).setCell (p := ⟨w.heap.size + 1, 2, none⟩) (by simp) (.int .i64 q3)
        have hK' := (((KeepsOthers.setCell W ⟨w.heap.size + 1, 0, none⟩ (.int .i64 q1)).trans (KeepsOthers.setCell _ ⟨w.heap.size + 1, 1, none⟩ (.int .i64 q2))).trans (KeepsOthers.setCell _ ⟨w.heap.size + 1, 2, none⟩ (.int .i64 q3))).same D _ hK rfl
        refine ⟨by simp, .inl ⟨_, _, rfl, run_takeDeferred hK', ?_⟩⟩
        refine ⟨_, results_cell_tmp rfl _ _ (w.heap.size + 1) 25 #[.int .i64 q1, .int .i64 q2, .int .i64 q3] (0, 0) _ (.int .i64 0) rfl rfl ?_ Try.underlying25 rfl (by kernel_rfl), ?_⟩
        · exact (World.putObj_heap_other hD2).trans hb3
        · exact tup_two (hB3.trans (belowK_b (w := w) (Nat.le_refl _) _ D _ _ hD3 hK' rfl rfl)) rfl rfl
      case stop =>
        rintro D c pre W _ _ h _
        exact h.elim
theorem feed_any (c : Cnt) (ps : List (List UInt8)) (v : Value) (w : World) (hP : VParts ps v w) : Calls Try.prog 9 #[cntV c, v] w (Ret w (VTup [VEq (cntV (feedC c ps.flatten).1), VEq (.int .i64 (feedC c ps.flatten).2)])) := by
  cases hr : rightC c
  · rw [feedC_no _ hr]; exact feed_no c ps v w hP hr
  · by_cases hs : c.1 + (ps.flatten.length : Int) ≤ 2147483647
    · rw [feedC_yes _ hr hs]; exact feed_yes c ps v w hP hr hs
    · rw [feedC_big _ (by omega)]; exact feed_big c ps v w hP hr (by omega)
end Go.Proofs.Ytdaghnnmbilgfaa
