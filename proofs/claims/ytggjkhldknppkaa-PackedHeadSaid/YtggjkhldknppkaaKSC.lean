/- Feed of the document, Of, Take, and what is too great to be asked. -/
import Derived.Test.YtggjkhldknppkaaKSB
namespace Go.Proofs.Ytggjkhldknppkaa.Sm
open Go.RowKit SumM

theorem feed_any (a b : Int) (ps : List (List UInt8)) (v : Value) (w : World) (hP : VParts ps v w) :
    Calls Try.prog 42 #[.agg #[.int .i64 a, .int .i64 b], v] w (Ret w (VEq (pairV (feed (a, b) ps.flatten)))) := by
  cases hr : rightB a b
  · have H : Hid (feed (a, b) ps.flatten = (a, b)) := by show feed (a, b) ps.flatten = (a, b); simp [feed, hr]
    obtain ⟨A, c, rfl, _⟩ := hP
    go_enter Try.func42, Try.ntmps42
    go_wp2_with fail
    refine (right_any _ _ _).mono ?_
    rintro e w' ⟨v, rfl, hE, rfl⟩
    obtain ⟨hc, hf⟩ := hE.rules
    go_wp2
    refine bodyPost_ret (v := pairV (a, b)) (by simp [results, Try.results42, go_sem, hc]; rfl) rfl (Ret.mk ?_ (by rw [H.out]; rfl))
    exact ((((Below.refl _ _).alloc (Nat.le_refl _) _).alloc (by simp) _).trans (hE.mono (by simp; omega))).setCell (by simp) _ |>.setCell (by simp) _
  · have h := feed_yes a b ps v w hr hP
    have e : feed (a, b) ps.flatten = feedL (a, b) ps.flatten := by simp [feed, hr]
    rw [e]; exact h

set_option maxRecDepth 100000 in
set_option maxHeartbeats 2000000 in
theorem rfeed_yes (a b_1 : Int) (ps : List (List UInt8)) (v : Value) (w : World) (hr : rightB a b_1 = true) (hP : VParts ps v w) :
    Calls Try.prog 35 #[.agg #[.int .i64 a, .int .i64 b_1], v] w (Ret w (VEq (pairV (feedL (a, b_1) ps.flatten)))) := by
  obtain ⟨A, c, rfl, hc1, hc2, hx⟩ := VParts.form hP
  clear hP
  unfold maxLen at hc2
  go_enter Try.func35, Try.ntmps35
  go_wp2_with fail
  refine (rright_any _ _ _).mono ?_
  rintro e w1 ⟨v, rfl, hE1, rfl⟩
  have Hr := hide hr
  go_wp2
  clear hr
  have hbs := ((Box.new w 64 #[.int .i64 a, .int .i64 b_1]).alloc (.cells #[.int .i64 0, .int .i64 0] 64)).ext hE1
  have hbz := (Box.new (w.alloc (.cells #[.int .i64 a, .int .i64 b_1] 64)) 64 #[.int .i64 0, .int .i64 0]).ext hE1
  rw [World.size_alloc] at hbz
  have hE2 : Ext w w1 := ((ext_alloc _ _).tr (ext_alloc _ _)).tr hE1
  go_loopw [5] (fun i wr => ∃ k : Nat, k ≤ ps.length ∧ i = .int .i64 k ∧ (Box wr w.heap.size 64 #[.int .i64 (feedL (a, b_1) (ps.take k).flatten).1, .int .i64 (feedL (a, b_1) (ps.take k).flatten).2] ∧ Box wr (w.heap.size + 1) 64 #[.int .i64 0, .int .i64 0]) ∧ Below w.heap.size w wr)
    (fun i _ => ps.length - (intOf i).toNat)
  case atStart => exact ⟨0, Nat.zero_le _, rfl, ⟨hbs, hbz⟩, hE2⟩
  case round =>
    obtain ⟨k, hk, rfl, ⟨hb1, hb2⟩, hB⟩ := hrel
    by_cases hlt : k < ps.length
    · obtain ⟨b, off, rfl, hb, hcell⟩ := hx (by omega)
      obtain ⟨x, hx1, hx2⟩ := hcell k hlt
      obtain ⟨A2, c2, rfl, hd1, hd2, hy2⟩ := VBytes.form hx2
      unfold maxLen at hd2
      have hfl := take_succ_flat ps k hlt
      have hJ : Box wr w.heap.size 64 #[.int .i64 (feedL (a, b_1) ((ps.take k).flatten ++ ps[k].take 0)).1, .int .i64 (feedL (a, b_1) ((ps.take k).flatten ++ ps[k].take 0)).2] := by simpa using hb1
      clear hcell hx hx2 hb1 hbs hbz
      generalize hpk : ps[k] = bs at *
      have Hfl := hide hfl
      clear hpk hfl
      go_wp2
      obtain ⟨wo, rfl⟩ : ∃ wo : World, wo = wr := ⟨_, rfl⟩
      go_loopw [6] (fun i wr => ∃ j : Nat, j ≤ bs.length ∧ i = .int .i64 j ∧ (Box wr w.heap.size 64 #[.int .i64 (feedL (a, b_1) ((ps.take k).flatten ++ bs.take j)).1, .int .i64 (feedL (a, b_1) ((ps.take k).flatten ++ bs.take j)).2] ∧ Box wr (w.heap.size + 1) 64 #[.int .i64 0, .int .i64 0]) ∧ Below w.heap.size w wr)
        (fun i _ => bs.length - (intOf i).toNat)
      case atStart => exact ⟨0, Nat.zero_le _, rfl, ⟨hJ, hb2⟩, hB⟩
      case round =>
        obtain ⟨j, hj, rfl, ⟨hb1, hb2⟩, hB⟩ := hrel
        have hx3 := (hB.cell (p := ⟨b, off + k, none⟩) hb).trans hx1
        by_cases hjt : j < bs.length
        · obtain ⟨b2, off2, rfl, hb2', hcell2⟩ := hy2 (by omega)
          have hx4 := (hB.cell (p := ⟨b2, off2 + j, none⟩) hb2').trans (hcell2 j hjt)
          have hts := take_snoc bs j hjt
          have hc0 := hb1.at_ 0 rfl
          have hc1 := hb1.at_ 1 rfl
          have hf0 := hb1.frozen 0
          have hf1 := hb1.frozen 1
          have hby := UInt8.toNat_lt bs[j]
          have hne1 : ¬ b2 = w.heap.size := by omega
          have hne2 : ¬ b = w.heap.size := by omega
          obtain ⟨p1, p2, p3, p4⟩ := feedL_right (a, b_1) Hr.out ((ps.take k).flatten ++ bs.take j)
          have Hst : Hid (feedL (a, b_1) ((ps.take k).flatten ++ bs.take (j + 1)) = fstep (feedL (a, b_1) ((ps.take k).flatten ++ bs.take j)) bs[j]) := by
            show _ = _
            rw [hts, ← List.append_assoc, feedL_snoc]
          clear hts hcell2 hJ
          generalize hfe : feedL (a, b_1) ((ps.take k).flatten ++ bs.take j) = s at *
          have Hfe := hide hfe
          have Hb1 := hide hb1
          have Hb2 := hide hb2
          clear hfe hb1 hb2
          go_wp2
          go_region
          go_wp2
          refine ⟨⟨j + 1, by omega, by go_num, ⟨?_, (Hb2.out.far (by simp) _).far (by simp) _⟩, (hB.setCell (Nat.le_refl _) _).setCell (Nat.le_refl _) _ |>.drew⟩, by simp [intOf]; omega⟩
          rw [Hst.out]
          have h5 : (s.2 + (s.1 + (bs[j].toNat : Int))) % 65521 = (s.2 + (s.1 + (bs[j].toNat : Int)) % 65521) % 65521 := by omega
          have := ((Hb1.out.set_ 0 (.int .i64 ((s.1 + (bs[j].toNat : Int)) % 65521))).set_ 1 (.int .i64 ((s.2 + (s.1 + (bs[j].toNat : Int))) % 65521))).drew
          show Box _ _ _ #[.int .i64 ((s.1 + (bs[j].toNat : Int)) % 65521), .int .i64 ((s.2 + (s.1 + (bs[j].toNat : Int)) % 65521) % 65521)]
          rw [← h5]
          exact this
        · obtain rfl : j = bs.length := by omega
          go_wp2
          go_roundw
          case rel => exact ⟨k + 1, by omega, by go_num, ⟨by rw [Hfl.out]; simpa using hb1, hb2⟩, hB⟩
          case measure => simp [intOf]; omega
    · obtain rfl : k = ps.length := by omega
      have hc0 := hb1.at_ 0 rfl
      have hc1 := hb1.at_ 1 rfl
      have hz0 := hb2.at_ 0 rfl
      have hz1 := hb2.at_ 1 rfl
      have hy0 := hb2.frozen 0
      have hy1 := hb2.frozen 1
      rw [List.take_length] at *
      go_wp2
      refine bodyPost_ret (results_cell_row rfl _ _ (w.heap.size + 1) 64 #[.int .i64 (feedL (a, b_1) ps.flatten).1, .int .i64 (feedL (a, b_1) ps.flatten).2] (0, 0) _ rfl ((hb2.set_ 0 _).set_ 1 _) Try.underlying64 rfl (by kernel_rfl)) rfl (Ret.mk ((hB.setCell (by simp) _).setCell (by simp) _) rfl)

theorem rfeed_any (a b : Int) (ps : List (List UInt8)) (v : Value) (w : World) (hP : VParts ps v w) :
    Calls Try.prog 35 #[.agg #[.int .i64 a, .int .i64 b], v] w (Ret w (VEq (pairV (feed (a, b) ps.flatten)))) := by
  cases hr : rightB a b
  · have H : Hid (feed (a, b) ps.flatten = (a, b)) := by show feed (a, b) ps.flatten = (a, b); simp [feed, hr]
    obtain ⟨A, c, rfl, _⟩ := hP
    go_enter Try.func35, Try.ntmps35
    go_wp2_with fail
    refine (rright_any _ _ _).mono ?_
    rintro e w' ⟨v, rfl, hE, rfl⟩
    obtain ⟨hc, hf⟩ := hE.rules
    go_wp2
    refine bodyPost_ret (v := pairV (a, b)) (by simp [results, Try.results35, go_sem, hc]; rfl) rfl (Ret.mk ?_ (by rw [H.out]; rfl))
    exact ((((Below.refl _ _).alloc (Nat.le_refl _) _).alloc (by simp) _).trans (hE.mono (by simp; omega))).setCell (by simp) _ |>.setCell (by simp) _
  · have h := rfeed_yes a b ps v w hr hP
    have e : feed (a, b) ps.flatten = feedL (a, b) ps.flatten := by simp [feed, hr]
    rw [e]; exact h

theorem feed_pair (s : Int × Int) (ps : List (List UInt8)) (v : Value) (w : World) (hP : VParts ps v w) : Calls Try.prog 42 #[pairV s, v] w (Ret w (VEq (pairV (feed s ps.flatten)))) := feed_any s.1 s.2 ps v w hP
theorem value_pair (s : Int × Int) (w : World) : Calls Try.prog 41 #[pairV s] w (Ret w (VEq (.int .u32 (value s)))) := value_any s.1 s.2 w
theorem rfeed_pair (s : Int × Int) (ps : List (List UInt8)) (v : Value) (w : World) (hP : VParts ps v w) : Calls Try.prog 35 #[pairV s, v] w (Ret w (VEq (pairV (feed s ps.flatten)))) := rfeed_any s.1 s.2 ps v w hP
theorem rvalue_pair (s : Int × Int) (w : World) : Calls Try.prog 34 #[pairV s] w (Ret w (VEq (.int .u32 (value s)))) := rvalue_any s.1 s.2 w

set_option maxHeartbeats 1000000 in
theorem of_any (ps : List (List UInt8)) (v : Value) (w : World) (hP : VParts ps v w) : Calls Try.prog 27 #[v] w (Ret w (VEq (.int .u32 (ofB ps.flatten)))) := by
  obtain ⟨A, n, c, rfl⟩ := VSl.slice hP
  go_enter Try.func27, Try.ntmps27
  go_wp2_with fail
  refine (new_any _).mono ?_
  rintro e w1 ⟨v, rfl, hE1, rfl⟩
  go_wp2_with fail
  refine (feed_pair (1, 0) ps _ _ ((VParts ps).st _ _ _ hP hE1)).mono ?_
  rintro e w2 ⟨v, rfl, hE2, rfl⟩
  go_wp2_with fail
  refine (value_pair _ _).mono ?_
  rintro e w3 ⟨v, rfl, hE3, rfl⟩
  go_wp2
  go_ret
  exact Ret.mk ((hE1.tr hE2).tr hE3) rfl
set_option maxHeartbeats 1000000 in
theorem rof_any (ps : List (List UInt8)) (v : Value) (w : World) (hP : VParts ps v w) : Calls Try.prog 20 #[v] w (Ret w (VEq (.int .u32 (ofB ps.flatten)))) := by
  obtain ⟨A, n, c, rfl⟩ := VSl.slice hP
  go_enter Try.func20, Try.ntmps20
  go_wp2_with fail
  refine (rnew_any _).mono ?_
  rintro e w1 ⟨v, rfl, hE1, rfl⟩
  go_wp2_with fail
  refine (rfeed_pair (1, 0) ps _ _ ((VParts ps).st _ _ _ hP hE1)).mono ?_
  rintro e w2 ⟨v, rfl, hE2, rfl⟩
  go_wp2_with fail
  refine (rvalue_pair _ _).mono ?_
  rintro e w3 ⟨v, rfl, hE3, rfl⟩
  go_wp2
  go_ret
  exact Ret.mk ((hE1.tr hE2).tr hE3) rfl

end Go.Proofs.Ytggjkhldknppkaa.Sm
