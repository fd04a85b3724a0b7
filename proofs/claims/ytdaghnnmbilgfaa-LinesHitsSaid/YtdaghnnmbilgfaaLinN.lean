/- The wakes, walked. -/
import Derived.Test.YtdaghnnmbilgfaaLinL
namespace Go.Proofs.Ytdaghnnmbilgfaa
open Go.RowKit Go.Shelf LinM
set_option maxRecDepth 100000 in
set_option maxHeartbeats 2000000 in
theorem wakes_any (w : World) : Calls Try.prog 6 #[] w (Ret w (VEq (.bool true))) := by
  go_enter Try.func6, Try.ntmps6
  go_upto_region 1 with (fail)
  refine vregion0 2 (by kernel_rfl) ?_
  refine VWalk.litB [97, 10, 98, 10, 10, 99] 22 5 6 _ rfl rfl (by decide) (by decide) rfl Try.underlying22 (by kernel_rfl) (by kernel_rfl) (want_none rfl) ?_
  refine VWalk.mark 22 5 _ rfl Try.underlying22 Try.underlying5 (want_none rfl) (opd_dep 0 14 0 rfl rfl rfl rfl) ?_
  refine ⟨rfl, fun W1 hE1 => ?_⟩
  refine VFin.any fun v1_0 hv1_0 => ?_
  refine VFin.any fun v1_1 hv1_1 => ?_
  refine VFin.nil ?_
  simp only [Act.put, List.setIfInBounds_toArray, List.set_cons_zero, List.set_cons_succ]
  clear hv1_0
  have hE := hE1
  have hT : VBytes wText v1_1 W1 := hv1_1
  clear hv1_1
  obtain ⟨A, c, rfl, -⟩ := VBytes.form hT
  go_wp2
  have hW := PRow.pairs PRow.want (Box.new W1 27 _) (n := 6) rfl (by decide)
  obtain ⟨W2, hW2⟩ : ∃ W2, W1.alloc (.cells #[.int .i64 1, .int .i64 1, .int .i64 1, .int .i64 2, .int .i64 2, .int .i64 1, .int .i64 2, .int .i64 2, .int .i64 3, .int .i64 1, .int .i64 4, .int .i64 1] 27) = W2 := ⟨_, rfl⟩
  rw [hW2] at hW
  have hX : Ext W1 W2 := by rw [← hW2]; exact ext_alloc _ _
  have hE2 := hE.tr hX
  have hT2 := VP.st _ _ _ _ hT hX
  rw [hW2]
  clear hW2 hX hT hE hE1
  generalize W1.heap.size = gw at *
  clear W1
  have HT := hide hT2
  have HW := hide hW
  have HE : Hid (Below w.heap.size w W2) := hide hE2
  clear hT2 hW hE2
  go_loopw [3] (fun i wr => ∃ k : Nat, k ≤ 6 ∧ i = .int .i64 (k : Int) ∧ Hid (Below w.heap.size w wr) ∧ Hid (VBytes wText (.slice A wText.length c) wr) ∧ Hid (VPairs wWant (.slice (some ⟨gw, 0, none⟩) 6 6) wr)) (fun i _ => 6 - (intOf i).toNat)
  case atStart => exact ⟨0, by omega, rfl, HE, HT, HW⟩
  case round =>
    clear HE HT HW
    obtain ⟨k, hk, rfl, HE, HT, HW⟩ := hrel
    by_cases hlt : k < 6
    · have hk6 : k < wWant.length := hlt
      have hof := of_any wText k _ _ HT.out (by decide)
      rw [wOf k hk6] at hof
      dsimp only at hof
      unfold plcV at hof
      go_wp2_with fail
      refine hof.mono ?_
      rintro e w2 ⟨u, rfl, hE2, hu⟩
      obtain ⟨a, b, rfl, rfl, rfl⟩ := VTup.inv2 hu
      clear hof hu
      obtain ⟨p, hp⟩ : ∃ p, wWant[k] = p := ⟨_, rfl⟩
      have Hp := hide hp
      rw [hp]
      clear hp
      obtain ⟨p1, p2⟩ := p
      dsimp only
      have hX : Ext w2 (w2.alloc (.cells #[.int .i64 p1, .int .i64 p2] 27)) := ext_alloc _ _
      have hbp := Box.new w2 27 #[.int .i64 p1, .int .i64 p2]
      have hE := (Ext.tr (show Ext w wr from HE.out) hE2).tr hX
      have hT := VP.st _ _ _ _ HT.out (hE2.tr hX)
      have hW := VP.st _ _ _ _ HW.out (hE2.tr hX)
      clear hX
      go_upto_region 7 with (fail)
      refine vregion 10 [] (by kernel_rfl) (by kernel_rfl) (fun _ _ _ _ _ h => h) ?_
      refine VWalk.move _ rfl (want_none rfl) (opd_frame 5 rfl (by kernel_rfl)) ?_
      refine VWalk.notB _ _ rfl (want_none rfl) (opd_dep 0 35 0 rfl rfl rfl rfl) rfl ?_
      refine VWalk.move _ rfl (want_none rfl) (opd_dep 1 36 0 rfl rfl rfl rfl) ?_
      refine VWalk.loadBox 27 _ rfl (want_ff 2 37 0 rfl (by kernel_rfl) rfl rfl rfl rfl) (opd_frame 4 rfl (by kernel_rfl)) Try.underlying27 rfl (by kernel_rfl) hbp (ext_drew _) ?_
      refine VWalk.head (G := VEq (plcV (p1, p2))) rfl ?_
      refine VWalk.move _ rfl (want_ff 2 37 1 rfl (by kernel_rfl) rfl rfl rfl rfl) (opd_fr 2 rfl hW (ext_drew _) (by kernel_rfl)) ?_
      refine VWalk.move _ rfl (want_ff 2 37 2 rfl (by kernel_rfl) rfl rfl rfl rfl) (opd_frame 3 rfl (by kernel_rfl)) ?_
      refine VWalk.index2 44 27 _ _ .i64 k rfl Try.underlying44 (by kernel_rfl) (want_ff 2 37 3 rfl (by kernel_rfl) rfl rfl rfl rfl) (opd_dep 4 39 1 rfl rfl rfl rfl) (opd_dep 5 40 0 rfl rfl rfl rfl) hk6 ?_
      refine VWalk.load2 27 _ rfl (want_ff 2 37 4 rfl (by kernel_rfl) rfl rfl rfl rfl) (opd_dep 6 41 0 rfl rfl rfl rfl) Try.underlying27 rfl (by kernel_rfl) ?_
      refine VWalk.neS _ _ _ _ rfl rfl (want_ff 2 37 5 rfl (by kernel_rfl) rfl rfl rfl rfl) (opd_dep 3 38 4 rfl rfl rfl rfl) (opd_dep 7 42 0 rfl rfl rfl rfl) Hp.out.symm ?_
      refine VWalk.pickF _ _ _ rfl (want_none rfl) (opd_dep 2 37 6 rfl rfl rfl rfl) (opd_dep 8 43 0 rfl rfl rfl rfl) ?_
      refine ⟨rfl, fun W7 hE7 => ?_⟩
      refine VFin.eq ?_  -- 0
      refine VFin.eq ?_  -- 1
      refine VFin.eq ?_  -- 2
      refine VFin.eq ?_  -- 3
      refine VFin.any fun v7_4 hv7_4 => ?_
      refine VFin.eq ?_  -- 5
      refine VFin.any fun v7_6 hv7_6 => ?_
      refine VFin.eq ?_  -- 7
      refine VFin.eq ?_  -- 8
      refine VFin.eq ?_  -- 9
      refine VFin.nil ?_
      simp only [Act.put, List.setIfInBounds_toArray, List.set_cons_zero, List.set_cons_succ]
      clear hv7_4 hv7_6
      have hT := VP.st _ _ _ _ hT ((ext_drew _).tr hE7)
      have hW := VP.st _ _ _ _ hW ((ext_drew _).tr hE7)
      have hbp := hbp.drew.ext hE7
      have hE := hE.tr ((ext_drew _).tr hE7)
      have HE7 : Hid (Below w.heap.size w W7) := hide hE
      have HT7 := hide hT
      have HW7 := hide hW
      clear hE hT hW hbp hE2
      go_wp2
      exact ⟨⟨k + 1, by omega, by go_num, HE7, HT7, HW7⟩, by simp [intOf]; omega⟩
    · obtain rfl : k = 6 := by omega
      have hE : Ext w wr := HE.out
      have hf1 := of_any wText 6 _ _ HT.out (by decide)
      rw [wOf6] at hf1
      dsimp only at hf1
      unfold plcV at hf1
      clear HW
      go_wp2_with fail
      refine hf1.mono ?_
      rintro e w2 ⟨u, rfl, hE2, hu⟩
      obtain ⟨a, b, rfl, rfl, rfl⟩ := VTup.inv2 hu
      clear hf1 hu
      have hT2 := VP.st _ _ _ _ HT.out hE2
      have hEa := hE.tr hE2
      have hX3 : Ext w2 ((w2.alloc (.cells #[.int .i64 0, .int .i64 0] 27)).alloc (.cells #[.slice A wText.length c] 22)) := (ext_alloc _ _).tr (ext_alloc _ _)
      have hP1 := VParts.one (VP.st _ _ _ _ hT2 (ext_alloc w2 (.cells #[.int .i64 0, .int .i64 0] 27))) 22
      rw [World.size_alloc] at hP1
      have hfd := feed_any (0, 0, 0) [wText] _ _ hP1
      rw [show [wText].flatten = wText from rfl, wFeed] at hfd
      dsimp only at hfd
      unfold cntV at hfd
      dsimp only at hfd
      go_wp2_with fail
      refine hfd.mono ?_
      rintro e w3 ⟨u, rfl, hE3, hu⟩
      obtain ⟨a, b, rfl, rfl, rfl⟩ := VTup.inv2 hu
      have hT3 := VP.st _ _ _ _ hT2 (hX3.tr hE3)
      have hEb := (hEa.tr hX3).tr hE3
      clear hfd hu hP1 hT2 hX3 hE3 hEa
      have hf2 := fun W => feed_any (0, 1, 0) [] (.slice none 0 0) W ⟨none, 0, rfl, Nat.le_refl _, by decide, fun h => by simp at h⟩
      rw [show ([] : List (List UInt8)).flatten = [] from rfl, wFeed2] at hf2
      dsimp only at hf2
      unfold cntV at hf2
      dsimp only at hf2
      go_wp2_with fail
      have hb8 := Box.new w3 25 #[.int .i64 6, .int .i64 3, .int .i64 1]
      refine (hf2 _).mono ?_
      rintro e w4 ⟨u, rfl, hE4, hu⟩
      obtain ⟨a, b, rfl, rfl, rfl⟩ := VTup.inv2 hu
      have hb8 := hb8.ext hE4
      have hX4 : Ext w3 w4 := (ext_alloc _ _).tr hE4
      have hT4 := VP.st _ _ _ _ hT3 hX4
      have hEc := hEb.tr hX4
      clear hf2 hu hE4 hX4 hT3 hEb
      have hX5 : Ext w4 ((w4.alloc (.cells #[.int .i64 0, .int .i64 1, .int .i64 0] 25)).alloc (.cells #[.int .i64 13, .int .i64 0, .int .i64 10, .int .i64 0] 48)) := (ext_alloc _ _).tr (ext_alloc _ _)
      have hH := PRow.pairs (PRow.two 13 0 10 0) (Box.new (w4.alloc (.cells #[.int .i64 0, .int .i64 1, .int .i64 0] 25)) 48 _) (n := 2) rfl (by decide)
      rw [World.size_alloc] at hH
      have hen := ends_any wText 10 [(13, 0), (10, 0)] _ _ _ (VP.st _ _ _ _ hT4 hX5) hH (by decide) (by decide) (by decide)
      rw [wEnds] at hen
      have hb8 := hb8.ext hX5
      have HB8 := hide hb8
      go_wp2_with fail
      refine hen.mono ?_
      rintro e w5 ⟨v5, rfl, hE5, hv5⟩
      have hb8 := hb8.ext hE5
      have hT5 := VP.st _ _ _ _ hT4 (hX5.tr hE5)
      have hEd := hEc.tr (hX5.tr hE5)
      clear hen hH hX5 HB8 hE5 hT4 hEc
      have HV5 := hide hv5
      obtain ⟨A5, c5, rfl, -⟩ := VPairs.form hv5
      clear hv5
      obtain ⟨w6, hrun, hE6, hv6, -⟩ := run_mark (P := Try.prog) w5 22 5 [10, 98] #[.int .u8 10, .int .u8 98] 2 rfl rfl (by decide) (by decide) Try.underlying22 Try.underlying5
      have hb8 := hb8.ext hE6
      have hT6 := VP.st _ _ _ _ hT5 hE6
      have hEe := hEd.tr hE6
      have HV6 := hide (VP.st _ _ _ _ HV5.out hE6)
      have HH6 := hide hv6
      clear HV5 hT5 hEd hE6 hv6
      have hX7 : Ext w6 ((w6.alloc (.cells #[.slice (some ⟨w5.heap.size, 0, none⟩) 2 2] 22)).alloc (.cells #[.int .i64 13, .int .i64 0] 48)) := (ext_alloc _ _).tr (ext_alloc _ _)
      have hH := PRow.pairs (PRow.one 13 0) (Box.new (w6.alloc (.cells #[.slice (some ⟨w5.heap.size, 0, none⟩) 2 2] 22)) 48 _) (n := 1) rfl (by decide)
      rw [World.size_alloc] at hH
      have hbe := begins_any false [[10, 98]] wText 10 [(13, 0)] (.agg #[.bool false, .slice (some ⟨w6.heap.size, 0, none⟩) 1 1]) _ _ _ ⟨_, rfl, VP.st _ _ _ _ (VParts.one HH6.out 22) (ext_alloc _ _)⟩ (VP.st _ _ _ _ hT6 hX7) hH (by decide) (by decide) (by decide)
      rw [wBegins] at hbe
      go_wp2_with fail
      refine hbe.mono ?_
      rintro e w7 ⟨v7, rfl, hE7, hv7⟩
      have hb8 := hb8.ext (hX7.tr hE7)
      have hEf := hEe.tr (hX7.tr hE7)
      have HV7 := hide (VP.st _ _ _ _ HV6.out (hX7.tr hE7))
      have HU7 := hide hv7
      obtain ⟨A7, c7, rfl, -⟩ := VPairs.form hv7
      clear hbe hH hX7 hE7 HV6 HH6 hT6 hEe hrun hv7
      have hc0 := hb8.at_ 0 rfl
      have hc1 := hb8.at_ 1 rfl
      have hc2 := hb8.at_ 2 rfl
      have heq := eq_cnt 6 3 1 6 3 1 w7
      go_wp2_with fail
      have hnx := next_any (6, 3, 1) w7
      rw [wNext] at hnx
      refine hnx.mono ?_
      rintro e w8 ⟨u, rfl, hE8, rfl⟩
      unfold plcV
      dsimp only
      have heq2 := eq_plc 4 2 4 2 w8
      have hsm := same_any [(2, 1), (0, 0)] [(2, 1), (0, 0)] _ _ _ (VP.st _ _ _ _ HV7.out (hE8.tr (ext_alloc w8 (.cells #[.int .i64 2, .int .i64 1, .int .i64 0, .int .i64 0] 27)))) (PRow.pairs (PRow.two 2 1 0 0) (Box.new w8 27 _) (n := 2) rfl (by decide))
      rw [decide_eq_true rfl] at hsm
      clear hc0 hc1 hc2 heq hnx
      go_wp2_with fail
      refine hsm.mono ?_
      rintro e w9 ⟨u, rfl, hE9, rfl⟩
      have hX9 : Ext w7 w9 := (hE8.tr (ext_alloc _ _)).tr hE9
      clear hsm heq2
      have hsm := same_any [(1, 2)] [(1, 2)] _ _ _ (VP.st _ _ _ _ HU7.out (hX9.tr (ext_alloc w9 (.cells #[.int .i64 1, .int .i64 2] 27)))) (PRow.pairs (PRow.one 1 2) (Box.new w9 27 _) (n := 1) rfl (by decide))
      rw [decide_eq_true rfl] at hsm
      go_wp2_with fail
      refine hsm.mono ?_
      rintro e w10 ⟨u, rfl, hE10, rfl⟩
      have hX10 : Ext w7 w10 := (hX9.tr (ext_alloc _ _)).tr hE10
      clear hsm
      have hb8 := hb8.ext hX10
      have hc0 := hb8.at_ 0 rfl
      have hc1 := hb8.at_ 1 rfl
      have hc2 := hb8.at_ 2 rfl
      have hr1 := fun W => right_any (6, 3, 1) W
      rw [wRight] at hr1
      have hr2 := fun W => right_any (1, 0, 0) W
      rw [wRight2] at hr2
      unfold cntV at hr1 hr2
      dsimp only at hr1 hr2
      go_wp2_with fail
      refine (hr1 _).mono ?_
      rintro e w11 ⟨u, rfl, hE11, rfl⟩
      go_wp2_with fail
      refine (hr2 _).mono ?_
      rintro e w12 ⟨u, rfl, hE12, rfl⟩
      go_wp2
      go_ret
      exact Ret.mk ((hEf.tr hX10).tr (hE11.tr hE12)) rfl
end Go.Proofs.Ytdaghnnmbilgfaa
