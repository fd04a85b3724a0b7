/- PatsetMakes, walked. -/
import Derived.Test.YtkbhkadienddmaaPatT
import Derived.Test.YtkbhkadienddmaaPatM
namespace Go.Proofs.Ytkbhkadienddmaa
open Go.RowKit Go.Shelf LetM SetM
set_option maxRecDepth 100000 in
set_option maxHeartbeats 8000000 in
theorem patsetMakes_any (fold : Bool) (ls : List (List UInt8)) (vl : Value) (w : World) (hL : VParts ls vl w) : Calls Try.prog 4 #[.bool fold, vl] w (Ret w (VEq (.bool true))) := by
  have hwk := wakes_any
  have hg1 := fun W hv => great_any ls vl W hv
  unfold VGreat at hg1
  have hL0 := hL
  obtain ⟨A, c, rfl, hc1, hc2, -⟩ := VParts.form hL
  unfold maxLen at hc2
  clear hL
  go_enter Try.func4, Try.ntmps4
  go_wp2_with fail
  refine (hg1 _ hL0).mono ?_
  rintro e w1 ⟨u, rfl, hE, rfl⟩
  obtain ⟨g1, hq1⟩ : ∃ g, greatB ls = g := ⟨_, rfl⟩
  rw [hq1]
  clear hg1
  cases g1
  case true =>
    clear hL0 hq1
    go_wp2_with fail
    refine (hwk _).mono ?_
    rintro e w3 ⟨u, rfl, hE3, rfl⟩
    go_wp2
    go_ret
    exact Ret.mk (hE.tr hE3) rfl
  obtain ⟨l1, l2⟩ := greatB_false hq1
  clear hq1
  by_cases hck : checkR fold ls = 0
  case neg =>
    have hm : makeR fold ls = (false, [], checkR fold ls) := by unfold makeR; rw [if_neg hck]
    have hmk := fun v W (hv : VParts ls v W) => c_pmake (w0 := W) fold ls _ _ _ hm (by omega) (by omega) (.bool fold) v W (Ext.rf W) rfl hv
    have hk1 := fun v W (hv : VParts ls v W) => pcheck_any fold ls v W hv (by omega) (by omega)
    have hck' : (checkR fold ls == 0) = false := by rw [beq_eq_false_iff_ne]; exact hck
    clear hm hck
    generalize checkR fold ls = ck at *
    go_wp2_with fail
    refine (hmk _ _ (VP.st _ _ _ _ hL0 hE)).mono ?_
    rintro e w4 ⟨u, rfl, hE4, hu⟩
    obtain ⟨_, _, rfl, ⟨sa, rfl, hsa⟩, rfl⟩ := VTup.inv2 hu
    obtain ⟨Aa, ca, ea, -⟩ := VParts.form hsa
    subst ea
    have hX4 := hE4.tr (ext_alloc w4 (.cells #[.bool false, .slice Aa ([] : List (List UInt8)).length ca] 24))
    have hb5 := Box.new w4 24 #[.bool false, .slice Aa ([] : List (List UInt8)).length ca]
    have hE := hE.tr hX4
    clear hmk hu hE4 hX4 hsa
    go_wp2_with fail
    refine (hk1 _ _ (VP.st _ _ _ _ hL0 hE)).mono ?_
    rintro e w5 ⟨u, rfl, hE5, rfl⟩
    have hb5 := hb5.ext hE5
    have hd0 := hb5.at_ 0 rfl
    have hd1 := hb5.at_ 1 rfl
    have hE := hE.tr hE5
    clear hk1 hE5 hL0
    go_wp2_with fail
    refine (hwk _).mono ?_
    rintro e w6 ⟨u, rfl, hE6, rfl⟩
    go_wp2
    go_ret
    exact Ret.mk (hE.tr hE6) rfl
  have hm : makeR fold ls = (fold, makeFrom fold [] ls, 0) := by unfold makeR; rw [if_pos hck]
  have hmk := fun v W (hv : VParts ls v W) => c_pmake (w0 := W) fold ls _ _ _ hm (by omega) (by omega) (.bool fold) v W (Ext.rf W) rfl hv
  have hrt := right_made fold ls hck
  have hdis := makeFrom_dis fold ls [] ⟨fun w hw => by simp at hw, by simp⟩
  have hwl := makeFrom_len fold ls []
  have hwf := make_flat fold ls []
  have hmd := fun k hk => which_made fold ls k hk
  have hm0 : makeFrom fold [] (ls.take ls.length) = makeFrom fold [] ls := by rw [List.take_length]
  rw [List.flatten_nil, List.length_nil, Nat.zero_add] at hwf
  rw [List.length_nil, Nat.zero_add] at hwl
  clear hm hck
  generalize makeFrom fold [] ls = ws at *
  have hpr := fun u W (hu : VSet fold ws u W) => pright_any fold ws u W hu (by omega) (by omega)
  rw [hrt] at hpr
  have hnum := fun word u v W (hu : VSet fold ws u W) (hv : VBytes word v W) => pnumber_any fold ws word u v W hu hv
  have Hmd := hide hmd
  have Hdis := hide hdis
  have Hm0 := hide hm0
  clear hrt hdis hmd hm0
  go_wp2_with fail
  refine (hmk _ _ (VP.st _ _ _ _ hL0 hE)).mono ?_
  rintro e w4 ⟨u, rfl, hE4, hu⟩
  obtain ⟨_, _, rfl, ⟨sa, rfl, hsa⟩, rfl⟩ := VTup.inv2 hu
  have hsa := VP.st _ _ _ _ hsa (ext_alloc w4 (.cells #[.bool fold, sa] 24))
  have hb5 := Box.new w4 24 #[.bool fold, sa]
  have hE := hE.tr (hE4.tr (ext_alloc w4 (.cells #[.bool fold, sa] 24)))
  obtain ⟨Aa, ca, ea, -⟩ := VParts.form hsa
  subst ea
  have hd0 := hb5.at_ 0 rfl
  have hd1 := hb5.at_ 1 rfl
  clear hmk hu hE4
  go_wp2_with fail
  refine (hpr _ _ ⟨_, rfl, hsa⟩).mono ?_
  rintro e w5 ⟨u, rfl, hE5, rfl⟩
  have hb5 := hb5.ext hE5
  have hsa := VP.st _ _ _ _ hsa hE5
  have hE := hE.tr hE5
  have hd0 := hb5.at_ 0 rfl
  have hd1 := hb5.at_ 1 rfl
  have hl := VP.st _ _ _ _ hL0 hE
  have HE := hide hE
  have HB := hide hb5
  have HS := hide hsa
  have HL := hide hl
  have hwl' : (ws.length : Int) ≤ (ls.length : Int) := by omega
  clear hpr hE5 hL0 hE hb5 hsa hl
  go_wp2
  clear hd0 hd1
  go_loopw [7, 8] (fun nx i wr => ∃ k a : Nat, k ≤ ls.length ∧ i = .int .i64 (k : Int) ∧ nx = .int .i64 (a : Int) ∧ a ≤ k ∧ Hid ((makeFrom fold [] (ls.take k)).length = a) ∧ Hid (Below w5.heap.size w5 wr)) (fun _ i _ => ls.length - (intOf i).toNat)
  case atStart => exact ⟨0, 0, by omega, rfl, rfl, by omega, hide (by simp [makeFrom]), hide (Ext.rf _)⟩
  case round =>
    obtain ⟨k, a, hk, rfl, rfl, ha, HA, HX⟩ := hrel
    have hX : Ext w5 wr := HX.out
    have hE := HE.out.tr hX
    have hb5 := HB.out.ext hX
    have hsa := VP.st _ _ _ _ HS.out hX
    have hl := VP.st _ _ _ _ HL.out hX
    by_cases hlt : k < ls.length
    · obtain ⟨m1, m2, m3, m4, j, hj, hne, hsame⟩ := Hmd.out k hlt
      rw [HA.out] at m2 m4
      have hnf : numberF fold ls[k] ws = ((j : Int), true) := by unfold numberF; rw [if_neg (by omega), hne]
      rw [hne] at m1 m2 m3 m4
      have hja : j ≤ a := by omega
      have hn1 := fun u v W (hu : VSet fold ws u W) (hv : VBytes ls[k] v W) => hnum ls[k] u v W hu hv
      rw [hnf] at hn1
      have hls := flat_le hlt
      have hws := flat_le hj
      have hsm := fun u v W (hu : VBytes ws[j] u W) (hv : VBytes ls[k] v W) => rsame_any fold ws[j] ls[k] u v W hu hv (by omega) (by omega)
      rw [hsame] at hsm
      have hXw := hX
      have H4 := hide m4
      clear hnf hne m1 hsame HX hX hnum m4
      go_upto_region 12 with (fail)
      refine vregion 9 [8] (by kernel_rfl) (by kernel_rfl) (fun _ _ _ _ _ h => h) ?_
      refine VWalk.loadBox 24 _ rfl (want_none rfl) (opd_frame 5 rfl (by kernel_rfl)) Try.underlying24 rfl (by kernel_rfl) hb5 (ext_drew _) ?_
      refine VWalk.move _ rfl (want_none rfl) (opd_fr 1 rfl hl (ext_drew _) (by kernel_rfl)) ?_
      refine VWalk.move _ rfl (want_none rfl) (opd_frame 8 rfl (by kernel_rfl)) ?_
      refine VWalk.indexP 22 25 _ _ .i64 k rfl Try.underlying22 (by kernel_rfl) (want_none rfl) (opd_dep 1 69 1 rfl rfl rfl rfl) (opd_dep 2 70 0 rfl rfl rfl rfl) hlt ?_
      refine VWalk.loadP 25 _ rfl (want_none rfl) (opd_dep 3 71 0 rfl rfl rfl rfl) (fun _ => by kernel_rfl) ?_
      refine VWalk.call2 13 _ _ _ rfl (enters_of Try.func13 (by kernel_rfl) rfl) (want_none rfl) (opd_dep 0 68 4 rfl rfl rfl rfl) (opd_dep 4 72 0 rfl rfl rfl rfl) (fun u v W hX hu hv => by rw [show u = _ from hu]; exact hn1 _ v W ⟨_, rfl, VP.st _ _ _ _ hsa ((ext_drew _).tr hX)⟩ hv) ?_
      refine VWalk.move _ rfl (want_none rfl) (opd_dep 5 73 0 rfl rfl rfl rfl) ?_
      refine VWalk.extract _ 0 rfl rfl (want_none rfl) (opd_dep 6 67 0 rfl rfl rfl rfl) ?_
      refine VWalk.extract _ 1 rfl rfl (want_none rfl) (opd_dep 6 67 1 rfl rfl rfl rfl) ?_
      refine ⟨rfl, fun W12 hE12 => ?_⟩
      refine VFin.eq ?_  -- 0
      refine VFin.any fun v12_1 hv12_1 => ?_
      refine VFin.eq ?_  -- 2
      refine VFin.any fun v12_3 hv12_3 => ?_
      refine VFin.any fun v12_4 hv12_4 => ?_
      refine VFin.any fun v12_5 hv12_5 => ?_
      refine VFin.any fun v12_6 hv12_6 => ?_
      refine VFin.eq ?_  -- 7
      refine VFin.eq ?_  -- 8
      refine VFin.nil ?_
      simp only [Act.put, List.setIfInBounds_toArray, List.set_cons_zero, List.set_cons_succ]
      clear hv12_1 hv12_3 hv12_4 hv12_5 hv12_6
      have hl := VP.st _ _ _ _ hl ((ext_drew _).tr hE12)
      have hsa := VP.st _ _ _ _ hsa ((ext_drew _).tr hE12)
      have hb5 := hb5.drew.ext hE12
      have hE := hE.tr ((ext_drew _).tr hE12)
      have hXw := hXw.tr ((ext_drew _).tr hE12)
      go_upto_region 13 with (fail)
      refine vregion 32 [] (by kernel_rfl) (by kernel_rfl) (fun _ _ _ _ _ h => h) ?_
      refine VWalk.move _ rfl (want_none rfl) (opd_frame 10 rfl (by kernel_rfl)) ?_
      refine VWalk.notB _ _ rfl (want_none rfl) (opd_dep 0 76 0 rfl rfl rfl rfl) rfl ?_
      refine VWalk.move _ rfl (want_none rfl) (opd_dep 1 77 0 rfl rfl rfl rfl) ?_
      refine VWalk.move _ rfl (want_ff 2 78 0 rfl (by kernel_rfl) rfl rfl rfl rfl) (opd_frame 9 rfl (by kernel_rfl)) ?_
      refine VWalk.lssF _ _ _ _ rfl (want_ff 2 78 1 rfl (by kernel_rfl) rfl rfl rfl rfl) (opd_dep 3 79 0 rfl rfl rfl rfl) (opd_const _) (by omega) ?_
      refine VWalk.pickF _ _ _ rfl (want_none rfl) (opd_dep 2 78 2 rfl rfl rfl rfl) (opd_dep 4 80 0 rfl rfl rfl rfl) ?_
      refine VWalk.move _ rfl (want_none rfl) (opd_dep 5 81 0 rfl rfl rfl rfl) ?_
      refine VWalk.move _ rfl (want_ff 6 82 0 rfl (by kernel_rfl) rfl rfl rfl rfl) (opd_frame 9 rfl (by kernel_rfl)) ?_
      refine VWalk.move _ rfl (want_ff 6 82 1 rfl (by kernel_rfl) rfl rfl rfl rfl) (opd_frame 7 rfl (by kernel_rfl)) ?_
      refine VWalk.gtrF _ _ _ _ rfl (want_ff 6 82 2 rfl (by kernel_rfl) rfl rfl rfl rfl) (opd_dep 7 83 1 rfl rfl rfl rfl) (opd_dep 8 84 0 rfl rfl rfl rfl) (by omega) ?_
      refine VWalk.pickF _ _ _ rfl (want_none rfl) (opd_dep 6 82 3 rfl rfl rfl rfl) (opd_dep 9 85 0 rfl rfl rfl rfl) ?_
      refine VWalk.move _ rfl (want_none rfl) (opd_dep 10 86 0 rfl rfl rfl rfl) ?_
      refine VWalk.move _ rfl (want_ff 11 87 0 rfl (by kernel_rfl) rfl rfl rfl rfl) (opd_frame 9 rfl (by kernel_rfl)) ?_
      refine VWalk.det1 (Operand.tmp 5) (want_ff 11 87 1 rfl (by kernel_rfl) rfl rfl rfl rfl) (opd_frame 5 rfl (by kernel_rfl)) (fun ρ w hE h1 => by simp [execOp, h1, go_sem]; rfl) ?_
      refine VWalk.load1F (F := VParts ws) 22 _ rfl (want_ff 11 87 2 rfl (by kernel_rfl) rfl rfl rfl rfl) (opd_dep 13 89 0 rfl rfl rfl rfl) (fun _ => by kernel_rfl) (hb5.at_ 1 rfl) hsa (ext_drew _) ?_
      refine VWalk.lenS 22 25 _ rfl Try.underlying22 (want_ff 11 87 3 rfl (by kernel_rfl) rfl rfl rfl rfl) (opd_dep 14 90 0 rfl rfl rfl rfl) ?_
      refine VWalk.geqF _ _ _ _ rfl (want_ff 11 87 4 rfl (by kernel_rfl) rfl rfl rfl rfl) (opd_dep 12 88 3 rfl rfl rfl rfl) (opd_dep 15 91 0 rfl rfl rfl rfl) (by rw [List.length_map]; omega) ?_
      refine VWalk.pickF _ _ _ rfl (want_none rfl) (opd_dep 11 87 5 rfl rfl rfl rfl) (opd_dep 16 92 0 rfl rfl rfl rfl) ?_
      refine VWalk.move _ rfl (want_none rfl) (opd_dep 17 93 0 rfl rfl rfl rfl) ?_
      refine VWalk.move _ rfl (want_ff 18 94 0 rfl (by kernel_rfl) rfl rfl rfl rfl) (opd_frame 0 rfl (by kernel_rfl)) ?_
      refine VWalk.det1 (Operand.tmp 5) (want_ff 18 94 1 rfl (by kernel_rfl) rfl rfl rfl rfl) (opd_frame 5 rfl (by kernel_rfl)) (fun ρ w hE h1 => by simp [execOp, h1, go_sem]; rfl) ?_
      refine VWalk.load1F (F := VParts ws) 22 _ rfl (want_ff 18 94 2 rfl (by kernel_rfl) rfl rfl rfl rfl) (opd_dep 20 96 0 rfl rfl rfl rfl) (fun _ => by kernel_rfl) (hb5.at_ 1 rfl) hsa (ext_drew _) ?_
      refine VWalk.move _ rfl (want_ff 18 94 3 rfl (by kernel_rfl) rfl rfl rfl rfl) (opd_frame 9 rfl (by kernel_rfl)) ?_
      refine VWalk.indexP 22 25 _ _ .i64 j rfl Try.underlying22 (by kernel_rfl) (want_ff 18 94 4 rfl (by kernel_rfl) rfl rfl rfl rfl) (opd_dep 21 97 1 rfl rfl rfl rfl) (opd_dep 22 98 0 rfl rfl rfl rfl) hj ?_
      refine VWalk.loadP 25 _ rfl (want_ff 18 94 5 rfl (by kernel_rfl) rfl rfl rfl rfl) (opd_dep 23 99 0 rfl rfl rfl rfl) (fun _ => by kernel_rfl) ?_
      refine VWalk.move _ rfl (want_ff 18 94 6 rfl (by kernel_rfl) rfl rfl rfl rfl) (opd_fr 1 rfl hl (ext_drew _) (by kernel_rfl)) ?_
      refine VWalk.move _ rfl (want_ff 18 94 7 rfl (by kernel_rfl) rfl rfl rfl rfl) (opd_frame 8 rfl (by kernel_rfl)) ?_
      refine VWalk.indexP 22 25 _ _ .i64 k rfl Try.underlying22 (by kernel_rfl) (want_ff 18 94 8 rfl (by kernel_rfl) rfl rfl rfl rfl) (opd_dep 25 101 1 rfl rfl rfl rfl) (opd_dep 26 102 0 rfl rfl rfl rfl) hlt ?_
      refine VWalk.loadP 25 _ rfl (want_ff 18 94 9 rfl (by kernel_rfl) rfl rfl rfl rfl) (opd_dep 27 103 0 rfl rfl rfl rfl) (fun _ => by kernel_rfl) ?_
      refine VWalk.call3 26 _ _ _ _ rfl (enters_of Try.func26 (by kernel_rfl) rfl) (want_ff 18 94 10 rfl (by kernel_rfl) rfl rfl rfl rfl) (opd_dep 19 95 9 rfl rfl rfl rfl) (opd_dep 24 100 4 rfl rfl rfl rfl) (opd_dep 28 104 0 rfl rfl rfl rfl) (fun b u v W hX hb hu hv => by rw [show b = _ from hb]; exact hsm u v W hu hv) ?_
      refine VWalk.headT (by decide) ?_
      refine VWalk.notB _ _ rfl (want_ff 18 94 11 rfl (by kernel_rfl) rfl rfl rfl rfl) (opd_dep 29 105 0 rfl rfl rfl rfl) rfl ?_
      refine VWalk.pickF _ _ _ rfl (want_none rfl) (opd_dep 18 94 12 rfl rfl rfl rfl) (opd_dep 30 106 0 rfl rfl rfl rfl) ?_
      refine ⟨rfl, fun W13 hE13 => ?_⟩
      refine VFin.eq ?_  -- 0
      refine VFin.eq ?_  -- 1
      refine VFin.eq ?_  -- 2
      refine VFin.eq ?_  -- 3
      refine VFin.eq ?_  -- 4
      refine VFin.eq ?_  -- 5
      refine VFin.eq ?_  -- 6
      refine VFin.eq ?_  -- 7
      refine VFin.eq ?_  -- 8
      refine VFin.eq ?_  -- 9
      refine VFin.eq ?_  -- 10
      refine VFin.eq ?_  -- 11
      refine VFin.eq ?_  -- 12
      refine VFin.eq ?_  -- 13
      refine VFin.any fun v13_14 hv13_14 => ?_
      refine VFin.eq ?_  -- 15
      refine VFin.eq ?_  -- 16
      refine VFin.eq ?_  -- 17
      refine VFin.eq ?_  -- 18
      refine VFin.eq ?_  -- 19
      refine VFin.eq ?_  -- 20
      refine VFin.any fun v13_21 hv13_21 => ?_
      refine VFin.eq ?_  -- 22
      refine VFin.any fun v13_23 hv13_23 => ?_
      refine VFin.any fun v13_24 hv13_24 => ?_
      refine VFin.any fun v13_25 hv13_25 => ?_
      refine VFin.eq ?_  -- 26
      refine VFin.any fun v13_27 hv13_27 => ?_
      refine VFin.any fun v13_28 hv13_28 => ?_
      refine VFin.eq ?_  -- 29
      refine VFin.eq ?_  -- 30
      refine VFin.eq ?_  -- 31
      refine VFin.nil ?_
      simp only [Act.put, List.setIfInBounds_toArray, List.set_cons_zero, List.set_cons_succ]
      clear hv13_14 hv13_21 hv13_23 hv13_24 hv13_25 hv13_27 hv13_28
      have hl := VP.st _ _ _ _ hl ((ext_drew _).tr hE13)
      have hsa := VP.st _ _ _ _ hsa ((ext_drew _).tr hE13)
      have hb5 := hb5.drew.ext hE13
      have hE := hE.tr ((ext_drew _).tr hE13)
      have hXw := hXw.tr ((ext_drew _).tr hE13)
      by_cases hj2 : j = a
      · subst hj2
        go_wp2
        exact ⟨⟨k + 1, j + 1, by omega, by go_num, by go_num, by omega, by show _ = _; rw [H4.out, if_pos rfl], hide hXw⟩, by simp [intOf]; omega⟩
      · have hj3 : j < a := by omega
        have hj4 : ¬((j : Int) = (a : Int)) := by omega
        go_wp2
        exact ⟨⟨k + 1, a, by omega, by go_num, rfl, by omega, by show _ = _; rw [H4.out, if_neg hj4], hide hXw⟩, by simp [intOf]; omega⟩
    · obtain rfl : k = ls.length := by omega
      have ha2 : a = ws.length := by have := HA.out; rw [Hm0.out] at this; exact this.symm
      subst ha2
      have HE := hide hE
      have HB := hide hb5
      have HS := hide hsa
      have HL := hide hl
      clear HA HX hX Hmd Hm0 hE hb5 hsa hl
      go_wp2
      go_loopw [11] (fun i wq => ∃ k : Nat, k ≤ ws.length ∧ i = .int .i64 (k : Int) ∧ Hid (Below wr.heap.size wr wq)) (fun i _ => ws.length - (intOf i).toNat)
      case atStart => exact ⟨0, by omega, rfl, hide (Ext.rf _)⟩
      case round =>
        obtain ⟨i, hi, rfl, HX⟩ := hrel
        have hX : Ext _ wr := HX.out
        have hE := HE.out.tr hX
        have hb5 := HB.out.ext hX
        have hsa := VP.st _ _ _ _ HS.out hX
        have hl := VP.st _ _ _ _ HL.out hX
        have hd1 := hb5.at_ 1 rfl
        by_cases hlt : i < ws.length
        · have hn1 := fun u v W (hu : VSet fold ws u W) (hv : VBytes ws[i] v W) => hnum ws[i] u v W hu hv
          rw [show numberF fold ws[i] ws = ((i : Int), true) from by unfold numberF; rw [which_own Hdis.out i hlt, if_neg (by omega)]] at hn1
          have hXw := hX
          clear HX hX hnum
          go_upto_region 20 with (fail)
          refine vregion 10 [9] (by kernel_rfl) (by kernel_rfl) (fun _ _ _ _ _ h => h) ?_
          refine VWalk.loadBox 24 _ rfl (want_none rfl) (opd_frame 5 rfl (by kernel_rfl)) Try.underlying24 rfl (by kernel_rfl) hb5 (ext_drew _) ?_
          refine VWalk.det1 (Operand.tmp 5) (want_none rfl) (opd_frame 5 rfl (by kernel_rfl)) (fun ρ w hE h1 => by simp [execOp, h1, go_sem]; rfl) ?_
          refine VWalk.load1F (F := VParts ws) 22 _ rfl (want_none rfl) (opd_dep 1 122 0 rfl rfl rfl rfl) (fun _ => by kernel_rfl) (hb5.at_ 1 rfl) hsa (ext_drew _) ?_
          refine VWalk.move _ rfl (want_none rfl) (opd_frame 11 rfl (by kernel_rfl)) ?_
          refine VWalk.indexP 22 25 _ _ .i64 i rfl Try.underlying22 (by kernel_rfl) (want_none rfl) (opd_dep 2 123 1 rfl rfl rfl rfl) (opd_dep 3 124 0 rfl rfl rfl rfl) hlt ?_
          refine VWalk.loadP 25 _ rfl (want_none rfl) (opd_dep 4 125 0 rfl rfl rfl rfl) (fun _ => by kernel_rfl) ?_
          refine VWalk.call2 13 _ _ _ rfl (enters_of Try.func13 (by kernel_rfl) rfl) (want_none rfl) (opd_dep 0 121 5 rfl rfl rfl rfl) (opd_dep 5 126 0 rfl rfl rfl rfl) (fun u v W hX hu hv => by rw [show u = _ from hu]; exact hn1 _ v W ⟨_, rfl, VP.st _ _ _ _ hsa ((ext_drew _).tr hX)⟩ hv) ?_
          refine VWalk.move _ rfl (want_none rfl) (opd_dep 6 127 0 rfl rfl rfl rfl) ?_
          refine VWalk.extract _ 0 rfl rfl (want_none rfl) (opd_dep 7 120 0 rfl rfl rfl rfl) ?_
          refine VWalk.extract _ 1 rfl rfl (want_none rfl) (opd_dep 7 120 1 rfl rfl rfl rfl) ?_
          refine ⟨rfl, fun W20 hE20 => ?_⟩
          refine VFin.eq ?_  -- 0
          refine VFin.eq ?_  -- 1
          refine VFin.any fun v20_2 hv20_2 => ?_
          refine VFin.eq ?_  -- 3
          refine VFin.any fun v20_4 hv20_4 => ?_
          refine VFin.any fun v20_5 hv20_5 => ?_
          refine VFin.any fun v20_6 hv20_6 => ?_
          refine VFin.any fun v20_7 hv20_7 => ?_
          refine VFin.eq ?_  -- 8
          refine VFin.eq ?_  -- 9
          refine VFin.nil ?_
          simp only [Act.put, List.setIfInBounds_toArray, List.set_cons_zero, List.set_cons_succ]
          clear hv20_2 hv20_4 hv20_5 hv20_6 hv20_7
          have hl := VP.st _ _ _ _ hl ((ext_drew _).tr hE20)
          have hsa := VP.st _ _ _ _ hsa ((ext_drew _).tr hE20)
          have hb5 := hb5.drew.ext hE20
          have hE := hE.tr ((ext_drew _).tr hE20)
          have hXw := hXw.tr ((ext_drew _).tr hE20)
          go_wp2
          exact ⟨⟨i + 1, by omega, by go_num, hide hXw⟩, by simp [intOf]; omega⟩
        · obtain rfl : i = ws.length := by omega
          clear HX hX hnum hb5 hsa hl
          go_wp2_with fail
          refine (hwk _).mono ?_
          rintro e w8 ⟨u, rfl, hE8, rfl⟩
          go_wp2
          go_ret
          exact Ret.mk (hE.tr hE8) rfl
end Go.Proofs.Ytkbhkadienddmaa
