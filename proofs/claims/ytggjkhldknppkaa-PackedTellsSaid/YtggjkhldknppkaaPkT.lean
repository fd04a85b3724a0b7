/- PackedTells, walked. -/
import Derived.Test.YtggjkhldknppkaaPkL
namespace Go.Proofs.Ytggjkhldknppkaa
open Go.RowKit PakM DigM
set_option maxRecDepth 100000 in
set_option maxHeartbeats 8000000 in
theorem packedTells_any (fold : Bool) (ls ms : List (List UInt8)) (b : List UInt8) (vl vm vb : Value) (w : World) (hL : VParts ls vl w) (hM : VParts ms vm w) (hB : VBytes b vb w) : Calls Try.prog 3 #[.bool fold, vl, vm, vb] w (Ret w (VEq (.bool true))) := by
  have hwk := wakes_any
  have hg1 := fun W hv => great_any ls vl W hv
  have hg2 := fun W hv => great_any ms vm W hv
  unfold VGreat at hg1 hg2
  have hL0 := hL
  have hM0 := hM
  have hB0 := hB
  obtain ⟨A, c, rfl, hc1, hc2, -⟩ := VParts.form hL
  obtain ⟨A2, c2, rfl, hc3, hc4, -⟩ := VParts.form hM
  obtain ⟨D, d, rfl, hd1, hd2, -⟩ := VBytes.form hB
  unfold maxLen at hc2 hc4 hd2
  clear hL hM hB
  go_enter Try.func3, Try.ntmps3
  go_wp2_with fail
  refine (hg1 _ hL0).mono ?_
  rintro e w1 ⟨u, rfl, hE, rfl⟩
  obtain ⟨g1, hq1⟩ : ∃ g, greatB ls = g := ⟨_, rfl⟩
  rw [hq1]
  clear hg1
  cases g1
  case true =>
    clear hL0 hM0 hB0 hq1 hg2
    go_wp2_with fail
    refine (hwk _).mono ?_
    rintro e w3 ⟨u, rfl, hE3, rfl⟩
    go_wp2
    go_ret
    exact Ret.mk (hE.tr hE3) rfl
  go_wp2_with fail
  refine (hg2 _ (VP.st _ _ _ _ hM0 hE)).mono ?_
  rintro e w2 ⟨u, rfl, hE2, rfl⟩
  have hE := hE.tr hE2
  obtain ⟨g2, hq2⟩ : ∃ g, greatB ms = g := ⟨_, rfl⟩
  rw [hq2]
  clear hg2 hE2
  cases g2
  case true =>
    clear hL0 hM0 hB0 hq1 hq2
    go_wp2_with fail
    refine (hwk _).mono ?_
    rintro e w3 ⟨u, rfl, hE3, rfl⟩
    go_wp2
    go_ret
    exact Ret.mk (hE.tr hE3) rfl
  by_cases hlen : b.length ≤ 3000
  case neg =>
    clear hL0 hM0 hB0 hq1 hq2
    go_wp2_with fail
    refine (hwk _).mono ?_
    rintro e w3 ⟨u, rfl, hE3, rfl⟩
    go_wp2
    go_ret
    exact Ret.mk (hE.tr hE3) rfl
  obtain ⟨l1, l2⟩ := greatB_false hq1
  obtain ⟨l3, l4⟩ := greatB_false hq2
  clear hq1 hq2
  have hl := VP.st _ _ _ _ hL0 hE
  have hm := VP.st _ _ _ _ hM0 hE
  have hb := VP.st _ _ _ _ hB0 hE
  have hl80 : ls.length ≤ 10000 := by omega
  have hlf : ls.flatten.length ≤ 30000 := by omega
  have hbl : b.length ≤ 1000000 := by omega
  have htk := fun v W hv => pktake_any b v W hv hbl
  have hrt := fun v W hv => rptake_any b v W hv hbl
  have hhd := fun v W hv => phead_any b v W hv hbl
  have hrh := fun v W hv => rhead_any b v W hv hbl
  have hsz := fun v W hv => psize_any ls v W hv hl80 hlf
  have hpl : 9 + (putN ls.length).length + sizeW ls = (putP fold ls).length := by rw [put_len]; omega
  rw [hpl] at hsz
  have hpp := fun W0 u v W hX hu hv => c_pput (w0 := W0) fold ls hl80 hlf u v W hX hu hv
  have hrp := fun W0 u v W hX hu hv => c_rpput (w0 := W0) fold ls hl80 hlf u v W hX hu hv
  obtain ⟨⟨x, p, e⟩, htp⟩ : ∃ t, takeP b = t := ⟨_, rfl⟩
  obtain ⟨⟨y, q⟩, hhp⟩ : ∃ t, headP b = t := ⟨_, rfl⟩
  rw [htp] at htk hrt
  rw [hhp] at hhd hrh
  dsimp only at htk hrt hhd hrh
  generalize putP fold ls = pp at *
  clear htp hhp hpl hL0 hM0 hB0 hl80 hlf
  go_upto_region 3 with (fail)
  refine vregion0 6 (by kernel_rfl) ?_
  refine VWalk.move _ rfl (want_none rfl) (opd_fr 3 rfl hb (Ext.rf _) (by kernel_rfl)) ?_
  refine VWalk.call1 10 _ _ rfl (enters_of Try.func10 (by kernel_rfl) rfl) (want_none rfl) (opd_dep 0 32 0 rfl rfl rfl rfl) (fun v W hX hv => htk v W hv) ?_
  refine VWalk.move _ rfl (want_none rfl) (opd_dep 1 33 0 rfl rfl rfl rfl) ?_
  refine VWalk.extract _ 0 rfl rfl (want_none rfl) (opd_dep 2 31 0 rfl rfl rfl rfl) ?_
  refine VWalk.extract _ 1 rfl rfl (want_none rfl) (opd_dep 2 31 1 rfl rfl rfl rfl) ?_
  refine VWalk.extract _ 2 rfl rfl (want_none rfl) (opd_dep 2 31 2 rfl rfl rfl rfl) ?_
  refine ⟨rfl, fun W3 hE3 => ?_⟩
  refine VFin.any fun v3_0 hv3_0 => ?_
  refine VFin.any fun v3_1 hv3_1 => ?_
  refine VFin.any fun v3_2 hv3_2 => ?_
  refine VFin.eq ?_  -- 3
  refine VFin.any fun v3_4 hv3_4 => ?_
  refine VFin.eq ?_  -- 5
  refine VFin.nil ?_
  simp only [Act.put, List.setIfInBounds_toArray, List.set_cons_zero, List.set_cons_succ]
  clear hv3_0 hv3_1 hv3_2
  have hl := VP.st _ _ _ _ hl hE3
  have hm := VP.st _ _ _ _ hm hE3
  have hb := VP.st _ _ _ _ hb hE3
  have hE := hE.tr hE3
  go_upto_region 4 with (fail)
  refine vregion0 6 (by kernel_rfl) ?_
  refine VWalk.move _ rfl (want_none rfl) (opd_fr 3 rfl hb (Ext.rf _) (by kernel_rfl)) ?_
  refine VWalk.call1 11 _ _ rfl (enters_of Try.func11 (by kernel_rfl) rfl) (want_none rfl) (opd_dep 0 38 0 rfl rfl rfl rfl) (fun v W hX hv => hrt v W hv) ?_
  refine VWalk.move _ rfl (want_none rfl) (opd_dep 1 39 0 rfl rfl rfl rfl) ?_
  refine VWalk.extract _ 0 rfl rfl (want_none rfl) (opd_dep 2 37 0 rfl rfl rfl rfl) ?_
  refine VWalk.extract _ 1 rfl rfl (want_none rfl) (opd_dep 2 37 1 rfl rfl rfl rfl) ?_
  refine VWalk.extract _ 2 rfl rfl (want_none rfl) (opd_dep 2 37 2 rfl rfl rfl rfl) ?_
  refine ⟨rfl, fun W4 hE4 => ?_⟩
  refine VFin.any fun v4_0 hv4_0 => ?_
  refine VFin.any fun v4_1 hv4_1 => ?_
  refine VFin.any fun v4_2 hv4_2 => ?_
  refine VFin.eq ?_  -- 3
  refine VFin.any fun v4_4 hv4_4 => ?_
  refine VFin.eq ?_  -- 5
  refine VFin.nil ?_
  simp only [Act.put, List.setIfInBounds_toArray, List.set_cons_zero, List.set_cons_succ]
  clear hv4_0 hv4_1 hv4_2
  have hl := VP.st _ _ _ _ hl hE4
  have hm := VP.st _ _ _ _ hm hE4
  have hb := VP.st _ _ _ _ hb hE4
  have hv3_4 := VP.st _ _ _ _ hv3_4 hE4
  have hE := hE.tr hE4
  go_upto_region 5 with (fail)
  refine vregion0 5 (by kernel_rfl) ?_
  refine VWalk.move _ rfl (want_none rfl) (opd_fr 3 rfl hb (Ext.rf _) (by kernel_rfl)) ?_
  refine VWalk.call1 12 _ _ rfl (enters_of Try.func12 (by kernel_rfl) rfl) (want_none rfl) (opd_dep 0 44 0 rfl rfl rfl rfl) (fun v W hX hv => hhd v W hv) ?_
  refine VWalk.move _ rfl (want_none rfl) (opd_dep 1 45 0 rfl rfl rfl rfl) ?_
  refine VWalk.extract _ 0 rfl rfl (want_none rfl) (opd_dep 2 43 0 rfl rfl rfl rfl) ?_
  refine VWalk.extract _ 1 rfl rfl (want_none rfl) (opd_dep 2 43 1 rfl rfl rfl rfl) ?_
  refine ⟨rfl, fun W5 hE5 => ?_⟩
  refine VFin.any fun v5_0 hv5_0 => ?_
  refine VFin.any fun v5_1 hv5_1 => ?_
  refine VFin.any fun v5_2 hv5_2 => ?_
  refine VFin.eq ?_  -- 3
  refine VFin.eq ?_  -- 4
  refine VFin.nil ?_
  simp only [Act.put, List.setIfInBounds_toArray, List.set_cons_zero, List.set_cons_succ]
  clear hv5_0 hv5_1 hv5_2
  have hl := VP.st _ _ _ _ hl hE5
  have hm := VP.st _ _ _ _ hm hE5
  have hb := VP.st _ _ _ _ hb hE5
  have hv3_4 := VP.st _ _ _ _ hv3_4 hE5
  have hv4_4 := VP.st _ _ _ _ hv4_4 hE5
  have hE := hE.tr hE5
  go_upto_region 6 with (fail)
  refine vregion0 5 (by kernel_rfl) ?_
  refine VWalk.move _ rfl (want_none rfl) (opd_fr 3 rfl hb (Ext.rf _) (by kernel_rfl)) ?_
  refine VWalk.call1 13 _ _ rfl (enters_of Try.func13 (by kernel_rfl) rfl) (want_none rfl) (opd_dep 0 49 0 rfl rfl rfl rfl) (fun v W hX hv => hrh v W hv) ?_
  refine VWalk.move _ rfl (want_none rfl) (opd_dep 1 50 0 rfl rfl rfl rfl) ?_
  refine VWalk.extract _ 0 rfl rfl (want_none rfl) (opd_dep 2 48 0 rfl rfl rfl rfl) ?_
  refine VWalk.extract _ 1 rfl rfl (want_none rfl) (opd_dep 2 48 1 rfl rfl rfl rfl) ?_
  refine ⟨rfl, fun W6 hE6 => ?_⟩
  refine VFin.any fun v6_0 hv6_0 => ?_
  refine VFin.any fun v6_1 hv6_1 => ?_
  refine VFin.any fun v6_2 hv6_2 => ?_
  refine VFin.eq ?_  -- 3
  refine VFin.eq ?_  -- 4
  refine VFin.nil ?_
  simp only [Act.put, List.setIfInBounds_toArray, List.set_cons_zero, List.set_cons_succ]
  clear hv6_0 hv6_1 hv6_2
  have hl := VP.st _ _ _ _ hl hE6
  have hm := VP.st _ _ _ _ hm hE6
  have hb := VP.st _ _ _ _ hb hE6
  have hv3_4 := VP.st _ _ _ _ hv3_4 hE6
  have hv4_4 := VP.st _ _ _ _ hv4_4 hE6
  have hE := hE.tr hE6
  go_upto_region 7 with (fail)
  refine vregion0 24 (by kernel_rfl) ?_
  refine VWalk.move _ rfl (want_none rfl) (opd_frame 9 rfl (by kernel_rfl)) ?_
  refine VWalk.move _ rfl (want_none rfl) (opd_frame 12 rfl (by kernel_rfl)) ?_
  refine VWalk.neTb _ _ _ _ rfl (want_none rfl) (opd_dep 0 53 1 rfl rfl rfl rfl) (opd_dep 1 54 0 rfl rfl rfl rfl) Try.underlying4 rfl ?_
  refine VWalk.move _ rfl (want_none rfl) (opd_dep 2 55 0 rfl rfl rfl rfl) ?_
  refine VWalk.move _ rfl (want_ff 3 56 0 rfl (by kernel_rfl) rfl rfl rfl rfl) (opd_fr 10 rfl hv3_4 (Ext.rf _) (by kernel_rfl)) ?_
  refine VWalk.move _ rfl (want_ff 3 56 1 rfl (by kernel_rfl) rfl rfl rfl rfl) (opd_fr 13 rfl hv4_4 (Ext.rf _) (by kernel_rfl)) ?_
  refine VWalk.call2 14 _ _ _ rfl (enters_of Try.func14 (by kernel_rfl) rfl) (want_ff 3 56 2 rfl (by kernel_rfl) rfl rfl rfl rfl) (opd_dep 4 57 1 rfl rfl rfl rfl) (opd_dep 5 58 0 rfl rfl rfl rfl) (fun u v W hX hu hv => rpksame_any p p u v W hu hv) ?_
  refine VWalk.headT (by simp) ?_
  refine VWalk.notB _ _ rfl (want_ff 3 56 3 rfl (by kernel_rfl) rfl rfl rfl rfl) (opd_dep 6 59 0 rfl rfl rfl rfl) rfl ?_
  refine VWalk.pickF _ _ _ rfl (want_none rfl) (opd_dep 3 56 4 rfl rfl rfl rfl) (opd_dep 7 60 0 rfl rfl rfl rfl) ?_
  refine VWalk.move _ rfl (want_none rfl) (opd_dep 8 61 0 rfl rfl rfl rfl) ?_
  refine VWalk.move _ rfl (want_ff 9 62 0 rfl (by kernel_rfl) rfl rfl rfl rfl) (opd_frame 11 rfl (by kernel_rfl)) ?_
  refine VWalk.move _ rfl (want_ff 9 62 1 rfl (by kernel_rfl) rfl rfl rfl rfl) (opd_frame 14 rfl (by kernel_rfl)) ?_
  refine VWalk.neT _ _ _ _ rfl (want_ff 9 62 2 rfl (by kernel_rfl) rfl rfl rfl rfl) (opd_dep 10 63 1 rfl rfl rfl rfl) (opd_dep 11 64 0 rfl rfl rfl rfl) rfl ?_
  refine VWalk.pickF _ _ _ rfl (want_none rfl) (opd_dep 9 62 3 rfl rfl rfl rfl) (opd_dep 12 65 0 rfl rfl rfl rfl) ?_
  refine VWalk.move _ rfl (want_none rfl) (opd_dep 13 66 0 rfl rfl rfl rfl) ?_
  refine VWalk.move _ rfl (want_ff 14 67 0 rfl (by kernel_rfl) rfl rfl rfl rfl) (opd_frame 15 rfl (by kernel_rfl)) ?_
  refine VWalk.move _ rfl (want_ff 14 67 1 rfl (by kernel_rfl) rfl rfl rfl rfl) (opd_frame 17 rfl (by kernel_rfl)) ?_
  refine VWalk.neTb _ _ _ _ rfl (want_ff 14 67 2 rfl (by kernel_rfl) rfl rfl rfl rfl) (opd_dep 15 68 1 rfl rfl rfl rfl) (opd_dep 16 69 0 rfl rfl rfl rfl) Try.underlying4 rfl ?_
  refine VWalk.pickF _ _ _ rfl (want_none rfl) (opd_dep 14 67 3 rfl rfl rfl rfl) (opd_dep 17 70 0 rfl rfl rfl rfl) ?_
  refine VWalk.move _ rfl (want_none rfl) (opd_dep 18 71 0 rfl rfl rfl rfl) ?_
  refine VWalk.move _ rfl (want_ff 19 72 0 rfl (by kernel_rfl) rfl rfl rfl rfl) (opd_frame 16 rfl (by kernel_rfl)) ?_
  refine VWalk.move _ rfl (want_ff 19 72 1 rfl (by kernel_rfl) rfl rfl rfl rfl) (opd_frame 18 rfl (by kernel_rfl)) ?_
  refine VWalk.neT _ _ _ _ rfl (want_ff 19 72 2 rfl (by kernel_rfl) rfl rfl rfl rfl) (opd_dep 20 73 1 rfl rfl rfl rfl) (opd_dep 21 74 0 rfl rfl rfl rfl) rfl ?_
  refine VWalk.pickF _ _ _ rfl (want_none rfl) (opd_dep 19 72 3 rfl rfl rfl rfl) (opd_dep 22 75 0 rfl rfl rfl rfl) ?_
  refine ⟨rfl, fun W7 hE7 => ?_⟩
  refine VFin.eq ?_  -- 0
  refine VFin.eq ?_  -- 1
  refine VFin.eq ?_  -- 2
  refine VFin.eq ?_  -- 3
  refine VFin.any fun v7_4 hv7_4 => ?_
  refine VFin.any fun v7_5 hv7_5 => ?_
  refine VFin.eq ?_  -- 6
  refine VFin.eq ?_  -- 7
  refine VFin.eq ?_  -- 8
  refine VFin.eq ?_  -- 9
  refine VFin.eq ?_  -- 10
  refine VFin.eq ?_  -- 11
  refine VFin.eq ?_  -- 12
  refine VFin.eq ?_  -- 13
  refine VFin.eq ?_  -- 14
  refine VFin.eq ?_  -- 15
  refine VFin.eq ?_  -- 16
  refine VFin.eq ?_  -- 17
  refine VFin.eq ?_  -- 18
  refine VFin.eq ?_  -- 19
  refine VFin.eq ?_  -- 20
  refine VFin.eq ?_  -- 21
  refine VFin.eq ?_  -- 22
  refine VFin.eq ?_  -- 23
  refine VFin.nil ?_
  simp only [Act.put, List.setIfInBounds_toArray, List.set_cons_zero, List.set_cons_succ]
  clear hv7_4 hv7_5
  have hl := VP.st _ _ _ _ hl hE7
  have hm := VP.st _ _ _ _ hm hE7
  have hb := VP.st _ _ _ _ hb hE7
  have hv3_4 := VP.st _ _ _ _ hv3_4 hE7
  have hv4_4 := VP.st _ _ _ _ hv4_4 hE7
  have hE := hE.tr hE7
  go_upto_region 9 with (fail)
  refine law_end (r := .bool true) (by assumption) 30 [] 8 106 _ (by kernel_rfl) (by kernel_rfl) (fun _ _ _ _ _ h => h) rfl rfl rfl rfl rfl (by kernel_rfl) rfl 29 rfl rfl ?_
  refine VWalk.move _ rfl (want_none rfl) (opd_frame 0 rfl (by kernel_rfl)) ?_
  refine VWalk.move _ rfl (want_none rfl) (opd_fr 1 rfl hl (ext_drew _) (by kernel_rfl)) ?_
  refine VWalk.call2 15 _ _ _ rfl (enters_of Try.func15 (by kernel_rfl) rfl) (want_none rfl) (opd_dep 0 77 1 rfl rfl rfl rfl) (opd_dep 1 78 0 rfl rfl rfl rfl) (fun u v W hX hu hv => hpp _ u v W hX hu hv) ?_
  refine VWalk.string 23 9 5 _ rfl Try.underlying23 Try.underlying5 Try.underlying9 (want_none rfl) (opd_dep 2 79 0 rfl rfl rfl rfl) ?_
  refine VWalk.move _ rfl (want_none rfl) (opd_frame 0 rfl (by kernel_rfl)) ?_
  refine VWalk.move _ rfl (want_none rfl) (opd_fr 1 rfl hl (ext_drew _) (by kernel_rfl)) ?_
  refine VWalk.call2 16 _ _ _ rfl (enters_of Try.func16 (by kernel_rfl) rfl) (want_none rfl) (opd_dep 4 81 1 rfl rfl rfl rfl) (opd_dep 5 82 0 rfl rfl rfl rfl) (fun u v W hX hu hv => hrp _ u v W hX hu hv) ?_
  refine VWalk.string 23 9 5 _ rfl Try.underlying23 Try.underlying5 Try.underlying9 (want_none rfl) (opd_dep 6 83 0 rfl rfl rfl rfl) ?_
  refine VWalk.eqTs _ _ _ _ rfl (want_none rfl) (opd_dep 3 80 4 rfl rfl rfl rfl) (opd_dep 7 84 0 rfl rfl rfl rfl) rfl ?_
  refine VWalk.move _ rfl (want_none rfl) (opd_dep 8 85 0 rfl rfl rfl rfl) ?_
  refine VWalk.move _ rfl (want_tt 9 86 0 rfl (by kernel_rfl) rfl rfl rfl rfl) (opd_fr 1 rfl hl (ext_drew _) (by kernel_rfl)) ?_
  refine VWalk.call1 17 _ _ rfl (enters_of Try.func17 (by kernel_rfl) rfl) (want_tt 9 86 1 rfl (by kernel_rfl) rfl rfl rfl rfl) (opd_dep 10 87 0 rfl rfl rfl rfl) (fun v W hX hv => hsz v W hv) ?_
  refine VWalk.move _ rfl (want_tt 9 86 2 rfl (by kernel_rfl) rfl rfl rfl rfl) (opd_frame 0 rfl (by kernel_rfl)) ?_
  refine VWalk.move _ rfl (want_tt 9 86 3 rfl (by kernel_rfl) rfl rfl rfl rfl) (opd_fr 1 rfl hl (ext_drew _) (by kernel_rfl)) ?_
  refine VWalk.call2 16 _ _ _ rfl (enters_of Try.func16 (by kernel_rfl) rfl) (want_tt 9 86 4 rfl (by kernel_rfl) rfl rfl rfl rfl) (opd_dep 12 89 1 rfl rfl rfl rfl) (opd_dep 13 90 0 rfl rfl rfl rfl) (fun u v W hX hu hv => hrp _ u v W hX hu hv) ?_
  refine VWalk.lenB 23 5 _ rfl Try.underlying23 (want_tt 9 86 5 rfl (by kernel_rfl) rfl rfl rfl rfl) (opd_dep 14 91 0 rfl rfl rfl rfl) ?_
  refine VWalk.eqT _ _ _ _ rfl (want_tt 9 86 6 rfl (by kernel_rfl) rfl rfl rfl rfl) (opd_dep 11 88 4 rfl rfl rfl rfl) (opd_dep 15 92 0 rfl rfl rfl rfl) rfl ?_
  refine VWalk.pickT _ _ _ rfl (want_none rfl) (opd_dep 9 86 7 rfl rfl rfl rfl) (opd_dep 16 93 0 rfl rfl rfl rfl) ?_
  refine VWalk.move _ rfl (want_none rfl) (opd_dep 17 94 0 rfl rfl rfl rfl) ?_
  refine VWalk.move _ rfl (want_tt 18 95 0 rfl (by kernel_rfl) rfl rfl rfl rfl) (opd_fr 1 rfl hl (ext_drew _) (by kernel_rfl)) ?_
  refine VWalk.move _ rfl (want_tt 18 95 1 rfl (by kernel_rfl) rfl rfl rfl rfl) (opd_fr 2 rfl hm (ext_drew _) (by kernel_rfl)) ?_
  refine VWalk.call2 18 _ _ _ rfl (enters_of Try.func18 (by kernel_rfl) rfl) (want_tt 18 95 2 rfl (by kernel_rfl) rfl rfl rfl rfl) (opd_dep 19 96 1 rfl rfl rfl rfl) (opd_dep 20 97 0 rfl rfl rfl rfl) (fun u v W hX hu hv => pksame_any ls ms u v W hu hv) ?_
  refine VWalk.move _ rfl (want_tt 18 95 3 rfl (by kernel_rfl) rfl rfl rfl rfl) (opd_fr 1 rfl hl (ext_drew _) (by kernel_rfl)) ?_
  refine VWalk.move _ rfl (want_tt 18 95 4 rfl (by kernel_rfl) rfl rfl rfl rfl) (opd_fr 2 rfl hm (ext_drew _) (by kernel_rfl)) ?_
  refine VWalk.call2 14 _ _ _ rfl (enters_of Try.func14 (by kernel_rfl) rfl) (want_tt 18 95 5 rfl (by kernel_rfl) rfl rfl rfl rfl) (opd_dep 22 99 1 rfl rfl rfl rfl) (opd_dep 23 100 0 rfl rfl rfl rfl) (fun u v W hX hu hv => rpksame_any ls ms u v W hu hv) ?_
  refine VWalk.eqTb _ _ _ _ rfl (want_tt 18 95 6 rfl (by kernel_rfl) rfl rfl rfl rfl) (opd_dep 21 98 3 rfl rfl rfl rfl) (opd_dep 24 101 0 rfl rfl rfl rfl) Try.underlying4 rfl ?_
  refine VWalk.pickT _ _ _ rfl (want_none rfl) (opd_dep 18 95 7 rfl rfl rfl rfl) (opd_dep 25 102 0 rfl rfl rfl rfl) ?_
  refine VWalk.move _ rfl (want_none rfl) (opd_dep 26 103 0 rfl rfl rfl rfl) ?_
  refine VWalk.call0 9 _ rfl (enters_of Try.func9 (by kernel_rfl) rfl) (want_tt 27 104 0 rfl (by kernel_rfl) rfl rfl rfl rfl) (fun W _ => hwk W) ?_
  refine VWalk.pickT _ _ _ rfl (want_none rfl) (opd_dep 27 104 1 rfl rfl rfl rfl) (opd_dep 28 105 0 rfl rfl rfl rfl) ?_
  refine ⟨rfl, rfl, rfl, fun W9 hE9 => ?_⟩
  exact Ret.mk (hE.tr ((ext_drew _).tr hE9)) rfl
end Go.Proofs.Ytggjkhldknppkaa
