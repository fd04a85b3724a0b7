/- DigitTells, walked. -/
import Derived.Test.YtddkjicahpjcpaaDigI
import Derived.Deep.Cut
namespace Go.Proofs.Ytddkjicahpjcpaa
open Go.RowKit DigM
set_option maxRecDepth 100000 in
set_option maxHeartbeats 4000000 in
theorem digitTells_any (n : Int) (ns : List Int) (bs : List UInt8) (many : Int) (hm : many ≤ 9223372036854775807) (vl vb : Value) (w : World) (hN : VInts ns vl w) (hB : VBytes bs vb w) : Calls Try.prog 3 #[.int .i64 n, vl, vb, .int .i64 many] w (Ret w (VEq (.bool true))) := by
  obtain ⟨A1, c1, rfl, -⟩ := VInts.form hN
  obtain ⟨A2, c2, rfl, -⟩ := VBytes.form hB
  go_enter Try.func3, Try.ntmps3
  by_cases hla : (60 : Int) < ns.length
  · skip
    go_upto_region 2 with (fail)
    refine vregion0 1 (by kernel_rfl) ?_
    refine VWalk.call0 7 _ rfl (enters_of Try.func7 (by kernel_rfl) rfl) (want_none rfl) c_wakes ?_
    refine ⟨rfl, fun W2 hE2 => ?_⟩
    refine VFin.eq ?_  -- 0
    refine VFin.nil ?_
    simp only [Act.put, List.setIfInBounds_toArray, List.set_cons_zero, List.set_cons_succ]
    have hN := VP.st _ _ _ _ hN hE2
    have hB := VP.st _ _ _ _ hB hE2
    have hE := hE2
    go_wp2
    go_ret
    exact Ret.mk hE rfl
  have hla' : ns.length ≤ 60 := by omega
  by_cases hlb : (400 : Int) < bs.length
  · skip
    go_upto_region 2 with (fail)
    refine vregion0 1 (by kernel_rfl) ?_
    refine VWalk.call0 7 _ rfl (enters_of Try.func7 (by kernel_rfl) rfl) (want_none rfl) c_wakes ?_
    refine ⟨rfl, fun W2 hE2 => ?_⟩
    refine VFin.eq ?_  -- 0
    refine VFin.nil ?_
    simp only [Act.put, List.setIfInBounds_toArray, List.set_cons_zero, List.set_cons_succ]
    have hN := VP.st _ _ _ _ hN hE2
    have hB := VP.st _ _ _ _ hB hE2
    have hE := hE2
    go_wp2
    go_ret
    exact Ret.mk hE rfl
  have hlb' : bs.length ≤ 400 := by omega
  clear hla hlb
  go_upto_region 3 with (fail)
  refine vregion0 5 (by kernel_rfl) ?_
  refine VWalk.move _ rfl (want_none rfl) (opd_frame 0 rfl (by kernel_rfl)) ?_
  refine VWalk.call1 8 _ _ rfl (enters_of Try.func8 (by kernel_rfl) rfl) (want_none rfl) (opd_dep 0 35 0 rfl rfl rfl rfl) (c_put _) ?_
  refine VWalk.move _ rfl (want_none rfl) (opd_dep 1 36 0 rfl rfl rfl rfl) ?_
  refine VWalk.extract _ 0 rfl rfl (want_none rfl) (opd_dep 2 34 0 rfl rfl rfl rfl) ?_
  refine VWalk.extract _ 1 rfl rfl (want_none rfl) (opd_dep 2 34 1 rfl rfl rfl rfl) ?_
  refine ⟨rfl, fun W3 hE3 => ?_⟩
  refine VFin.eq ?_  -- 0
  refine VFin.any fun v3_1 hv3_1 => ?_
  refine VFin.any fun v3_2 hv3_2 => ?_
  refine VFin.any fun v3_3 hv3_3 => ?_
  refine VFin.eq ?_  -- 4
  refine VFin.nil ?_
  simp only [Act.put, List.setIfInBounds_toArray, List.set_cons_zero, List.set_cons_succ]
  clear hv3_1 hv3_2
  have hN := VP.st _ _ _ _ hN hE3
  have hB := VP.st _ _ _ _ hB hE3
  have hE := hE3
  go_upto_region 4 with (fail)
  refine vregion0 5 (by kernel_rfl) ?_
  refine VWalk.move _ rfl (want_none rfl) (opd_frame 0 rfl (by kernel_rfl)) ?_
  refine VWalk.call1 9 _ _ rfl (enters_of Try.func9 (by kernel_rfl) rfl) (want_none rfl) (opd_dep 0 40 0 rfl rfl rfl rfl) (c_rput _) ?_
  refine VWalk.move _ rfl (want_none rfl) (opd_dep 1 41 0 rfl rfl rfl rfl) ?_
  refine VWalk.extract _ 0 rfl rfl (want_none rfl) (opd_dep 2 39 0 rfl rfl rfl rfl) ?_
  refine VWalk.extract _ 1 rfl rfl (want_none rfl) (opd_dep 2 39 1 rfl rfl rfl rfl) ?_
  refine ⟨rfl, fun W4 hE4 => ?_⟩
  refine VFin.eq ?_  -- 0
  refine VFin.any fun v4_1 hv4_1 => ?_
  refine VFin.any fun v4_2 hv4_2 => ?_
  refine VFin.any fun v4_3 hv4_3 => ?_
  refine VFin.eq ?_  -- 4
  refine VFin.nil ?_
  simp only [Act.put, List.setIfInBounds_toArray, List.set_cons_zero, List.set_cons_succ]
  clear hv4_1 hv4_2
  have hN := VP.st _ _ _ _ hN hE4
  have hB := VP.st _ _ _ _ hB hE4
  have hv3_3 := VP.st _ _ _ _ hv3_3 hE4
  have hE := hE.tr hE4
  go_upto_region 5 with (fail)
  refine vregion0 5 (by kernel_rfl) ?_
  refine VWalk.move _ rfl (want_none rfl) (opd_fr 1 rfl hN (Ext.rf _) (by kernel_rfl)) ?_
  refine VWalk.call1 10 _ _ rfl (enters_of Try.func10 (by kernel_rfl) rfl) (want_none rfl) (opd_dep 0 45 0 rfl rfl rfl rfl) (c_puts ns (by omega)) ?_
  refine VWalk.move _ rfl (want_none rfl) (opd_dep 1 46 0 rfl rfl rfl rfl) ?_
  refine VWalk.extract _ 0 rfl rfl (want_none rfl) (opd_dep 2 44 0 rfl rfl rfl rfl) ?_
  refine VWalk.extract _ 1 rfl rfl (want_none rfl) (opd_dep 2 44 1 rfl rfl rfl rfl) ?_
  refine ⟨rfl, fun W5 hE5 => ?_⟩
  refine VFin.any fun v5_0 hv5_0 => ?_
  refine VFin.any fun v5_1 hv5_1 => ?_
  refine VFin.any fun v5_2 hv5_2 => ?_
  refine VFin.any fun v5_3 hv5_3 => ?_
  refine VFin.eq ?_  -- 4
  refine VFin.nil ?_
  simp only [Act.put, List.setIfInBounds_toArray, List.set_cons_zero, List.set_cons_succ]
  clear hv5_0 hv5_1 hv5_2
  have hN := VP.st _ _ _ _ hN hE5
  have hB := VP.st _ _ _ _ hB hE5
  have hv3_3 := VP.st _ _ _ _ hv3_3 hE5
  have hv4_3 := VP.st _ _ _ _ hv4_3 hE5
  have hE := hE.tr hE5
  go_upto_region 6 with (fail)
  refine vregion0 5 (by kernel_rfl) ?_
  refine VWalk.move _ rfl (want_none rfl) (opd_fr 1 rfl hN (Ext.rf _) (by kernel_rfl)) ?_
  refine VWalk.call1 11 _ _ rfl (enters_of Try.func11 (by kernel_rfl) rfl) (want_none rfl) (opd_dep 0 50 0 rfl rfl rfl rfl) (c_rputs ns (by omega)) ?_
  refine VWalk.move _ rfl (want_none rfl) (opd_dep 1 51 0 rfl rfl rfl rfl) ?_
  refine VWalk.extract _ 0 rfl rfl (want_none rfl) (opd_dep 2 49 0 rfl rfl rfl rfl) ?_
  refine VWalk.extract _ 1 rfl rfl (want_none rfl) (opd_dep 2 49 1 rfl rfl rfl rfl) ?_
  refine ⟨rfl, fun W6 hE6 => ?_⟩
  refine VFin.any fun v6_0 hv6_0 => ?_
  refine VFin.any fun v6_1 hv6_1 => ?_
  refine VFin.any fun v6_2 hv6_2 => ?_
  refine VFin.any fun v6_3 hv6_3 => ?_
  refine VFin.eq ?_  -- 4
  refine VFin.nil ?_
  simp only [Act.put, List.setIfInBounds_toArray, List.set_cons_zero, List.set_cons_succ]
  clear hv6_0 hv6_1 hv6_2
  have hN := VP.st _ _ _ _ hN hE6
  have hB := VP.st _ _ _ _ hB hE6
  have hv3_3 := VP.st _ _ _ _ hv3_3 hE6
  have hv4_3 := VP.st _ _ _ _ hv4_3 hE6
  have hv5_3 := VP.st _ _ _ _ hv5_3 hE6
  have hE := hE.tr hE6
  go_upto_region 7 with (fail)
  refine vregion0 29 (by kernel_rfl) ?_
  refine VWalk.move _ rfl (want_none rfl) (opd_fr 9 rfl hv3_3 (Ext.rf _) (by kernel_rfl)) ?_
  refine VWalk.string 23 9 5 _ rfl Try.underlying23 Try.underlying5 Try.underlying9 (want_none rfl) (opd_dep 0 54 0 rfl rfl rfl rfl) ?_
  refine VWalk.move _ rfl (want_none rfl) (opd_fr 11 rfl hv4_3 (Ext.rf _) (by kernel_rfl)) ?_
  refine VWalk.string 23 9 5 _ rfl Try.underlying23 Try.underlying5 Try.underlying9 (want_none rfl) (opd_dep 2 56 0 rfl rfl rfl rfl) ?_
  refine VWalk.neTs _ _ _ _ rfl (want_none rfl) (opd_dep 1 55 2 rfl rfl rfl rfl) (opd_dep 3 57 0 rfl rfl rfl rfl) rfl ?_
  refine VWalk.move _ rfl (want_none rfl) (opd_dep 4 58 0 rfl rfl rfl rfl) ?_
  refine VWalk.move _ rfl (want_ff 5 59 0 rfl (by kernel_rfl) rfl rfl rfl rfl) (opd_frame 10 rfl (by kernel_rfl)) ?_
  refine VWalk.move _ rfl (want_ff 5 59 1 rfl (by kernel_rfl) rfl rfl rfl rfl) (opd_frame 12 rfl (by kernel_rfl)) ?_
  refine VWalk.neT _ _ _ _ rfl (want_ff 5 59 2 rfl (by kernel_rfl) rfl rfl rfl rfl) (opd_dep 6 60 1 rfl rfl rfl rfl) (opd_dep 7 61 0 rfl rfl rfl rfl) rfl ?_
  refine VWalk.pickF _ _ _ rfl (want_none rfl) (opd_dep 5 59 3 rfl rfl rfl rfl) (opd_dep 8 62 0 rfl rfl rfl rfl) ?_
  refine VWalk.move _ rfl (want_none rfl) (opd_dep 9 63 0 rfl rfl rfl rfl) ?_
  refine VWalk.move _ rfl (want_ff 10 64 0 rfl (by kernel_rfl) rfl rfl rfl rfl) (opd_fr 13 rfl hv5_3 (Ext.rf _) (by kernel_rfl)) ?_
  refine VWalk.string 23 9 5 _ rfl Try.underlying23 Try.underlying5 Try.underlying9 (want_ff 10 64 1 rfl (by kernel_rfl) rfl rfl rfl rfl) (opd_dep 11 65 0 rfl rfl rfl rfl) ?_
  refine VWalk.move _ rfl (want_ff 10 64 2 rfl (by kernel_rfl) rfl rfl rfl rfl) (opd_fr 15 rfl hv6_3 (Ext.rf _) (by kernel_rfl)) ?_
  refine VWalk.string 23 9 5 _ rfl Try.underlying23 Try.underlying5 Try.underlying9 (want_ff 10 64 3 rfl (by kernel_rfl) rfl rfl rfl rfl) (opd_dep 13 67 0 rfl rfl rfl rfl) ?_
  refine VWalk.neTs _ _ _ _ rfl (want_ff 10 64 4 rfl (by kernel_rfl) rfl rfl rfl rfl) (opd_dep 12 66 2 rfl rfl rfl rfl) (opd_dep 14 68 0 rfl rfl rfl rfl) rfl ?_
  refine VWalk.pickF _ _ _ rfl (want_none rfl) (opd_dep 10 64 5 rfl rfl rfl rfl) (opd_dep 15 69 0 rfl rfl rfl rfl) ?_
  refine VWalk.move _ rfl (want_none rfl) (opd_dep 16 70 0 rfl rfl rfl rfl) ?_
  refine VWalk.move _ rfl (want_ff 17 71 0 rfl (by kernel_rfl) rfl rfl rfl rfl) (opd_frame 14 rfl (by kernel_rfl)) ?_
  refine VWalk.move _ rfl (want_ff 17 71 1 rfl (by kernel_rfl) rfl rfl rfl rfl) (opd_frame 16 rfl (by kernel_rfl)) ?_
  refine VWalk.neT _ _ _ _ rfl (want_ff 17 71 2 rfl (by kernel_rfl) rfl rfl rfl rfl) (opd_dep 18 72 1 rfl rfl rfl rfl) (opd_dep 19 73 0 rfl rfl rfl rfl) rfl ?_
  refine VWalk.pickF _ _ _ rfl (want_none rfl) (opd_dep 17 71 3 rfl rfl rfl rfl) (opd_dep 20 74 0 rfl rfl rfl rfl) ?_
  refine VWalk.move _ rfl (want_none rfl) (opd_dep 21 75 0 rfl rfl rfl rfl) ?_
  refine VWalk.move _ rfl (want_ff 22 76 0 rfl (by kernel_rfl) rfl rfl rfl rfl) (opd_fr 1 rfl hN (Ext.rf _) (by kernel_rfl)) ?_
  refine VWalk.call1 12 _ _ rfl (enters_of Try.func12 (by kernel_rfl) rfl) (want_ff 22 76 1 rfl (by kernel_rfl) rfl rfl rfl rfl) (opd_dep 23 77 0 rfl rfl rfl rfl) (c_size ns (by omega)) ?_
  refine VWalk.move _ rfl (want_ff 22 76 2 rfl (by kernel_rfl) rfl rfl rfl rfl) (opd_fr 1 rfl hN (Ext.rf _) (by kernel_rfl)) ?_
  refine VWalk.call1 13 _ _ rfl (enters_of Try.func13 (by kernel_rfl) rfl) (want_ff 22 76 3 rfl (by kernel_rfl) rfl rfl rfl rfl) (opd_dep 25 79 0 rfl rfl rfl rfl) (c_rsize ns (by omega)) ?_
  refine VWalk.neT _ _ _ _ rfl (want_ff 22 76 4 rfl (by kernel_rfl) rfl rfl rfl rfl) (opd_dep 24 78 2 rfl rfl rfl rfl) (opd_dep 26 80 0 rfl rfl rfl rfl) rfl ?_
  refine VWalk.pickF _ _ _ rfl (want_none rfl) (opd_dep 22 76 5 rfl rfl rfl rfl) (opd_dep 27 81 0 rfl rfl rfl rfl) ?_
  refine ⟨rfl, fun W7 hE7 => ?_⟩
  refine VFin.any fun v7_0 hv7_0 => ?_
  refine VFin.eq ?_  -- 1
  refine VFin.any fun v7_2 hv7_2 => ?_
  refine VFin.eq ?_  -- 3
  refine VFin.eq ?_  -- 4
  refine VFin.eq ?_  -- 5
  refine VFin.eq ?_  -- 6
  refine VFin.eq ?_  -- 7
  refine VFin.eq ?_  -- 8
  refine VFin.eq ?_  -- 9
  refine VFin.eq ?_  -- 10
  refine VFin.any fun v7_11 hv7_11 => ?_
  refine VFin.eq ?_  -- 12
  refine VFin.any fun v7_13 hv7_13 => ?_
  refine VFin.eq ?_  -- 14
  refine VFin.eq ?_  -- 15
  refine VFin.eq ?_  -- 16
  refine VFin.eq ?_  -- 17
  refine VFin.eq ?_  -- 18
  refine VFin.eq ?_  -- 19
  refine VFin.eq ?_  -- 20
  refine VFin.eq ?_  -- 21
  refine VFin.eq ?_  -- 22
  refine VFin.any fun v7_23 hv7_23 => ?_
  refine VFin.eq ?_  -- 24
  refine VFin.any fun v7_25 hv7_25 => ?_
  refine VFin.eq ?_  -- 26
  refine VFin.eq ?_  -- 27
  refine VFin.eq ?_  -- 28
  refine VFin.nil ?_
  simp only [Act.put, List.setIfInBounds_toArray, List.set_cons_zero, List.set_cons_succ]
  clear hv7_0 hv7_2 hv7_11 hv7_13 hv7_23 hv7_25
  have hN := VP.st _ _ _ _ hN hE7
  have hB := VP.st _ _ _ _ hB hE7
  have hv3_3 := VP.st _ _ _ _ hv3_3 hE7
  have hv4_3 := VP.st _ _ _ _ hv4_3 hE7
  have hv5_3 := VP.st _ _ _ _ hv5_3 hE7
  have hv6_3 := VP.st _ _ _ _ hv6_3 hE7
  have hE := hE.tr hE7
  go_upto_region 9 with (fail)
  refine vregion0 6 (by kernel_rfl) ?_
  refine VWalk.move _ rfl (want_none rfl) (opd_fr 2 rfl hB (Ext.rf _) (by kernel_rfl)) ?_
  refine VWalk.call1 14 _ _ rfl (enters_of Try.func14 (by kernel_rfl) rfl) (want_none rfl) (opd_dep 0 84 0 rfl rfl rfl rfl) (c_take _ (by omega)) ?_
  refine VWalk.move _ rfl (want_none rfl) (opd_dep 1 85 0 rfl rfl rfl rfl) ?_
  refine VWalk.extract _ 0 rfl rfl (want_none rfl) (opd_dep 2 83 0 rfl rfl rfl rfl) ?_
  refine VWalk.extract _ 1 rfl rfl (want_none rfl) (opd_dep 2 83 1 rfl rfl rfl rfl) ?_
  refine VWalk.extract _ 2 rfl rfl (want_none rfl) (opd_dep 2 83 2 rfl rfl rfl rfl) ?_
  refine ⟨rfl, fun W9 hE9 => ?_⟩
  refine VFin.any fun v9_0 hv9_0 => ?_
  refine VFin.any fun v9_1 hv9_1 => ?_
  refine VFin.any fun v9_2 hv9_2 => ?_
  refine VFin.eq ?_  -- 3
  refine VFin.any fun v9_4 hv9_4 => ?_
  refine VFin.eq ?_  -- 5
  refine VFin.nil ?_
  simp only [Act.put, List.setIfInBounds_toArray, List.set_cons_zero, List.set_cons_succ]
  clear hv9_0 hv9_1 hv9_2
  have hN := VP.st _ _ _ _ hN hE9
  have hB := VP.st _ _ _ _ hB hE9
  have hv3_3 := VP.st _ _ _ _ hv3_3 hE9
  have hv4_3 := VP.st _ _ _ _ hv4_3 hE9
  have hv5_3 := VP.st _ _ _ _ hv5_3 hE9
  have hv6_3 := VP.st _ _ _ _ hv6_3 hE9
  have hE := hE.tr hE9
  go_upto_region 10 with (fail)
  refine vregion0 6 (by kernel_rfl) ?_
  refine VWalk.move _ rfl (want_none rfl) (opd_fr 2 rfl hB (Ext.rf _) (by kernel_rfl)) ?_
  refine VWalk.call1 15 _ _ rfl (enters_of Try.func15 (by kernel_rfl) rfl) (want_none rfl) (opd_dep 0 90 0 rfl rfl rfl rfl) (c_rtake _ (by omega)) ?_
  refine VWalk.move _ rfl (want_none rfl) (opd_dep 1 91 0 rfl rfl rfl rfl) ?_
  refine VWalk.extract _ 0 rfl rfl (want_none rfl) (opd_dep 2 89 0 rfl rfl rfl rfl) ?_
  refine VWalk.extract _ 1 rfl rfl (want_none rfl) (opd_dep 2 89 1 rfl rfl rfl rfl) ?_
  refine VWalk.extract _ 2 rfl rfl (want_none rfl) (opd_dep 2 89 2 rfl rfl rfl rfl) ?_
  refine ⟨rfl, fun W10 hE10 => ?_⟩
  refine VFin.any fun v10_0 hv10_0 => ?_
  refine VFin.any fun v10_1 hv10_1 => ?_
  refine VFin.any fun v10_2 hv10_2 => ?_
  refine VFin.eq ?_  -- 3
  refine VFin.any fun v10_4 hv10_4 => ?_
  refine VFin.eq ?_  -- 5
  refine VFin.nil ?_
  simp only [Act.put, List.setIfInBounds_toArray, List.set_cons_zero, List.set_cons_succ]
  clear hv10_0 hv10_1 hv10_2
  have hN := VP.st _ _ _ _ hN hE10
  have hB := VP.st _ _ _ _ hB hE10
  have hv3_3 := VP.st _ _ _ _ hv3_3 hE10
  have hv4_3 := VP.st _ _ _ _ hv4_3 hE10
  have hv5_3 := VP.st _ _ _ _ hv5_3 hE10
  have hv6_3 := VP.st _ _ _ _ hv6_3 hE10
  have hv9_4 := VP.st _ _ _ _ hv9_4 hE10
  have hE := hE.tr hE10
  go_upto_region 11 with (fail)
  refine vregion0 7 (by kernel_rfl) ?_
  refine VWalk.move _ rfl (want_none rfl) (opd_fr 2 rfl hB (Ext.rf _) (by kernel_rfl)) ?_
  refine VWalk.move _ rfl (want_none rfl) (opd_frame 3 rfl (by kernel_rfl)) ?_
  refine VWalk.call2 16 _ _ _ rfl (enters_of Try.func16 (by kernel_rfl) rfl) (want_none rfl) (opd_dep 0 96 1 rfl rfl rfl rfl) (opd_dep 1 97 0 rfl rfl rfl rfl) (c_takes _ _ hm (by omega)) ?_
  refine VWalk.move _ rfl (want_none rfl) (opd_dep 2 98 0 rfl rfl rfl rfl) ?_
  refine VWalk.extract _ 0 rfl rfl (want_none rfl) (opd_dep 3 95 0 rfl rfl rfl rfl) ?_
  refine VWalk.extract _ 1 rfl rfl (want_none rfl) (opd_dep 3 95 1 rfl rfl rfl rfl) ?_
  refine VWalk.extract _ 2 rfl rfl (want_none rfl) (opd_dep 3 95 2 rfl rfl rfl rfl) ?_
  refine ⟨rfl, fun W11 hE11 => ?_⟩
  refine VFin.any fun v11_0 hv11_0 => ?_
  refine VFin.eq ?_  -- 1
  refine VFin.any fun v11_2 hv11_2 => ?_
  refine VFin.any fun v11_3 hv11_3 => ?_
  refine VFin.any fun v11_4 hv11_4 => ?_
  refine VFin.any fun v11_5 hv11_5 => ?_
  refine VFin.eq ?_  -- 6
  refine VFin.nil ?_
  simp only [Act.put, List.setIfInBounds_toArray, List.set_cons_zero, List.set_cons_succ]
  clear hv11_0 hv11_2 hv11_3
  have hN := VP.st _ _ _ _ hN hE11
  have hB := VP.st _ _ _ _ hB hE11
  have hv3_3 := VP.st _ _ _ _ hv3_3 hE11
  have hv4_3 := VP.st _ _ _ _ hv4_3 hE11
  have hv5_3 := VP.st _ _ _ _ hv5_3 hE11
  have hv6_3 := VP.st _ _ _ _ hv6_3 hE11
  have hv9_4 := VP.st _ _ _ _ hv9_4 hE11
  have hv10_4 := VP.st _ _ _ _ hv10_4 hE11
  have hE := hE.tr hE11
  go_upto_region 12 with (fail)
  refine vregion0 7 (by kernel_rfl) ?_
  refine VWalk.move _ rfl (want_none rfl) (opd_fr 2 rfl hB (Ext.rf _) (by kernel_rfl)) ?_
  refine VWalk.move _ rfl (want_none rfl) (opd_frame 3 rfl (by kernel_rfl)) ?_
  refine VWalk.call2 17 _ _ _ rfl (enters_of Try.func17 (by kernel_rfl) rfl) (want_none rfl) (opd_dep 0 103 1 rfl rfl rfl rfl) (opd_dep 1 104 0 rfl rfl rfl rfl) (c_rtakes _ _ hm (by omega)) ?_
  refine VWalk.move _ rfl (want_none rfl) (opd_dep 2 105 0 rfl rfl rfl rfl) ?_
  refine VWalk.extract _ 0 rfl rfl (want_none rfl) (opd_dep 3 102 0 rfl rfl rfl rfl) ?_
  refine VWalk.extract _ 1 rfl rfl (want_none rfl) (opd_dep 3 102 1 rfl rfl rfl rfl) ?_
  refine VWalk.extract _ 2 rfl rfl (want_none rfl) (opd_dep 3 102 2 rfl rfl rfl rfl) ?_
  refine ⟨rfl, fun W12 hE12 => ?_⟩
  refine VFin.any fun v12_0 hv12_0 => ?_
  refine VFin.eq ?_  -- 1
  refine VFin.any fun v12_2 hv12_2 => ?_
  refine VFin.any fun v12_3 hv12_3 => ?_
  refine VFin.any fun v12_4 hv12_4 => ?_
  refine VFin.any fun v12_5 hv12_5 => ?_
  refine VFin.eq ?_  -- 6
  refine VFin.nil ?_
  simp only [Act.put, List.setIfInBounds_toArray, List.set_cons_zero, List.set_cons_succ]
  clear hv12_0 hv12_2 hv12_3
  have hN := VP.st _ _ _ _ hN hE12
  have hB := VP.st _ _ _ _ hB hE12
  have hv3_3 := VP.st _ _ _ _ hv3_3 hE12
  have hv4_3 := VP.st _ _ _ _ hv4_3 hE12
  have hv5_3 := VP.st _ _ _ _ hv5_3 hE12
  have hv6_3 := VP.st _ _ _ _ hv6_3 hE12
  have hv9_4 := VP.st _ _ _ _ hv9_4 hE12
  have hv10_4 := VP.st _ _ _ _ hv10_4 hE12
  have hv11_4 := VP.st _ _ _ _ hv11_4 hE12
  have hv11_5 := VP.st _ _ _ _ hv11_5 hE12
  have hE := hE.tr hE12
  go_upto_region 13 with (fail)
  refine vregion0 35 (by kernel_rfl) ?_
  refine VWalk.move _ rfl (want_none rfl) (opd_frame 17 rfl (by kernel_rfl)) ?_
  refine VWalk.move _ rfl (want_none rfl) (opd_frame 19 rfl (by kernel_rfl)) ?_
  refine VWalk.eqT _ _ _ _ rfl (want_none rfl) (opd_dep 0 109 1 rfl rfl rfl rfl) (opd_dep 1 110 0 rfl rfl rfl rfl) rfl ?_
  refine VWalk.move _ rfl (want_none rfl) (opd_dep 2 111 0 rfl rfl rfl rfl) ?_
  refine VWalk.move _ rfl (want_tt 3 112 0 rfl (by kernel_rfl) rfl rfl rfl rfl) (opd_fr 18 rfl hv9_4 (Ext.rf _) (by kernel_rfl)) ?_
  refine VWalk.string 23 9 5 _ rfl Try.underlying23 Try.underlying5 Try.underlying9 (want_tt 3 112 1 rfl (by kernel_rfl) rfl rfl rfl rfl) (opd_dep 4 113 0 rfl rfl rfl rfl) ?_
  refine VWalk.move _ rfl (want_tt 3 112 2 rfl (by kernel_rfl) rfl rfl rfl rfl) (opd_fr 20 rfl hv10_4 (Ext.rf _) (by kernel_rfl)) ?_
  refine VWalk.string 23 9 5 _ rfl Try.underlying23 Try.underlying5 Try.underlying9 (want_tt 3 112 3 rfl (by kernel_rfl) rfl rfl rfl rfl) (opd_dep 6 115 0 rfl rfl rfl rfl) ?_
  refine VWalk.eqTs _ _ _ _ rfl (want_tt 3 112 4 rfl (by kernel_rfl) rfl rfl rfl rfl) (opd_dep 5 114 2 rfl rfl rfl rfl) (opd_dep 7 116 0 rfl rfl rfl rfl) rfl ?_
  refine VWalk.pickT _ _ _ rfl (want_none rfl) (opd_dep 3 112 5 rfl rfl rfl rfl) (opd_dep 8 117 0 rfl rfl rfl rfl) ?_
  refine VWalk.move _ rfl (want_none rfl) (opd_dep 9 118 0 rfl rfl rfl rfl) ?_
  refine VWalk.move _ rfl (want_tt 10 119 0 rfl (by kernel_rfl) rfl rfl rfl rfl) (opd_frame 10 rfl (by kernel_rfl)) ?_
  refine VWalk.move _ rfl (want_tt 10 119 1 rfl (by kernel_rfl) rfl rfl rfl rfl) (opd_frame 12 rfl (by kernel_rfl)) ?_
  refine VWalk.eqT _ _ _ _ rfl (want_tt 10 119 2 rfl (by kernel_rfl) rfl rfl rfl rfl) (opd_dep 11 120 1 rfl rfl rfl rfl) (opd_dep 12 121 0 rfl rfl rfl rfl) rfl ?_
  refine VWalk.pickT _ _ _ rfl (want_none rfl) (opd_dep 10 119 3 rfl rfl rfl rfl) (opd_dep 13 122 0 rfl rfl rfl rfl) ?_
  refine VWalk.move _ rfl (want_none rfl) (opd_dep 14 123 0 rfl rfl rfl rfl) ?_
  refine VWalk.move _ rfl (want_tt 15 124 0 rfl (by kernel_rfl) rfl rfl rfl rfl) (opd_fr 21 rfl hv11_4 (Ext.rf _) (by kernel_rfl)) ?_
  refine VWalk.move _ rfl (want_tt 15 124 1 rfl (by kernel_rfl) rfl rfl rfl rfl) (opd_fr 23 rfl hv12_4 (Ext.rf _) (by kernel_rfl)) ?_
  refine VWalk.call2 18 _ _ _ rfl (enters_of Try.func18 (by kernel_rfl) rfl) (want_tt 15 124 2 rfl (by kernel_rfl) rfl rfl rfl rfl) (opd_dep 16 125 1 rfl rfl rfl rfl) (opd_dep 17 126 0 rfl rfl rfl rfl) (c_ints _ _) ?_
  refine VWalk.headT (decide_eq_true rfl) ?_
  refine VWalk.pickT _ _ _ rfl (want_none rfl) (opd_dep 15 124 3 rfl rfl rfl rfl) (opd_dep 18 127 0 rfl rfl rfl rfl) ?_
  refine VWalk.move _ rfl (want_none rfl) (opd_dep 19 128 0 rfl rfl rfl rfl) ?_
  refine VWalk.move _ rfl (want_tt 20 129 0 rfl (by kernel_rfl) rfl rfl rfl rfl) (opd_fr 22 rfl hv11_5 (Ext.rf _) (by kernel_rfl)) ?_
  refine VWalk.string 23 9 5 _ rfl Try.underlying23 Try.underlying5 Try.underlying9 (want_tt 20 129 1 rfl (by kernel_rfl) rfl rfl rfl rfl) (opd_dep 21 130 0 rfl rfl rfl rfl) ?_
  refine VWalk.move _ rfl (want_tt 20 129 2 rfl (by kernel_rfl) rfl rfl rfl rfl) (opd_fr 24 rfl hv12_5 (Ext.rf _) (by kernel_rfl)) ?_
  refine VWalk.string 23 9 5 _ rfl Try.underlying23 Try.underlying5 Try.underlying9 (want_tt 20 129 3 rfl (by kernel_rfl) rfl rfl rfl rfl) (opd_dep 23 132 0 rfl rfl rfl rfl) ?_
  refine VWalk.eqTs _ _ _ _ rfl (want_tt 20 129 4 rfl (by kernel_rfl) rfl rfl rfl rfl) (opd_dep 22 131 2 rfl rfl rfl rfl) (opd_dep 24 133 0 rfl rfl rfl rfl) rfl ?_
  refine VWalk.pickT _ _ _ rfl (want_none rfl) (opd_dep 20 129 5 rfl rfl rfl rfl) (opd_dep 25 134 0 rfl rfl rfl rfl) ?_
  refine VWalk.move _ rfl (want_none rfl) (opd_dep 26 135 0 rfl rfl rfl rfl) ?_
  refine VWalk.move _ rfl (want_tt 27 136 0 rfl (by kernel_rfl) rfl rfl rfl rfl) (opd_frame 14 rfl (by kernel_rfl)) ?_
  refine VWalk.move _ rfl (want_tt 27 136 1 rfl (by kernel_rfl) rfl rfl rfl rfl) (opd_frame 16 rfl (by kernel_rfl)) ?_
  refine VWalk.eqT _ _ _ _ rfl (want_tt 27 136 2 rfl (by kernel_rfl) rfl rfl rfl rfl) (opd_dep 28 137 1 rfl rfl rfl rfl) (opd_dep 29 138 0 rfl rfl rfl rfl) rfl ?_
  refine VWalk.pickT _ _ _ rfl (want_none rfl) (opd_dep 27 136 3 rfl rfl rfl rfl) (opd_dep 30 139 0 rfl rfl rfl rfl) ?_
  refine VWalk.move _ rfl (want_none rfl) (opd_dep 31 140 0 rfl rfl rfl rfl) ?_
  refine VWalk.call0 7 _ rfl (enters_of Try.func7 (by kernel_rfl) rfl) (want_tt 32 141 0 rfl (by kernel_rfl) rfl rfl rfl rfl) c_wakes ?_
  refine VWalk.pickT _ _ _ rfl (want_none rfl) (opd_dep 32 141 1 rfl rfl rfl rfl) (opd_dep 33 142 0 rfl rfl rfl rfl) ?_
  refine ⟨rfl, fun W13 hE13 => ?_⟩
  refine VFin.eq ?_  -- 0
  refine VFin.eq ?_  -- 1
  refine VFin.eq ?_  -- 2
  refine VFin.eq ?_  -- 3
  refine VFin.any fun v13_4 hv13_4 => ?_
  refine VFin.eq ?_  -- 5
  refine VFin.any fun v13_6 hv13_6 => ?_
  refine VFin.eq ?_  -- 7
  refine VFin.eq ?_  -- 8
  refine VFin.eq ?_  -- 9
  refine VFin.eq ?_  -- 10
  refine VFin.eq ?_  -- 11
  refine VFin.eq ?_  -- 12
  refine VFin.eq ?_  -- 13
  refine VFin.eq ?_  -- 14
  refine VFin.eq ?_  -- 15
  refine VFin.any fun v13_16 hv13_16 => ?_
  refine VFin.any fun v13_17 hv13_17 => ?_
  refine VFin.eq ?_  -- 18
  refine VFin.eq ?_  -- 19
  refine VFin.eq ?_  -- 20
  refine VFin.any fun v13_21 hv13_21 => ?_
  refine VFin.eq ?_  -- 22
  refine VFin.any fun v13_23 hv13_23 => ?_
  refine VFin.eq ?_  -- 24
  refine VFin.eq ?_  -- 25
  refine VFin.eq ?_  -- 26
  refine VFin.eq ?_  -- 27
  refine VFin.eq ?_  -- 28
  refine VFin.eq ?_  -- 29
  refine VFin.eq ?_  -- 30
  refine VFin.eq ?_  -- 31
  refine VFin.eq ?_  -- 32
  refine VFin.eq ?_  -- 33
  refine VFin.eq ?_  -- 34
  refine VFin.nil ?_
  simp only [Act.put, List.setIfInBounds_toArray, List.set_cons_zero, List.set_cons_succ]
  clear hv13_4 hv13_6 hv13_16 hv13_17 hv13_21 hv13_23
  have hN := VP.st _ _ _ _ hN hE13
  have hB := VP.st _ _ _ _ hB hE13
  have hv3_3 := VP.st _ _ _ _ hv3_3 hE13
  have hv4_3 := VP.st _ _ _ _ hv4_3 hE13
  have hv5_3 := VP.st _ _ _ _ hv5_3 hE13
  have hv6_3 := VP.st _ _ _ _ hv6_3 hE13
  have hv9_4 := VP.st _ _ _ _ hv9_4 hE13
  have hv10_4 := VP.st _ _ _ _ hv10_4 hE13
  have hv11_4 := VP.st _ _ _ _ hv11_4 hE13
  have hv11_5 := VP.st _ _ _ _ hv11_5 hE13
  have hv12_4 := VP.st _ _ _ _ hv12_4 hE13
  have hv12_5 := VP.st _ _ _ _ hv12_5 hE13
  have hE := hE.tr hE13
  go_wp2
  go_ret
  exact Ret.mk hE rfl
end Go.Proofs.Ytddkjicahpjcpaa
