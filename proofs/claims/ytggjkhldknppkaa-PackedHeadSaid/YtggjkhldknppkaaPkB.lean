/- Heads of packed words, of the program and of the document. -/
import Derived.Test.YtggjkhldknppkaaPkA
import Derived.Test.YtggjkhldknppkaaPkMath
import Derived.Test.YtggjkhldknppkaaKSD
import Derived.Test.YtggjkhldknppkaaKDH
namespace Go.Proofs.Ytggjkhldknppkaa
open Go.RowKit PakM
theorem of1_any (b : List UInt8) (v : Value) (w : World) (h : VSl [VBytes b] v w) : Calls Try.prog 27 #[v] w (Ret w (VEq (.int .u32 (SumM.ofB b)))) := by
  have := Sm.of_any [b] v w h
  rwa [show [b].flatten = b by simp] at this
theorem rof1_any (b : List UInt8) (v : Value) (w : World) (h : VSl [VBytes b] v w) : Calls Try.prog 20 #[v] w (Ret w (VEq (.int .u32 (SumM.ofB b)))) := by
  have := Sm.rof_any [b] v w h
  rwa [show [b].flatten = b by simp] at this
theorem getD4 {b : List UInt8} (h : 4 < b.length) : b.getD 4 0 = b[4] := by rw [List.getD_eq_getElem?_getD, List.getElem?_eq_getElem h]; rfl
set_option maxRecDepth 100000 in
set_option maxHeartbeats 2000000 in
theorem phead_any (b : List UInt8) (v : Value) (w : World) (hB : VBytes b v w) (hlen : b.length ≤ 1000000) : Calls Try.prog 12 #[v] w (Ret w (VTup [VEq (.bool (headP b).1), VEq (.int .i64 (headP b).2)])) := by
  have hB0 := hB
  obtain ⟨A, c, rfl, hc1, hc2, -⟩ := VBytes.form hB
  unfold maxLen at hc2
  clear hB0
  by_cases h1 : b.length < 10
  · have hres : headP b = (false, 10) := by unfold headP; rw [if_pos h1]
    rw [hres]
    clear hres hB
    have hE := Ext.rf w
    go_enter Try.func12, Try.ntmps12
    go_wp2
    exact bodyPost_ret (v := .tuple #[.bool false, .int .i64 10]) (by simp [results, Try.results12, go_sem]) rfl (Ret.mk hE (VTup.two rfl rfl))
  have h1' : 10 ≤ b.length := by omega
  by_cases h2 : b.take 4 ≠ magicB
  · have hres : headP b = (false, 40) := by unfold headP; rw [if_neg h1, if_pos h2]
    rw [hres]
    clear hres
    unfold magicB at h2
    go_enter Try.func12, Try.ntmps12
    go_upto_region 3 with (fail)
    refine vregion0 4 (by kernel_rfl) ?_
    refine VWalk.move _ rfl (want_none rfl) (opd_fr 0 rfl hB (Ext.rf _) (by kernel_rfl)) ?_
    refine VWalk.cutToB 23 5 _ _ .i64 4 rfl Try.underlying23 (by kernel_rfl) (want_none rfl) (opd_dep 0 12 0 rfl rfl rfl rfl) (opd_const _) (by omega) ?_
    refine VWalk.string 23 9 5 _ rfl Try.underlying23 Try.underlying5 Try.underlying9 (want_none rfl) (opd_dep 1 13 0 rfl rfl rfl rfl) ?_
    refine VWalk.neTs' _ _ _ _ rfl (want_none rfl) (opd_dep 2 14 0 rfl rfl rfl rfl) (opd_const _) h2 ?_
    refine ⟨rfl, fun W3 hE3 => ?_⟩
    refine VFin.any fun v3_0 hv3_0 => ?_
    refine VFin.any fun v3_1 hv3_1 => ?_
    refine VFin.eq ?_  -- 2
    refine VFin.eq ?_  -- 3
    refine VFin.nil ?_
    simp only [Act.put, List.setIfInBounds_toArray, List.set_cons_zero, List.set_cons_succ]
    clear hv3_0 hv3_1
    have hB := VP.st _ _ _ _ hB hE3
    have hE := hE3
    clear hB h2
    go_wp2
    exact bodyPost_ret (v := .tuple #[.bool false, .int .i64 40]) (by simp [results, Try.results12, go_sem]) rfl (Ret.mk hE (VTup.two rfl rfl))
  have h2' : b.take 4 = magicB := Decidable.byContradiction h2
  have hs : (⟨(b.take 4).toArray⟩ : ByteArray) = ⟨[84, 83, 76, 49].toArray⟩ := by rw [h2']; rfl
  have hg4 := getD4 (show 4 < b.length by omega)
  by_cases h3 : 1 < b[4].toNat
  · have hres : headP b = (false, 41) := by unfold headP; rw [if_neg h1, if_neg h2, hg4, if_pos h3]
    rw [hres]
    clear hres h2 h2' hg4
    go_enter Try.func12, Try.ntmps12
    go_upto_region 3 with (fail)
    refine vregion0 4 (by kernel_rfl) ?_
    refine VWalk.move _ rfl (want_none rfl) (opd_fr 0 rfl hB (Ext.rf _) (by kernel_rfl)) ?_
    refine VWalk.cutToB 23 5 _ _ .i64 4 rfl Try.underlying23 (by kernel_rfl) (want_none rfl) (opd_dep 0 12 0 rfl rfl rfl rfl) (opd_const _) (by omega) ?_
    refine VWalk.string 23 9 5 _ rfl Try.underlying23 Try.underlying5 Try.underlying9 (want_none rfl) (opd_dep 1 13 0 rfl rfl rfl rfl) ?_
    refine VWalk.neTs _ _ _ _ rfl (want_none rfl) (opd_dep 2 14 0 rfl rfl rfl rfl) (opd_const _) hs ?_
    refine ⟨rfl, fun W3 hE3 => ?_⟩
    refine VFin.any fun v3_0 hv3_0 => ?_
    refine VFin.any fun v3_1 hv3_1 => ?_
    refine VFin.eq ?_  -- 2
    refine VFin.eq ?_  -- 3
    refine VFin.nil ?_
    simp only [Act.put, List.setIfInBounds_toArray, List.set_cons_zero, List.set_cons_succ]
    clear hv3_0 hv3_1
    have hB := VP.st _ _ _ _ hB hE3
    have hE := hE3
    go_upto_region 5 with (fail)
    refine vregion0 3 (by kernel_rfl) ?_
    refine VWalk.move _ rfl (want_none rfl) (opd_fr 0 rfl hB (Ext.rf _) (by kernel_rfl)) ?_
    refine VWalk.indexB 23 5 _ _ .i64 4 rfl Try.underlying23 (by kernel_rfl) (want_none rfl) (opd_dep 0 16 0 rfl rfl rfl rfl) (opd_const _) (by omega) ?_
    refine VWalk.loadP 5 _ rfl (want_none rfl) (opd_dep 1 17 0 rfl rfl rfl rfl) (fun _ => by kernel_rfl) ?_
    refine ⟨rfl, fun W5 hE5 => ?_⟩
    refine VFin.any fun v5_0 hv5_0 => ?_
    refine VFin.any fun v5_1 hv5_1 => ?_
    refine VFin.eq ?_  -- 2
    refine VFin.nil ?_
    simp only [Act.put, List.setIfInBounds_toArray, List.set_cons_zero, List.set_cons_succ]
    clear hv5_0 hv5_1
    have hB := VP.st _ _ _ _ hB hE5
    have hE := hE.tr hE5
    go_upto_region 6 with (fail)
    refine vregion0 2 (by kernel_rfl) ?_
    refine VWalk.move _ rfl (want_none rfl) (opd_frame 4 rfl (by kernel_rfl)) ?_
    refine VWalk.gtrT _ _ _ _ rfl (want_none rfl) (opd_dep 0 19 0 rfl rfl rfl rfl) (opd_const _) (by omega) ?_
    refine ⟨rfl, fun W6 hE6 => ?_⟩
    refine VFin.eq ?_  -- 0
    refine VFin.eq ?_  -- 1
    refine VFin.nil ?_
    simp only [Act.put, List.setIfInBounds_toArray, List.set_cons_zero, List.set_cons_succ]
    have hB := VP.st _ _ _ _ hB hE6
    have hE := hE.tr hE6
    clear hB hs
    go_wp2
    exact bodyPost_ret (v := .tuple #[.bool false, .int .i64 41]) (by simp [results, Try.results12, go_sem]) rfl (Ret.mk hE (VTup.two rfl rfl))
  by_cases h4 : SumM.takeV (b.drop (b.length - 4)) ≠ SumM.ofB (b.take (b.length - 4))
  · have hres : headP b = (false, 42) := by unfold headP; rw [if_neg h1, if_neg h2, hg4, if_neg h3, if_pos h4]
    rw [hres]
    clear hres h2 h2' hg4
    go_enter Try.func12, Try.ntmps12
    go_upto_region 3 with (fail)
    refine vregion0 4 (by kernel_rfl) ?_
    refine VWalk.move _ rfl (want_none rfl) (opd_fr 0 rfl hB (Ext.rf _) (by kernel_rfl)) ?_
    refine VWalk.cutToB 23 5 _ _ .i64 4 rfl Try.underlying23 (by kernel_rfl) (want_none rfl) (opd_dep 0 12 0 rfl rfl rfl rfl) (opd_const _) (by omega) ?_
    refine VWalk.string 23 9 5 _ rfl Try.underlying23 Try.underlying5 Try.underlying9 (want_none rfl) (opd_dep 1 13 0 rfl rfl rfl rfl) ?_
    refine VWalk.neTs _ _ _ _ rfl (want_none rfl) (opd_dep 2 14 0 rfl rfl rfl rfl) (opd_const _) hs ?_
    refine ⟨rfl, fun W3 hE3 => ?_⟩
    refine VFin.any fun v3_0 hv3_0 => ?_
    refine VFin.any fun v3_1 hv3_1 => ?_
    refine VFin.eq ?_  -- 2
    refine VFin.eq ?_  -- 3
    refine VFin.nil ?_
    simp only [Act.put, List.setIfInBounds_toArray, List.set_cons_zero, List.set_cons_succ]
    clear hv3_0 hv3_1
    have hB := VP.st _ _ _ _ hB hE3
    have hE := hE3
    go_upto_region 5 with (fail)
    refine vregion0 3 (by kernel_rfl) ?_
    refine VWalk.move _ rfl (want_none rfl) (opd_fr 0 rfl hB (Ext.rf _) (by kernel_rfl)) ?_
    refine VWalk.indexB 23 5 _ _ .i64 4 rfl Try.underlying23 (by kernel_rfl) (want_none rfl) (opd_dep 0 16 0 rfl rfl rfl rfl) (opd_const _) (by omega) ?_
    refine VWalk.loadP 5 _ rfl (want_none rfl) (opd_dep 1 17 0 rfl rfl rfl rfl) (fun _ => by kernel_rfl) ?_
    refine ⟨rfl, fun W5 hE5 => ?_⟩
    refine VFin.any fun v5_0 hv5_0 => ?_
    refine VFin.any fun v5_1 hv5_1 => ?_
    refine VFin.eq ?_  -- 2
    refine VFin.nil ?_
    simp only [Act.put, List.setIfInBounds_toArray, List.set_cons_zero, List.set_cons_succ]
    clear hv5_0 hv5_1
    have hB := VP.st _ _ _ _ hB hE5
    have hE := hE.tr hE5
    go_upto_region 6 with (fail)
    refine vregion0 2 (by kernel_rfl) ?_
    refine VWalk.move _ rfl (want_none rfl) (opd_frame 4 rfl (by kernel_rfl)) ?_
    refine VWalk.gtrF _ _ _ _ rfl (want_none rfl) (opd_dep 0 19 0 rfl rfl rfl rfl) (opd_const _) (by omega) ?_
    refine ⟨rfl, fun W6 hE6 => ?_⟩
    refine VFin.eq ?_  -- 0
    refine VFin.eq ?_  -- 1
    refine VFin.nil ?_
    simp only [Act.put, List.setIfInBounds_toArray, List.set_cons_zero, List.set_cons_succ]
    have hB := VP.st _ _ _ _ hB hE6
    have hE := hE.tr hE6
    go_upto_region 8 with (fail)
    refine vregion0 5 (by kernel_rfl) ?_
    refine VWalk.move _ rfl (want_none rfl) (opd_fr 0 rfl hB (Ext.rf _) (by kernel_rfl)) ?_
    refine VWalk.move _ rfl (want_none rfl) (opd_fr 0 rfl hB (Ext.rf _) (by kernel_rfl)) ?_
    refine VWalk.lenB 23 5 _ rfl Try.underlying23 (want_none rfl) (opd_dep 1 22 0 rfl rfl rfl rfl) ?_
    refine VWalk.sub64 _ _ _ _ rfl (want_none rfl) (opd_dep 2 23 0 rfl rfl rfl rfl) (opd_const _) (by omega) ?_
    refine VWalk.headI (show _ = ((b.length - 4 : Nat) : Int) by omega) ?_
    refine VWalk.cutToB 23 5 _ _ .i64 (b.length - 4) rfl Try.underlying23 (by kernel_rfl) (want_none rfl) (opd_dep 0 21 3 rfl rfl rfl rfl) (opd_dep 3 24 0 rfl rfl rfl rfl) (by omega) ?_
    refine ⟨rfl, fun W8 hE8 => ?_⟩
    refine VFin.any fun v8_0 hv8_0 => ?_
    refine VFin.any fun v8_1 hv8_1 => ?_
    refine VFin.eq ?_  -- 2
    refine VFin.eq ?_  -- 3
    refine VFin.any fun v8_4 hv8_4 => ?_
    refine VFin.nil ?_
    simp only [Act.put, List.setIfInBounds_toArray, List.set_cons_zero, List.set_cons_succ]
    clear hv8_0 hv8_1
    have hB := VP.st _ _ _ _ hB hE8
    have hE := hE.tr hE8
    go_upto_region 9 with (fail)
    refine vregion0 9 (by kernel_rfl) ?_
    refine VWalk.move _ rfl (want_none rfl) (opd_fr 0 rfl hB (Ext.rf _) (by kernel_rfl)) ?_
    refine VWalk.move _ rfl (want_none rfl) (opd_fr 5 rfl hv8_4 (Ext.rf _) (by kernel_rfl)) ?_
    refine VWalk.lenB 23 5 _ rfl Try.underlying23 (want_none rfl) (opd_dep 1 28 0 rfl rfl rfl rfl) ?_
    refine VWalk.headI (show _ = ((b.length - 4 : Nat) : Int) by rw [List.length_take]; omega) ?_
    refine VWalk.cutFromB 23 5 _ _ .i64 (b.length - 4) rfl Try.underlying23 (by kernel_rfl) (want_none rfl) (opd_dep 0 27 2 rfl rfl rfl rfl) (opd_dep 2 29 0 rfl rfl rfl rfl) (by omega) ?_
    refine VWalk.call1 26 _ _ rfl (enters_of Try.func26 (by kernel_rfl) rfl) (want_none rfl) (opd_dep 3 30 0 rfl rfl rfl rfl) (fun v W hX hv => Sm.take_any _ v W hv (by rw [List.length_drop]; omega)) ?_
    refine VWalk.move _ rfl (want_none rfl) (opd_dep 4 31 0 rfl rfl rfl rfl) ?_
    refine VWalk.extract _ 0 rfl rfl (want_none rfl) (opd_dep 5 26 0 rfl rfl rfl rfl) ?_
    refine VWalk.extract _ 1 rfl rfl (want_none rfl) (opd_dep 5 26 1 rfl rfl rfl rfl) ?_
    refine VWalk.extract _ 2 rfl rfl (want_none rfl) (opd_dep 5 26 2 rfl rfl rfl rfl) ?_
    refine ⟨rfl, fun W9 hE9 => ?_⟩
    refine VFin.any fun v9_0 hv9_0 => ?_
    refine VFin.any fun v9_1 hv9_1 => ?_
    refine VFin.eq ?_  -- 2
    refine VFin.any fun v9_3 hv9_3 => ?_
    refine VFin.any fun v9_4 hv9_4 => ?_
    refine VFin.any fun v9_5 hv9_5 => ?_
    refine VFin.eq ?_  -- 6
    refine VFin.any fun v9_7 hv9_7 => ?_
    refine VFin.eq ?_  -- 8
    refine VFin.nil ?_
    simp only [Act.put, List.setIfInBounds_toArray, List.set_cons_zero, List.set_cons_succ]
    clear hv9_0 hv9_1 hv9_3 hv9_4 hv9_5
    have hB := VP.st _ _ _ _ hB hE9
    have hv8_4 := VP.st _ _ _ _ hv8_4 hE9
    have hE := hE.tr hE9
    go_upto_region 10 with (fail)
    refine vregion0 5 (by kernel_rfl) ?_
    refine VWalk.move _ rfl (want_none rfl) (opd_frame 6 rfl (by kernel_rfl)) ?_
    refine VWalk.move _ rfl (want_none rfl) (opd_fr 5 rfl hv8_4 (Ext.rf _) (by kernel_rfl)) ?_
    refine VWalk.lit (Fs := [_]) [Operand.tmp 36] 22 23 1 _ rfl rfl (by decide) (by decide) rfl Try.underlying22 (by kernel_rfl) (by kernel_rfl) ⟨oneCell_sl _, trivial⟩ (want_none rfl) ⟨(opd_dep 1 36 0 rfl rfl rfl rfl), trivial⟩ ?_
    refine VWalk.call1 27 _ _ rfl (enters_of Try.func27 (by kernel_rfl) rfl) (want_none rfl) (opd_dep 2 37 0 rfl rfl rfl rfl) (fun v W hX hv => of1_any _ v W hv) ?_
    refine VWalk.neT' _ _ _ _ rfl (want_none rfl) (opd_dep 0 35 3 rfl rfl rfl rfl) (opd_dep 3 38 0 rfl rfl rfl rfl) h4 ?_
    refine ⟨rfl, fun W10 hE10 => ?_⟩
    refine VFin.eq ?_  -- 0
    refine VFin.any fun v10_1 hv10_1 => ?_
    refine VFin.any fun v10_2 hv10_2 => ?_
    refine VFin.eq ?_  -- 3
    refine VFin.eq ?_  -- 4
    refine VFin.nil ?_
    simp only [Act.put, List.setIfInBounds_toArray, List.set_cons_zero, List.set_cons_succ]
    clear hv10_1 hv10_2
    have hB := VP.st _ _ _ _ hB hE10
    have hv8_4 := VP.st _ _ _ _ hv8_4 hE10
    have hv9_7 := VP.st _ _ _ _ hv9_7 hE10
    have hE := hE.tr hE10
    clear hB hs h4
    go_wp2
    exact bodyPost_ret (v := .tuple #[.bool false, .int .i64 42]) (by simp [results, Try.results12, go_sem]) rfl (Ret.mk hE (VTup.two rfl rfl))
  have h4e : SumM.takeV (b.drop (b.length - 4)) = SumM.ofB (b.take (b.length - 4)) := Decidable.byContradiction h4
  have hres : headP b = (decide (b[4] = 1), 0) := by unfold headP; rw [if_neg h1, if_neg h2, hg4, if_neg h3, if_neg h4]
  rw [hres]
  clear hres h2 h2' hg4 h4
  by_cases h5 : b[4] = 1
  · have hfv : (b[4].toNat : Int) = 1 := by rw [h5]; rfl
    rw [decide_eq_true h5]
    go_enter Try.func12, Try.ntmps12
    go_upto_region 3 with (fail)
    refine vregion0 4 (by kernel_rfl) ?_
    refine VWalk.move _ rfl (want_none rfl) (opd_fr 0 rfl hB (Ext.rf _) (by kernel_rfl)) ?_
    refine VWalk.cutToB 23 5 _ _ .i64 4 rfl Try.underlying23 (by kernel_rfl) (want_none rfl) (opd_dep 0 12 0 rfl rfl rfl rfl) (opd_const _) (by omega) ?_
    refine VWalk.string 23 9 5 _ rfl Try.underlying23 Try.underlying5 Try.underlying9 (want_none rfl) (opd_dep 1 13 0 rfl rfl rfl rfl) ?_
    refine VWalk.neTs _ _ _ _ rfl (want_none rfl) (opd_dep 2 14 0 rfl rfl rfl rfl) (opd_const _) hs ?_
    refine ⟨rfl, fun W3 hE3 => ?_⟩
    refine VFin.any fun v3_0 hv3_0 => ?_
    refine VFin.any fun v3_1 hv3_1 => ?_
    refine VFin.eq ?_  -- 2
    refine VFin.eq ?_  -- 3
    refine VFin.nil ?_
    simp only [Act.put, List.setIfInBounds_toArray, List.set_cons_zero, List.set_cons_succ]
    clear hv3_0 hv3_1
    have hB := VP.st _ _ _ _ hB hE3
    have hE := hE3
    go_upto_region 5 with (fail)
    refine vregion0 3 (by kernel_rfl) ?_
    refine VWalk.move _ rfl (want_none rfl) (opd_fr 0 rfl hB (Ext.rf _) (by kernel_rfl)) ?_
    refine VWalk.indexB 23 5 _ _ .i64 4 rfl Try.underlying23 (by kernel_rfl) (want_none rfl) (opd_dep 0 16 0 rfl rfl rfl rfl) (opd_const _) (by omega) ?_
    refine VWalk.loadP 5 _ rfl (want_none rfl) (opd_dep 1 17 0 rfl rfl rfl rfl) (fun _ => by kernel_rfl) ?_
    refine ⟨rfl, fun W5 hE5 => ?_⟩
    refine VFin.any fun v5_0 hv5_0 => ?_
    refine VFin.any fun v5_1 hv5_1 => ?_
    refine VFin.eq ?_  -- 2
    refine VFin.nil ?_
    simp only [Act.put, List.setIfInBounds_toArray, List.set_cons_zero, List.set_cons_succ]
    clear hv5_0 hv5_1
    have hB := VP.st _ _ _ _ hB hE5
    have hE := hE.tr hE5
    go_upto_region 6 with (fail)
    refine vregion0 2 (by kernel_rfl) ?_
    refine VWalk.move _ rfl (want_none rfl) (opd_frame 4 rfl (by kernel_rfl)) ?_
    refine VWalk.gtrF _ _ _ _ rfl (want_none rfl) (opd_dep 0 19 0 rfl rfl rfl rfl) (opd_const _) (by omega) ?_
    refine ⟨rfl, fun W6 hE6 => ?_⟩
    refine VFin.eq ?_  -- 0
    refine VFin.eq ?_  -- 1
    refine VFin.nil ?_
    simp only [Act.put, List.setIfInBounds_toArray, List.set_cons_zero, List.set_cons_succ]
    have hB := VP.st _ _ _ _ hB hE6
    have hE := hE.tr hE6
    go_upto_region 8 with (fail)
    refine vregion0 5 (by kernel_rfl) ?_
    refine VWalk.move _ rfl (want_none rfl) (opd_fr 0 rfl hB (Ext.rf _) (by kernel_rfl)) ?_
    refine VWalk.move _ rfl (want_none rfl) (opd_fr 0 rfl hB (Ext.rf _) (by kernel_rfl)) ?_
    refine VWalk.lenB 23 5 _ rfl Try.underlying23 (want_none rfl) (opd_dep 1 22 0 rfl rfl rfl rfl) ?_
    refine VWalk.sub64 _ _ _ _ rfl (want_none rfl) (opd_dep 2 23 0 rfl rfl rfl rfl) (opd_const _) (by omega) ?_
    refine VWalk.headI (show _ = ((b.length - 4 : Nat) : Int) by omega) ?_
    refine VWalk.cutToB 23 5 _ _ .i64 (b.length - 4) rfl Try.underlying23 (by kernel_rfl) (want_none rfl) (opd_dep 0 21 3 rfl rfl rfl rfl) (opd_dep 3 24 0 rfl rfl rfl rfl) (by omega) ?_
    refine ⟨rfl, fun W8 hE8 => ?_⟩
    refine VFin.any fun v8_0 hv8_0 => ?_
    refine VFin.any fun v8_1 hv8_1 => ?_
    refine VFin.eq ?_  -- 2
    refine VFin.eq ?_  -- 3
    refine VFin.any fun v8_4 hv8_4 => ?_
    refine VFin.nil ?_
    simp only [Act.put, List.setIfInBounds_toArray, List.set_cons_zero, List.set_cons_succ]
    clear hv8_0 hv8_1
    have hB := VP.st _ _ _ _ hB hE8
    have hE := hE.tr hE8
    go_upto_region 9 with (fail)
    refine vregion0 9 (by kernel_rfl) ?_
    refine VWalk.move _ rfl (want_none rfl) (opd_fr 0 rfl hB (Ext.rf _) (by kernel_rfl)) ?_
    refine VWalk.move _ rfl (want_none rfl) (opd_fr 5 rfl hv8_4 (Ext.rf _) (by kernel_rfl)) ?_
    refine VWalk.lenB 23 5 _ rfl Try.underlying23 (want_none rfl) (opd_dep 1 28 0 rfl rfl rfl rfl) ?_
    refine VWalk.headI (show _ = ((b.length - 4 : Nat) : Int) by rw [List.length_take]; omega) ?_
    refine VWalk.cutFromB 23 5 _ _ .i64 (b.length - 4) rfl Try.underlying23 (by kernel_rfl) (want_none rfl) (opd_dep 0 27 2 rfl rfl rfl rfl) (opd_dep 2 29 0 rfl rfl rfl rfl) (by omega) ?_
    refine VWalk.call1 26 _ _ rfl (enters_of Try.func26 (by kernel_rfl) rfl) (want_none rfl) (opd_dep 3 30 0 rfl rfl rfl rfl) (fun v W hX hv => Sm.take_any _ v W hv (by rw [List.length_drop]; omega)) ?_
    refine VWalk.move _ rfl (want_none rfl) (opd_dep 4 31 0 rfl rfl rfl rfl) ?_
    refine VWalk.extract _ 0 rfl rfl (want_none rfl) (opd_dep 5 26 0 rfl rfl rfl rfl) ?_
    refine VWalk.extract _ 1 rfl rfl (want_none rfl) (opd_dep 5 26 1 rfl rfl rfl rfl) ?_
    refine VWalk.extract _ 2 rfl rfl (want_none rfl) (opd_dep 5 26 2 rfl rfl rfl rfl) ?_
    refine ⟨rfl, fun W9 hE9 => ?_⟩
    refine VFin.any fun v9_0 hv9_0 => ?_
    refine VFin.any fun v9_1 hv9_1 => ?_
    refine VFin.eq ?_  -- 2
    refine VFin.any fun v9_3 hv9_3 => ?_
    refine VFin.any fun v9_4 hv9_4 => ?_
    refine VFin.any fun v9_5 hv9_5 => ?_
    refine VFin.eq ?_  -- 6
    refine VFin.any fun v9_7 hv9_7 => ?_
    refine VFin.eq ?_  -- 8
    refine VFin.nil ?_
    simp only [Act.put, List.setIfInBounds_toArray, List.set_cons_zero, List.set_cons_succ]
    clear hv9_0 hv9_1 hv9_3 hv9_4 hv9_5
    have hB := VP.st _ _ _ _ hB hE9
    have hv8_4 := VP.st _ _ _ _ hv8_4 hE9
    have hE := hE.tr hE9
    go_upto_region 10 with (fail)
    refine vregion0 5 (by kernel_rfl) ?_
    refine VWalk.move _ rfl (want_none rfl) (opd_frame 6 rfl (by kernel_rfl)) ?_
    refine VWalk.move _ rfl (want_none rfl) (opd_fr 5 rfl hv8_4 (Ext.rf _) (by kernel_rfl)) ?_
    refine VWalk.lit (Fs := [_]) [Operand.tmp 36] 22 23 1 _ rfl rfl (by decide) (by decide) rfl Try.underlying22 (by kernel_rfl) (by kernel_rfl) ⟨oneCell_sl _, trivial⟩ (want_none rfl) ⟨(opd_dep 1 36 0 rfl rfl rfl rfl), trivial⟩ ?_
    refine VWalk.call1 27 _ _ rfl (enters_of Try.func27 (by kernel_rfl) rfl) (want_none rfl) (opd_dep 2 37 0 rfl rfl rfl rfl) (fun v W hX hv => of1_any _ v W hv) ?_
    refine VWalk.neT _ _ _ _ rfl (want_none rfl) (opd_dep 0 35 3 rfl rfl rfl rfl) (opd_dep 3 38 0 rfl rfl rfl rfl) h4e ?_
    refine ⟨rfl, fun W10 hE10 => ?_⟩
    refine VFin.eq ?_  -- 0
    refine VFin.any fun v10_1 hv10_1 => ?_
    refine VFin.any fun v10_2 hv10_2 => ?_
    refine VFin.eq ?_  -- 3
    refine VFin.eq ?_  -- 4
    refine VFin.nil ?_
    simp only [Act.put, List.setIfInBounds_toArray, List.set_cons_zero, List.set_cons_succ]
    clear hv10_1 hv10_2
    have hB := VP.st _ _ _ _ hB hE10
    have hv8_4 := VP.st _ _ _ _ hv8_4 hE10
    have hv9_7 := VP.st _ _ _ _ hv9_7 hE10
    have hE := hE.tr hE10
    go_upto_region 12 with (fail)
    refine vregion0 2 (by kernel_rfl) ?_
    refine VWalk.move _ rfl (want_none rfl) (opd_frame 4 rfl (by kernel_rfl)) ?_
    refine VWalk.eqT _ _ _ _ rfl (want_none rfl) (opd_dep 0 40 0 rfl rfl rfl rfl) (opd_const _) hfv ?_
    refine ⟨rfl, fun W12 hE12 => ?_⟩
    refine VFin.eq ?_  -- 0
    refine VFin.eq ?_  -- 1
    refine VFin.nil ?_
    simp only [Act.put, List.setIfInBounds_toArray, List.set_cons_zero, List.set_cons_succ]
    have hB := VP.st _ _ _ _ hB hE12
    have hv8_4 := VP.st _ _ _ _ hv8_4 hE12
    have hv9_7 := VP.st _ _ _ _ hv9_7 hE12
    have hE := hE.tr hE12
    clear hB hs h4e hfv h5
    go_wp2
    exact bodyPost_ret (v := .tuple #[.bool true, .int .i64 0]) (by simp [results, Try.results12, go_sem]) rfl (Ret.mk hE (VTup.two rfl rfl))
  · have hfv : (b[4].toNat : Int) ≠ 1 := fun e => h5 (UInt8.toNat.inj (by rw [show (1 : UInt8).toNat = 1 from rfl]; omega))
    rw [decide_eq_false h5]
    go_enter Try.func12, Try.ntmps12
    go_upto_region 3 with (fail)
    refine vregion0 4 (by kernel_rfl) ?_
    refine VWalk.move _ rfl (want_none rfl) (opd_fr 0 rfl hB (Ext.rf _) (by kernel_rfl)) ?_
    refine VWalk.cutToB 23 5 _ _ .i64 4 rfl Try.underlying23 (by kernel_rfl) (want_none rfl) (opd_dep 0 12 0 rfl rfl rfl rfl) (opd_const _) (by omega) ?_
    refine VWalk.string 23 9 5 _ rfl Try.underlying23 Try.underlying5 Try.underlying9 (want_none rfl) (opd_dep 1 13 0 rfl rfl rfl rfl) ?_
    refine VWalk.neTs _ _ _ _ rfl (want_none rfl) (opd_dep 2 14 0 rfl rfl rfl rfl) (opd_const _) hs ?_
    refine ⟨rfl, fun W3 hE3 => ?_⟩
    refine VFin.any fun v3_0 hv3_0 => ?_
    refine VFin.any fun v3_1 hv3_1 => ?_
    refine VFin.eq ?_  -- 2
    refine VFin.eq ?_  -- 3
    refine VFin.nil ?_
    simp only [Act.put, List.setIfInBounds_toArray, List.set_cons_zero, List.set_cons_succ]
    clear hv3_0 hv3_1
    have hB := VP.st _ _ _ _ hB hE3
    have hE := hE3
    go_upto_region 5 with (fail)
    refine vregion0 3 (by kernel_rfl) ?_
    refine VWalk.move _ rfl (want_none rfl) (opd_fr 0 rfl hB (Ext.rf _) (by kernel_rfl)) ?_
    refine VWalk.indexB 23 5 _ _ .i64 4 rfl Try.underlying23 (by kernel_rfl) (want_none rfl) (opd_dep 0 16 0 rfl rfl rfl rfl) (opd_const _) (by omega) ?_
    refine VWalk.loadP 5 _ rfl (want_none rfl) (opd_dep 1 17 0 rfl rfl rfl rfl) (fun _ => by kernel_rfl) ?_
    refine ⟨rfl, fun W5 hE5 => ?_⟩
    refine VFin.any fun v5_0 hv5_0 => ?_
    refine VFin.any fun v5_1 hv5_1 => ?_
    refine VFin.eq ?_  -- 2
    refine VFin.nil ?_
    simp only [Act.put, List.setIfInBounds_toArray, List.set_cons_zero, List.set_cons_succ]
    clear hv5_0 hv5_1
    have hB := VP.st _ _ _ _ hB hE5
    have hE := hE.tr hE5
    go_upto_region 6 with (fail)
    refine vregion0 2 (by kernel_rfl) ?_
    refine VWalk.move _ rfl (want_none rfl) (opd_frame 4 rfl (by kernel_rfl)) ?_
    refine VWalk.gtrF _ _ _ _ rfl (want_none rfl) (opd_dep 0 19 0 rfl rfl rfl rfl) (opd_const _) (by omega) ?_
    refine ⟨rfl, fun W6 hE6 => ?_⟩
    refine VFin.eq ?_  -- 0
    refine VFin.eq ?_  -- 1
    refine VFin.nil ?_
    simp only [Act.put, List.setIfInBounds_toArray, List.set_cons_zero, List.set_cons_succ]
    have hB := VP.st _ _ _ _ hB hE6
    have hE := hE.tr hE6
    go_upto_region 8 with (fail)
    refine vregion0 5 (by kernel_rfl) ?_
    refine VWalk.move _ rfl (want_none rfl) (opd_fr 0 rfl hB (Ext.rf _) (by kernel_rfl)) ?_
    refine VWalk.move _ rfl (want_none rfl) (opd_fr 0 rfl hB (Ext.rf _) (by kernel_rfl)) ?_
    refine VWalk.lenB 23 5 _ rfl Try.underlying23 (want_none rfl) (opd_dep 1 22 0 rfl rfl rfl rfl) ?_
    refine VWalk.sub64 _ _ _ _ rfl (want_none rfl) (opd_dep 2 23 0 rfl rfl rfl rfl) (opd_const _) (by omega) ?_
    refine VWalk.headI (show _ = ((b.length - 4 : Nat) : Int) by omega) ?_
    refine VWalk.cutToB 23 5 _ _ .i64 (b.length - 4) rfl Try.underlying23 (by kernel_rfl) (want_none rfl) (opd_dep 0 21 3 rfl rfl rfl rfl) (opd_dep 3 24 0 rfl rfl rfl rfl) (by omega) ?_
    refine ⟨rfl, fun W8 hE8 => ?_⟩
    refine VFin.any fun v8_0 hv8_0 => ?_
    refine VFin.any fun v8_1 hv8_1 => ?_
    refine VFin.eq ?_  -- 2
    refine VFin.eq ?_  -- 3
    refine VFin.any fun v8_4 hv8_4 => ?_
    refine VFin.nil ?_
    simp only [Act.put, List.setIfInBounds_toArray, List.set_cons_zero, List.set_cons_succ]
    clear hv8_0 hv8_1
    have hB := VP.st _ _ _ _ hB hE8
    have hE := hE.tr hE8
    go_upto_region 9 with (fail)
    refine vregion0 9 (by kernel_rfl) ?_
    refine VWalk.move _ rfl (want_none rfl) (opd_fr 0 rfl hB (Ext.rf _) (by kernel_rfl)) ?_
    refine VWalk.move _ rfl (want_none rfl) (opd_fr 5 rfl hv8_4 (Ext.rf _) (by kernel_rfl)) ?_
    refine VWalk.lenB 23 5 _ rfl Try.underlying23 (want_none rfl) (opd_dep 1 28 0 rfl rfl rfl rfl) ?_
    refine VWalk.headI (show _ = ((b.length - 4 : Nat) : Int) by rw [List.length_take]; omega) ?_
    refine VWalk.cutFromB 23 5 _ _ .i64 (b.length - 4) rfl Try.underlying23 (by kernel_rfl) (want_none rfl) (opd_dep 0 27 2 rfl rfl rfl rfl) (opd_dep 2 29 0 rfl rfl rfl rfl) (by omega) ?_
    refine VWalk.call1 26 _ _ rfl (enters_of Try.func26 (by kernel_rfl) rfl) (want_none rfl) (opd_dep 3 30 0 rfl rfl rfl rfl) (fun v W hX hv => Sm.take_any _ v W hv (by rw [List.length_drop]; omega)) ?_
    refine VWalk.move _ rfl (want_none rfl) (opd_dep 4 31 0 rfl rfl rfl rfl) ?_
    refine VWalk.extract _ 0 rfl rfl (want_none rfl) (opd_dep 5 26 0 rfl rfl rfl rfl) ?_
    refine VWalk.extract _ 1 rfl rfl (want_none rfl) (opd_dep 5 26 1 rfl rfl rfl rfl) ?_
    refine VWalk.extract _ 2 rfl rfl (want_none rfl) (opd_dep 5 26 2 rfl rfl rfl rfl) ?_
    refine ⟨rfl, fun W9 hE9 => ?_⟩
    refine VFin.any fun v9_0 hv9_0 => ?_
    refine VFin.any fun v9_1 hv9_1 => ?_
    refine VFin.eq ?_  -- 2
    refine VFin.any fun v9_3 hv9_3 => ?_
    refine VFin.any fun v9_4 hv9_4 => ?_
    refine VFin.any fun v9_5 hv9_5 => ?_
    refine VFin.eq ?_  -- 6
    refine VFin.any fun v9_7 hv9_7 => ?_
    refine VFin.eq ?_  -- 8
    refine VFin.nil ?_
    simp only [Act.put, List.setIfInBounds_toArray, List.set_cons_zero, List.set_cons_succ]
    clear hv9_0 hv9_1 hv9_3 hv9_4 hv9_5
    have hB := VP.st _ _ _ _ hB hE9
    have hv8_4 := VP.st _ _ _ _ hv8_4 hE9
    have hE := hE.tr hE9
    go_upto_region 10 with (fail)
    refine vregion0 5 (by kernel_rfl) ?_
    refine VWalk.move _ rfl (want_none rfl) (opd_frame 6 rfl (by kernel_rfl)) ?_
    refine VWalk.move _ rfl (want_none rfl) (opd_fr 5 rfl hv8_4 (Ext.rf _) (by kernel_rfl)) ?_
    refine VWalk.lit (Fs := [_]) [Operand.tmp 36] 22 23 1 _ rfl rfl (by decide) (by decide) rfl Try.underlying22 (by kernel_rfl) (by kernel_rfl) ⟨oneCell_sl _, trivial⟩ (want_none rfl) ⟨(opd_dep 1 36 0 rfl rfl rfl rfl), trivial⟩ ?_
    refine VWalk.call1 27 _ _ rfl (enters_of Try.func27 (by kernel_rfl) rfl) (want_none rfl) (opd_dep 2 37 0 rfl rfl rfl rfl) (fun v W hX hv => of1_any _ v W hv) ?_
    refine VWalk.neT _ _ _ _ rfl (want_none rfl) (opd_dep 0 35 3 rfl rfl rfl rfl) (opd_dep 3 38 0 rfl rfl rfl rfl) h4e ?_
    refine ⟨rfl, fun W10 hE10 => ?_⟩
    refine VFin.eq ?_  -- 0
    refine VFin.any fun v10_1 hv10_1 => ?_
    refine VFin.any fun v10_2 hv10_2 => ?_
    refine VFin.eq ?_  -- 3
    refine VFin.eq ?_  -- 4
    refine VFin.nil ?_
    simp only [Act.put, List.setIfInBounds_toArray, List.set_cons_zero, List.set_cons_succ]
    clear hv10_1 hv10_2
    have hB := VP.st _ _ _ _ hB hE10
    have hv8_4 := VP.st _ _ _ _ hv8_4 hE10
    have hv9_7 := VP.st _ _ _ _ hv9_7 hE10
    have hE := hE.tr hE10
    go_upto_region 12 with (fail)
    refine vregion0 2 (by kernel_rfl) ?_
    refine VWalk.move _ rfl (want_none rfl) (opd_frame 4 rfl (by kernel_rfl)) ?_
    refine VWalk.eqT' _ _ _ _ rfl (want_none rfl) (opd_dep 0 40 0 rfl rfl rfl rfl) (opd_const _) hfv ?_
    refine ⟨rfl, fun W12 hE12 => ?_⟩
    refine VFin.eq ?_  -- 0
    refine VFin.eq ?_  -- 1
    refine VFin.nil ?_
    simp only [Act.put, List.setIfInBounds_toArray, List.set_cons_zero, List.set_cons_succ]
    have hB := VP.st _ _ _ _ hB hE12
    have hv8_4 := VP.st _ _ _ _ hv8_4 hE12
    have hv9_7 := VP.st _ _ _ _ hv9_7 hE12
    have hE := hE.tr hE12
    clear hB hs h4e hfv h5
    go_wp2
    exact bodyPost_ret (v := .tuple #[.bool false, .int .i64 0]) (by simp [results, Try.results12, go_sem]) rfl (Ret.mk hE (VTup.two rfl rfl))
set_option maxRecDepth 100000 in
set_option maxHeartbeats 2000000 in
theorem rhead_any (b : List UInt8) (v : Value) (w : World) (hB : VBytes b v w) (hlen : b.length ≤ 1000000) : Calls Try.prog 13 #[v] w (Ret w (VTup [VEq (.bool (headP b).1), VEq (.int .i64 (headP b).2)])) := by
  have hB0 := hB
  obtain ⟨A, c, rfl, hc1, hc2, -⟩ := VBytes.form hB
  unfold maxLen at hc2
  clear hB0
  by_cases h1 : b.length < 10
  · have hres : headP b = (false, 10) := by unfold headP; rw [if_pos h1]
    rw [hres]
    clear hres hB
    have hE := Ext.rf w
    go_enter Try.func13, Try.ntmps13
    go_wp2
    exact bodyPost_ret (v := .tuple #[.bool false, .int .i64 10]) (by simp [results, Try.results13, go_sem]) rfl (Ret.mk hE (VTup.two rfl rfl))
  have h1' : 10 ≤ b.length := by omega
  by_cases h2 : b.take 4 ≠ magicB
  · have hres : headP b = (false, 40) := by unfold headP; rw [if_neg h1, if_pos h2]
    rw [hres]
    clear hres
    unfold magicB at h2
    go_enter Try.func13, Try.ntmps13
    go_upto_region 3 with (fail)
    refine vregion0 4 (by kernel_rfl) ?_
    refine VWalk.move _ rfl (want_none rfl) (opd_fr 0 rfl hB (Ext.rf _) (by kernel_rfl)) ?_
    refine VWalk.cutToB 23 5 _ _ .i64 4 rfl Try.underlying23 (by kernel_rfl) (want_none rfl) (opd_dep 0 11 0 rfl rfl rfl rfl) (opd_const _) (by omega) ?_
    refine VWalk.string 23 9 5 _ rfl Try.underlying23 Try.underlying5 Try.underlying9 (want_none rfl) (opd_dep 1 12 0 rfl rfl rfl rfl) ?_
    refine VWalk.neTs' _ _ _ _ rfl (want_none rfl) (opd_dep 2 13 0 rfl rfl rfl rfl) (opd_const _) h2 ?_
    refine ⟨rfl, fun W3 hE3 => ?_⟩
    refine VFin.any fun v3_0 hv3_0 => ?_
    refine VFin.any fun v3_1 hv3_1 => ?_
    refine VFin.eq ?_  -- 2
    refine VFin.eq ?_  -- 3
    refine VFin.nil ?_
    simp only [Act.put, List.setIfInBounds_toArray, List.set_cons_zero, List.set_cons_succ]
    clear hv3_0 hv3_1
    have hB := VP.st _ _ _ _ hB hE3
    have hE := hE3
    clear hB h2
    go_wp2
    exact bodyPost_ret (v := .tuple #[.bool false, .int .i64 40]) (by simp [results, Try.results13, go_sem]) rfl (Ret.mk hE (VTup.two rfl rfl))
  have h2' : b.take 4 = magicB := Decidable.byContradiction h2
  have hs : (⟨(b.take 4).toArray⟩ : ByteArray) = ⟨[84, 83, 76, 49].toArray⟩ := by rw [h2']; rfl
  have hg4 := getD4 (show 4 < b.length by omega)
  by_cases h3 : 1 < b[4].toNat
  · have hres : headP b = (false, 41) := by unfold headP; rw [if_neg h1, if_neg h2, hg4, if_pos h3]
    rw [hres]
    clear hres h2 h2' hg4
    go_enter Try.func13, Try.ntmps13
    go_upto_region 3 with (fail)
    refine vregion0 4 (by kernel_rfl) ?_
    refine VWalk.move _ rfl (want_none rfl) (opd_fr 0 rfl hB (Ext.rf _) (by kernel_rfl)) ?_
    refine VWalk.cutToB 23 5 _ _ .i64 4 rfl Try.underlying23 (by kernel_rfl) (want_none rfl) (opd_dep 0 11 0 rfl rfl rfl rfl) (opd_const _) (by omega) ?_
    refine VWalk.string 23 9 5 _ rfl Try.underlying23 Try.underlying5 Try.underlying9 (want_none rfl) (opd_dep 1 12 0 rfl rfl rfl rfl) ?_
    refine VWalk.neTs _ _ _ _ rfl (want_none rfl) (opd_dep 2 13 0 rfl rfl rfl rfl) (opd_const _) hs ?_
    refine ⟨rfl, fun W3 hE3 => ?_⟩
    refine VFin.any fun v3_0 hv3_0 => ?_
    refine VFin.any fun v3_1 hv3_1 => ?_
    refine VFin.eq ?_  -- 2
    refine VFin.eq ?_  -- 3
    refine VFin.nil ?_
    simp only [Act.put, List.setIfInBounds_toArray, List.set_cons_zero, List.set_cons_succ]
    clear hv3_0 hv3_1
    have hB := VP.st _ _ _ _ hB hE3
    have hE := hE3
    go_upto_region 5 with (fail)
    refine vregion0 4 (by kernel_rfl) ?_
    refine VWalk.move _ rfl (want_none rfl) (opd_fr 0 rfl hB (Ext.rf _) (by kernel_rfl)) ?_
    refine VWalk.indexB 23 5 _ _ .i64 4 rfl Try.underlying23 (by kernel_rfl) (want_none rfl) (opd_dep 0 15 0 rfl rfl rfl rfl) (opd_const _) (by omega) ?_
    refine VWalk.loadP 5 _ rfl (want_none rfl) (opd_dep 1 16 0 rfl rfl rfl rfl) (fun _ => by kernel_rfl) ?_
    refine VWalk.gtrT _ _ _ _ rfl (want_none rfl) (opd_dep 2 17 0 rfl rfl rfl rfl) (opd_const _) (by omega) ?_
    refine ⟨rfl, fun W5 hE5 => ?_⟩
    refine VFin.any fun v5_0 hv5_0 => ?_
    refine VFin.any fun v5_1 hv5_1 => ?_
    refine VFin.eq ?_  -- 2
    refine VFin.eq ?_  -- 3
    refine VFin.nil ?_
    simp only [Act.put, List.setIfInBounds_toArray, List.set_cons_zero, List.set_cons_succ]
    clear hv5_0 hv5_1
    have hB := VP.st _ _ _ _ hB hE5
    have hE := hE.tr hE5
    clear hB hs
    go_wp2
    exact bodyPost_ret (v := .tuple #[.bool false, .int .i64 41]) (by simp [results, Try.results13, go_sem]) rfl (Ret.mk hE (VTup.two rfl rfl))
  by_cases h4 : SumM.takeV (b.drop (b.length - 4)) ≠ SumM.ofB (b.take (b.length - 4))
  · have hres : headP b = (false, 42) := by unfold headP; rw [if_neg h1, if_neg h2, hg4, if_neg h3, if_pos h4]
    rw [hres]
    clear hres h2 h2' hg4
    go_enter Try.func13, Try.ntmps13
    go_upto_region 3 with (fail)
    refine vregion0 4 (by kernel_rfl) ?_
    refine VWalk.move _ rfl (want_none rfl) (opd_fr 0 rfl hB (Ext.rf _) (by kernel_rfl)) ?_
    refine VWalk.cutToB 23 5 _ _ .i64 4 rfl Try.underlying23 (by kernel_rfl) (want_none rfl) (opd_dep 0 11 0 rfl rfl rfl rfl) (opd_const _) (by omega) ?_
    refine VWalk.string 23 9 5 _ rfl Try.underlying23 Try.underlying5 Try.underlying9 (want_none rfl) (opd_dep 1 12 0 rfl rfl rfl rfl) ?_
    refine VWalk.neTs _ _ _ _ rfl (want_none rfl) (opd_dep 2 13 0 rfl rfl rfl rfl) (opd_const _) hs ?_
    refine ⟨rfl, fun W3 hE3 => ?_⟩
    refine VFin.any fun v3_0 hv3_0 => ?_
    refine VFin.any fun v3_1 hv3_1 => ?_
    refine VFin.eq ?_  -- 2
    refine VFin.eq ?_  -- 3
    refine VFin.nil ?_
    simp only [Act.put, List.setIfInBounds_toArray, List.set_cons_zero, List.set_cons_succ]
    clear hv3_0 hv3_1
    have hB := VP.st _ _ _ _ hB hE3
    have hE := hE3
    go_upto_region 5 with (fail)
    refine vregion0 4 (by kernel_rfl) ?_
    refine VWalk.move _ rfl (want_none rfl) (opd_fr 0 rfl hB (Ext.rf _) (by kernel_rfl)) ?_
    refine VWalk.indexB 23 5 _ _ .i64 4 rfl Try.underlying23 (by kernel_rfl) (want_none rfl) (opd_dep 0 15 0 rfl rfl rfl rfl) (opd_const _) (by omega) ?_
    refine VWalk.loadP 5 _ rfl (want_none rfl) (opd_dep 1 16 0 rfl rfl rfl rfl) (fun _ => by kernel_rfl) ?_
    refine VWalk.gtrF _ _ _ _ rfl (want_none rfl) (opd_dep 2 17 0 rfl rfl rfl rfl) (opd_const _) (by omega) ?_
    refine ⟨rfl, fun W5 hE5 => ?_⟩
    refine VFin.any fun v5_0 hv5_0 => ?_
    refine VFin.any fun v5_1 hv5_1 => ?_
    refine VFin.eq ?_  -- 2
    refine VFin.eq ?_  -- 3
    refine VFin.nil ?_
    simp only [Act.put, List.setIfInBounds_toArray, List.set_cons_zero, List.set_cons_succ]
    clear hv5_0 hv5_1
    have hB := VP.st _ _ _ _ hB hE5
    have hE := hE.tr hE5
    go_upto_region 7 with (fail)
    refine vregion0 3 (by kernel_rfl) ?_
    refine VWalk.move _ rfl (want_none rfl) (opd_fr 0 rfl hB (Ext.rf _) (by kernel_rfl)) ?_
    refine VWalk.lenB 23 5 _ rfl Try.underlying23 (want_none rfl) (opd_dep 0 19 0 rfl rfl rfl rfl) ?_
    refine VWalk.sub64 _ _ _ _ rfl (want_none rfl) (opd_dep 1 20 0 rfl rfl rfl rfl) (opd_const _) (by omega) ?_
    refine VWalk.headI (show _ = ((b.length - 4 : Nat) : Int) by omega) ?_
    refine ⟨rfl, fun W7 hE7 => ?_⟩
    refine VFin.any fun v7_0 hv7_0 => ?_
    refine VFin.eq ?_  -- 1
    refine VFin.eq ?_  -- 2
    refine VFin.nil ?_
    simp only [Act.put, List.setIfInBounds_toArray, List.set_cons_zero, List.set_cons_succ]
    clear hv7_0
    have hB := VP.st _ _ _ _ hB hE7
    have hE := hE.tr hE7
    go_upto_region 8 with (fail)
    refine vregion0 8 (by kernel_rfl) ?_
    refine VWalk.move _ rfl (want_none rfl) (opd_fr 0 rfl hB (Ext.rf _) (by kernel_rfl)) ?_
    refine VWalk.move _ rfl (want_none rfl) (opd_frame 4 rfl (by kernel_rfl)) ?_
    refine VWalk.cutFromB 23 5 _ _ .i64 (b.length - 4) rfl Try.underlying23 (by kernel_rfl) (want_none rfl) (opd_dep 0 23 1 rfl rfl rfl rfl) (opd_dep 1 24 0 rfl rfl rfl rfl) (by omega) ?_
    refine VWalk.call1 28 _ _ rfl (enters_of Try.func28 (by kernel_rfl) rfl) (want_none rfl) (opd_dep 2 25 0 rfl rfl rfl rfl) (fun v W hX hv => Sm.rtake_any _ v W hv (by rw [List.length_drop]; omega)) ?_
    refine VWalk.move _ rfl (want_none rfl) (opd_dep 3 26 0 rfl rfl rfl rfl) ?_
    refine VWalk.extract _ 0 rfl rfl (want_none rfl) (opd_dep 4 22 0 rfl rfl rfl rfl) ?_
    refine VWalk.extract _ 1 rfl rfl (want_none rfl) (opd_dep 4 22 1 rfl rfl rfl rfl) ?_
    refine VWalk.extract _ 2 rfl rfl (want_none rfl) (opd_dep 4 22 2 rfl rfl rfl rfl) ?_
    refine ⟨rfl, fun W8 hE8 => ?_⟩
    refine VFin.any fun v8_0 hv8_0 => ?_
    refine VFin.eq ?_  -- 1
    refine VFin.any fun v8_2 hv8_2 => ?_
    refine VFin.any fun v8_3 hv8_3 => ?_
    refine VFin.any fun v8_4 hv8_4 => ?_
    refine VFin.eq ?_  -- 5
    refine VFin.any fun v8_6 hv8_6 => ?_
    refine VFin.eq ?_  -- 7
    refine VFin.nil ?_
    simp only [Act.put, List.setIfInBounds_toArray, List.set_cons_zero, List.set_cons_succ]
    clear hv8_0 hv8_2 hv8_3 hv8_4
    have hB := VP.st _ _ _ _ hB hE8
    have hE := hE.tr hE8
    go_upto_region 9 with (fail)
    refine vregion0 7 (by kernel_rfl) ?_
    refine VWalk.move _ rfl (want_none rfl) (opd_frame 5 rfl (by kernel_rfl)) ?_
    refine VWalk.move _ rfl (want_none rfl) (opd_fr 0 rfl hB (Ext.rf _) (by kernel_rfl)) ?_
    refine VWalk.move _ rfl (want_none rfl) (opd_frame 4 rfl (by kernel_rfl)) ?_
    refine VWalk.cutToB 23 5 _ _ .i64 (b.length - 4) rfl Try.underlying23 (by kernel_rfl) (want_none rfl) (opd_dep 1 31 1 rfl rfl rfl rfl) (opd_dep 2 32 0 rfl rfl rfl rfl) (by omega) ?_
    refine VWalk.lit (Fs := [_]) [Operand.tmp 33] 22 23 1 _ rfl rfl (by decide) (by decide) rfl Try.underlying22 (by kernel_rfl) (by kernel_rfl) ⟨oneCell_sl _, trivial⟩ (want_none rfl) ⟨(opd_dep 3 33 0 rfl rfl rfl rfl), trivial⟩ ?_
    refine VWalk.call1 20 _ _ rfl (enters_of Try.func20 (by kernel_rfl) rfl) (want_none rfl) (opd_dep 4 34 0 rfl rfl rfl rfl) (fun v W hX hv => rof1_any _ v W hv) ?_
    refine VWalk.neT' _ _ _ _ rfl (want_none rfl) (opd_dep 0 30 5 rfl rfl rfl rfl) (opd_dep 5 35 0 rfl rfl rfl rfl) h4 ?_
    refine ⟨rfl, fun W9 hE9 => ?_⟩
    refine VFin.eq ?_  -- 0
    refine VFin.any fun v9_1 hv9_1 => ?_
    refine VFin.eq ?_  -- 2
    refine VFin.any fun v9_3 hv9_3 => ?_
    refine VFin.any fun v9_4 hv9_4 => ?_
    refine VFin.eq ?_  -- 5
    refine VFin.eq ?_  -- 6
    refine VFin.nil ?_
    simp only [Act.put, List.setIfInBounds_toArray, List.set_cons_zero, List.set_cons_succ]
    clear hv9_1 hv9_3 hv9_4
    have hB := VP.st _ _ _ _ hB hE9
    have hv8_6 := VP.st _ _ _ _ hv8_6 hE9
    have hE := hE.tr hE9
    clear hB hs h4
    go_wp2
    exact bodyPost_ret (v := .tuple #[.bool false, .int .i64 42]) (by simp [results, Try.results13, go_sem]) rfl (Ret.mk hE (VTup.two rfl rfl))
  have h4e : SumM.takeV (b.drop (b.length - 4)) = SumM.ofB (b.take (b.length - 4)) := Decidable.byContradiction h4
  have hres : headP b = (decide (b[4] = 1), 0) := by unfold headP; rw [if_neg h1, if_neg h2, hg4, if_neg h3, if_neg h4]
  rw [hres]
  clear hres h2 h2' hg4 h4
  by_cases h5 : b[4] = 1
  · have hfv : (b[4].toNat : Int) = 1 := by rw [h5]; rfl
    rw [decide_eq_true h5]
    go_enter Try.func13, Try.ntmps13
    go_upto_region 3 with (fail)
    refine vregion0 4 (by kernel_rfl) ?_
    refine VWalk.move _ rfl (want_none rfl) (opd_fr 0 rfl hB (Ext.rf _) (by kernel_rfl)) ?_
    refine VWalk.cutToB 23 5 _ _ .i64 4 rfl Try.underlying23 (by kernel_rfl) (want_none rfl) (opd_dep 0 11 0 rfl rfl rfl rfl) (opd_const _) (by omega) ?_
    refine VWalk.string 23 9 5 _ rfl Try.underlying23 Try.underlying5 Try.underlying9 (want_none rfl) (opd_dep 1 12 0 rfl rfl rfl rfl) ?_
    refine VWalk.neTs _ _ _ _ rfl (want_none rfl) (opd_dep 2 13 0 rfl rfl rfl rfl) (opd_const _) hs ?_
    refine ⟨rfl, fun W3 hE3 => ?_⟩
    refine VFin.any fun v3_0 hv3_0 => ?_
    refine VFin.any fun v3_1 hv3_1 => ?_
    refine VFin.eq ?_  -- 2
    refine VFin.eq ?_  -- 3
    refine VFin.nil ?_
    simp only [Act.put, List.setIfInBounds_toArray, List.set_cons_zero, List.set_cons_succ]
    clear hv3_0 hv3_1
    have hB := VP.st _ _ _ _ hB hE3
    have hE := hE3
    go_upto_region 5 with (fail)
    refine vregion0 4 (by kernel_rfl) ?_
    refine VWalk.move _ rfl (want_none rfl) (opd_fr 0 rfl hB (Ext.rf _) (by kernel_rfl)) ?_
    refine VWalk.indexB 23 5 _ _ .i64 4 rfl Try.underlying23 (by kernel_rfl) (want_none rfl) (opd_dep 0 15 0 rfl rfl rfl rfl) (opd_const _) (by omega) ?_
    refine VWalk.loadP 5 _ rfl (want_none rfl) (opd_dep 1 16 0 rfl rfl rfl rfl) (fun _ => by kernel_rfl) ?_
    refine VWalk.gtrF _ _ _ _ rfl (want_none rfl) (opd_dep 2 17 0 rfl rfl rfl rfl) (opd_const _) (by omega) ?_
    refine ⟨rfl, fun W5 hE5 => ?_⟩
    refine VFin.any fun v5_0 hv5_0 => ?_
    refine VFin.any fun v5_1 hv5_1 => ?_
    refine VFin.eq ?_  -- 2
    refine VFin.eq ?_  -- 3
    refine VFin.nil ?_
    simp only [Act.put, List.setIfInBounds_toArray, List.set_cons_zero, List.set_cons_succ]
    clear hv5_0 hv5_1
    have hB := VP.st _ _ _ _ hB hE5
    have hE := hE.tr hE5
    go_upto_region 7 with (fail)
    refine vregion0 3 (by kernel_rfl) ?_
    refine VWalk.move _ rfl (want_none rfl) (opd_fr 0 rfl hB (Ext.rf _) (by kernel_rfl)) ?_
    refine VWalk.lenB 23 5 _ rfl Try.underlying23 (want_none rfl) (opd_dep 0 19 0 rfl rfl rfl rfl) ?_
    refine VWalk.sub64 _ _ _ _ rfl (want_none rfl) (opd_dep 1 20 0 rfl rfl rfl rfl) (opd_const _) (by omega) ?_
    refine VWalk.headI (show _ = ((b.length - 4 : Nat) : Int) by omega) ?_
    refine ⟨rfl, fun W7 hE7 => ?_⟩
    refine VFin.any fun v7_0 hv7_0 => ?_
    refine VFin.eq ?_  -- 1
    refine VFin.eq ?_  -- 2
    refine VFin.nil ?_
    simp only [Act.put, List.setIfInBounds_toArray, List.set_cons_zero, List.set_cons_succ]
    clear hv7_0
    have hB := VP.st _ _ _ _ hB hE7
    have hE := hE.tr hE7
    go_upto_region 8 with (fail)
    refine vregion0 8 (by kernel_rfl) ?_
    refine VWalk.move _ rfl (want_none rfl) (opd_fr 0 rfl hB (Ext.rf _) (by kernel_rfl)) ?_
    refine VWalk.move _ rfl (want_none rfl) (opd_frame 4 rfl (by kernel_rfl)) ?_
    refine VWalk.cutFromB 23 5 _ _ .i64 (b.length - 4) rfl Try.underlying23 (by kernel_rfl) (want_none rfl) (opd_dep 0 23 1 rfl rfl rfl rfl) (opd_dep 1 24 0 rfl rfl rfl rfl) (by omega) ?_
    refine VWalk.call1 28 _ _ rfl (enters_of Try.func28 (by kernel_rfl) rfl) (want_none rfl) (opd_dep 2 25 0 rfl rfl rfl rfl) (fun v W hX hv => Sm.rtake_any _ v W hv (by rw [List.length_drop]; omega)) ?_
    refine VWalk.move _ rfl (want_none rfl) (opd_dep 3 26 0 rfl rfl rfl rfl) ?_
    refine VWalk.extract _ 0 rfl rfl (want_none rfl) (opd_dep 4 22 0 rfl rfl rfl rfl) ?_
    refine VWalk.extract _ 1 rfl rfl (want_none rfl) (opd_dep 4 22 1 rfl rfl rfl rfl) ?_
    refine VWalk.extract _ 2 rfl rfl (want_none rfl) (opd_dep 4 22 2 rfl rfl rfl rfl) ?_
    refine ⟨rfl, fun W8 hE8 => ?_⟩
    refine VFin.any fun v8_0 hv8_0 => ?_
    refine VFin.eq ?_  -- 1
    refine VFin.any fun v8_2 hv8_2 => ?_
    refine VFin.any fun v8_3 hv8_3 => ?_
    refine VFin.any fun v8_4 hv8_4 => ?_
    refine VFin.eq ?_  -- 5
    refine VFin.any fun v8_6 hv8_6 => ?_
    refine VFin.eq ?_  -- 7
    refine VFin.nil ?_
    simp only [Act.put, List.setIfInBounds_toArray, List.set_cons_zero, List.set_cons_succ]
    clear hv8_0 hv8_2 hv8_3 hv8_4
    have hB := VP.st _ _ _ _ hB hE8
    have hE := hE.tr hE8
    go_upto_region 9 with (fail)
    refine vregion0 7 (by kernel_rfl) ?_
    refine VWalk.move _ rfl (want_none rfl) (opd_frame 5 rfl (by kernel_rfl)) ?_
    refine VWalk.move _ rfl (want_none rfl) (opd_fr 0 rfl hB (Ext.rf _) (by kernel_rfl)) ?_
    refine VWalk.move _ rfl (want_none rfl) (opd_frame 4 rfl (by kernel_rfl)) ?_
    refine VWalk.cutToB 23 5 _ _ .i64 (b.length - 4) rfl Try.underlying23 (by kernel_rfl) (want_none rfl) (opd_dep 1 31 1 rfl rfl rfl rfl) (opd_dep 2 32 0 rfl rfl rfl rfl) (by omega) ?_
    refine VWalk.lit (Fs := [_]) [Operand.tmp 33] 22 23 1 _ rfl rfl (by decide) (by decide) rfl Try.underlying22 (by kernel_rfl) (by kernel_rfl) ⟨oneCell_sl _, trivial⟩ (want_none rfl) ⟨(opd_dep 3 33 0 rfl rfl rfl rfl), trivial⟩ ?_
    refine VWalk.call1 20 _ _ rfl (enters_of Try.func20 (by kernel_rfl) rfl) (want_none rfl) (opd_dep 4 34 0 rfl rfl rfl rfl) (fun v W hX hv => rof1_any _ v W hv) ?_
    refine VWalk.neT _ _ _ _ rfl (want_none rfl) (opd_dep 0 30 5 rfl rfl rfl rfl) (opd_dep 5 35 0 rfl rfl rfl rfl) h4e ?_
    refine ⟨rfl, fun W9 hE9 => ?_⟩
    refine VFin.eq ?_  -- 0
    refine VFin.any fun v9_1 hv9_1 => ?_
    refine VFin.eq ?_  -- 2
    refine VFin.any fun v9_3 hv9_3 => ?_
    refine VFin.any fun v9_4 hv9_4 => ?_
    refine VFin.eq ?_  -- 5
    refine VFin.eq ?_  -- 6
    refine VFin.nil ?_
    simp only [Act.put, List.setIfInBounds_toArray, List.set_cons_zero, List.set_cons_succ]
    clear hv9_1 hv9_3 hv9_4
    have hB := VP.st _ _ _ _ hB hE9
    have hv8_6 := VP.st _ _ _ _ hv8_6 hE9
    have hE := hE.tr hE9
    go_upto_region 11 with (fail)
    refine vregion0 4 (by kernel_rfl) ?_
    refine VWalk.move _ rfl (want_none rfl) (opd_fr 0 rfl hB (Ext.rf _) (by kernel_rfl)) ?_
    refine VWalk.indexB 23 5 _ _ .i64 4 rfl Try.underlying23 (by kernel_rfl) (want_none rfl) (opd_dep 0 37 0 rfl rfl rfl rfl) (opd_const _) (by omega) ?_
    refine VWalk.loadP 5 _ rfl (want_none rfl) (opd_dep 1 38 0 rfl rfl rfl rfl) (fun _ => by kernel_rfl) ?_
    refine VWalk.eqT _ _ _ _ rfl (want_none rfl) (opd_dep 2 39 0 rfl rfl rfl rfl) (opd_const _) hfv ?_
    refine ⟨rfl, fun W11 hE11 => ?_⟩
    refine VFin.any fun v11_0 hv11_0 => ?_
    refine VFin.any fun v11_1 hv11_1 => ?_
    refine VFin.eq ?_  -- 2
    refine VFin.eq ?_  -- 3
    refine VFin.nil ?_
    simp only [Act.put, List.setIfInBounds_toArray, List.set_cons_zero, List.set_cons_succ]
    clear hv11_0 hv11_1
    have hB := VP.st _ _ _ _ hB hE11
    have hv8_6 := VP.st _ _ _ _ hv8_6 hE11
    have hE := hE.tr hE11
    clear hB hs h4e hfv h5
    go_wp2
    exact bodyPost_ret (v := .tuple #[.bool true, .int .i64 0]) (by simp [results, Try.results13, go_sem]) rfl (Ret.mk hE (VTup.two rfl rfl))
  · have hfv : (b[4].toNat : Int) ≠ 1 := fun e => h5 (UInt8.toNat.inj (by rw [show (1 : UInt8).toNat = 1 from rfl]; omega))
    rw [decide_eq_false h5]
    go_enter Try.func13, Try.ntmps13
    go_upto_region 3 with (fail)
    refine vregion0 4 (by kernel_rfl) ?_
    refine VWalk.move _ rfl (want_none rfl) (opd_fr 0 rfl hB (Ext.rf _) (by kernel_rfl)) ?_
    refine VWalk.cutToB 23 5 _ _ .i64 4 rfl Try.underlying23 (by kernel_rfl) (want_none rfl) (opd_dep 0 11 0 rfl rfl rfl rfl) (opd_const _) (by omega) ?_
    refine VWalk.string 23 9 5 _ rfl Try.underlying23 Try.underlying5 Try.underlying9 (want_none rfl) (opd_dep 1 12 0 rfl rfl rfl rfl) ?_
    refine VWalk.neTs _ _ _ _ rfl (want_none rfl) (opd_dep 2 13 0 rfl rfl rfl rfl) (opd_const _) hs ?_
    refine ⟨rfl, fun W3 hE3 => ?_⟩
    refine VFin.any fun v3_0 hv3_0 => ?_
    refine VFin.any fun v3_1 hv3_1 => ?_
    refine VFin.eq ?_  -- 2
    refine VFin.eq ?_  -- 3
    refine VFin.nil ?_
    simp only [Act.put, List.setIfInBounds_toArray, List.set_cons_zero, List.set_cons_succ]
    clear hv3_0 hv3_1
    have hB := VP.st _ _ _ _ hB hE3
    have hE := hE3
    go_upto_region 5 with (fail)
    refine vregion0 4 (by kernel_rfl) ?_
    refine VWalk.move _ rfl (want_none rfl) (opd_fr 0 rfl hB (Ext.rf _) (by kernel_rfl)) ?_
    refine VWalk.indexB 23 5 _ _ .i64 4 rfl Try.underlying23 (by kernel_rfl) (want_none rfl) (opd_dep 0 15 0 rfl rfl rfl rfl) (opd_const _) (by omega) ?_
    refine VWalk.loadP 5 _ rfl (want_none rfl) (opd_dep 1 16 0 rfl rfl rfl rfl) (fun _ => by kernel_rfl) ?_
    refine VWalk.gtrF _ _ _ _ rfl (want_none rfl) (opd_dep 2 17 0 rfl rfl rfl rfl) (opd_const _) (by omega) ?_
    refine ⟨rfl, fun W5 hE5 => ?_⟩
    refine VFin.any fun v5_0 hv5_0 => ?_
    refine VFin.any fun v5_1 hv5_1 => ?_
    refine VFin.eq ?_  -- 2
    refine VFin.eq ?_  -- 3
    refine VFin.nil ?_
    simp only [Act.put, List.setIfInBounds_toArray, List.set_cons_zero, List.set_cons_succ]
    clear hv5_0 hv5_1
    have hB := VP.st _ _ _ _ hB hE5
    have hE := hE.tr hE5
    go_upto_region 7 with (fail)
    refine vregion0 3 (by kernel_rfl) ?_
    refine VWalk.move _ rfl (want_none rfl) (opd_fr 0 rfl hB (Ext.rf _) (by kernel_rfl)) ?_
    refine VWalk.lenB 23 5 _ rfl Try.underlying23 (want_none rfl) (opd_dep 0 19 0 rfl rfl rfl rfl) ?_
    refine VWalk.sub64 _ _ _ _ rfl (want_none rfl) (opd_dep 1 20 0 rfl rfl rfl rfl) (opd_const _) (by omega) ?_
    refine VWalk.headI (show _ = ((b.length - 4 : Nat) : Int) by omega) ?_
    refine ⟨rfl, fun W7 hE7 => ?_⟩
    refine VFin.any fun v7_0 hv7_0 => ?_
    refine VFin.eq ?_  -- 1
    refine VFin.eq ?_  -- 2
    refine VFin.nil ?_
    simp only [Act.put, List.setIfInBounds_toArray, List.set_cons_zero, List.set_cons_succ]
    clear hv7_0
    have hB := VP.st _ _ _ _ hB hE7
    have hE := hE.tr hE7
    go_upto_region 8 with (fail)
    refine vregion0 8 (by kernel_rfl) ?_
    refine VWalk.move _ rfl (want_none rfl) (opd_fr 0 rfl hB (Ext.rf _) (by kernel_rfl)) ?_
    refine VWalk.move _ rfl (want_none rfl) (opd_frame 4 rfl (by kernel_rfl)) ?_
    refine VWalk.cutFromB 23 5 _ _ .i64 (b.length - 4) rfl Try.underlying23 (by kernel_rfl) (want_none rfl) (opd_dep 0 23 1 rfl rfl rfl rfl) (opd_dep 1 24 0 rfl rfl rfl rfl) (by omega) ?_
    refine VWalk.call1 28 _ _ rfl (enters_of Try.func28 (by kernel_rfl) rfl) (want_none rfl) (opd_dep 2 25 0 rfl rfl rfl rfl) (fun v W hX hv => Sm.rtake_any _ v W hv (by rw [List.length_drop]; omega)) ?_
    refine VWalk.move _ rfl (want_none rfl) (opd_dep 3 26 0 rfl rfl rfl rfl) ?_
    refine VWalk.extract _ 0 rfl rfl (want_none rfl) (opd_dep 4 22 0 rfl rfl rfl rfl) ?_
    refine VWalk.extract _ 1 rfl rfl (want_none rfl) (opd_dep 4 22 1 rfl rfl rfl rfl) ?_
    refine VWalk.extract _ 2 rfl rfl (want_none rfl) (opd_dep 4 22 2 rfl rfl rfl rfl) ?_
    refine ⟨rfl, fun W8 hE8 => ?_⟩
    refine VFin.any fun v8_0 hv8_0 => ?_
    refine VFin.eq ?_  -- 1
    refine VFin.any fun v8_2 hv8_2 => ?_
    refine VFin.any fun v8_3 hv8_3 => ?_
    refine VFin.any fun v8_4 hv8_4 => ?_
    refine VFin.eq ?_  -- 5
    refine VFin.any fun v8_6 hv8_6 => ?_
    refine VFin.eq ?_  -- 7
    refine VFin.nil ?_
    simp only [Act.put, List.setIfInBounds_toArray, List.set_cons_zero, List.set_cons_succ]
    clear hv8_0 hv8_2 hv8_3 hv8_4
    have hB := VP.st _ _ _ _ hB hE8
    have hE := hE.tr hE8
    go_upto_region 9 with (fail)
    refine vregion0 7 (by kernel_rfl) ?_
    refine VWalk.move _ rfl (want_none rfl) (opd_frame 5 rfl (by kernel_rfl)) ?_
    refine VWalk.move _ rfl (want_none rfl) (opd_fr 0 rfl hB (Ext.rf _) (by kernel_rfl)) ?_
    refine VWalk.move _ rfl (want_none rfl) (opd_frame 4 rfl (by kernel_rfl)) ?_
    refine VWalk.cutToB 23 5 _ _ .i64 (b.length - 4) rfl Try.underlying23 (by kernel_rfl) (want_none rfl) (opd_dep 1 31 1 rfl rfl rfl rfl) (opd_dep 2 32 0 rfl rfl rfl rfl) (by omega) ?_
    refine VWalk.lit (Fs := [_]) [Operand.tmp 33] 22 23 1 _ rfl rfl (by decide) (by decide) rfl Try.underlying22 (by kernel_rfl) (by kernel_rfl) ⟨oneCell_sl _, trivial⟩ (want_none rfl) ⟨(opd_dep 3 33 0 rfl rfl rfl rfl), trivial⟩ ?_
    refine VWalk.call1 20 _ _ rfl (enters_of Try.func20 (by kernel_rfl) rfl) (want_none rfl) (opd_dep 4 34 0 rfl rfl rfl rfl) (fun v W hX hv => rof1_any _ v W hv) ?_
    refine VWalk.neT _ _ _ _ rfl (want_none rfl) (opd_dep 0 30 5 rfl rfl rfl rfl) (opd_dep 5 35 0 rfl rfl rfl rfl) h4e ?_
    refine ⟨rfl, fun W9 hE9 => ?_⟩
    refine VFin.eq ?_  -- 0
    refine VFin.any fun v9_1 hv9_1 => ?_
    refine VFin.eq ?_  -- 2
    refine VFin.any fun v9_3 hv9_3 => ?_
    refine VFin.any fun v9_4 hv9_4 => ?_
    refine VFin.eq ?_  -- 5
    refine VFin.eq ?_  -- 6
    refine VFin.nil ?_
    simp only [Act.put, List.setIfInBounds_toArray, List.set_cons_zero, List.set_cons_succ]
    clear hv9_1 hv9_3 hv9_4
    have hB := VP.st _ _ _ _ hB hE9
    have hv8_6 := VP.st _ _ _ _ hv8_6 hE9
    have hE := hE.tr hE9
    go_upto_region 11 with (fail)
    refine vregion0 4 (by kernel_rfl) ?_
    refine VWalk.move _ rfl (want_none rfl) (opd_fr 0 rfl hB (Ext.rf _) (by kernel_rfl)) ?_
    refine VWalk.indexB 23 5 _ _ .i64 4 rfl Try.underlying23 (by kernel_rfl) (want_none rfl) (opd_dep 0 37 0 rfl rfl rfl rfl) (opd_const _) (by omega) ?_
    refine VWalk.loadP 5 _ rfl (want_none rfl) (opd_dep 1 38 0 rfl rfl rfl rfl) (fun _ => by kernel_rfl) ?_
    refine VWalk.eqT' _ _ _ _ rfl (want_none rfl) (opd_dep 2 39 0 rfl rfl rfl rfl) (opd_const _) hfv ?_
    refine ⟨rfl, fun W11 hE11 => ?_⟩
    refine VFin.any fun v11_0 hv11_0 => ?_
    refine VFin.any fun v11_1 hv11_1 => ?_
    refine VFin.eq ?_  -- 2
    refine VFin.eq ?_  -- 3
    refine VFin.nil ?_
    simp only [Act.put, List.setIfInBounds_toArray, List.set_cons_zero, List.set_cons_succ]
    clear hv11_0 hv11_1
    have hB := VP.st _ _ _ _ hB hE11
    have hv8_6 := VP.st _ _ _ _ hv8_6 hE11
    have hE := hE.tr hE11
    clear hB hs h4e hfv h5
    go_wp2
    exact bodyPost_ret (v := .tuple #[.bool false, .int .i64 0]) (by simp [results, Try.results13, go_sem]) rfl (Ret.mk hE (VTup.two rfl rfl))
end Go.Proofs.Ytggjkhldknppkaa
