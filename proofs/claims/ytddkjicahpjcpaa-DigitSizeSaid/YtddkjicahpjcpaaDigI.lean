/- The contracts of digit and of the document's answer, as a region's walk takes them; wakes. -/
import Derived.Test.YtddkjicahpjcpaaDigH
namespace Go.Proofs.Ytddkjicahpjcpaa
open Go.RowKit DigM
section
variable {w0 : World}
theorem c_put (n : Int) : ∀ v w, Ext w0 w → VEq (.int .i64 n) v w → Calls Try.prog 8 #[v] w (Ret w (VTup [VBytes (puts [n]).1, VEq (.int .i64 (puts [n]).2)])) := fun v w _ hv => by rw [show v = _ from hv]; exact put_any n w
theorem c_rput (n : Int) : ∀ v w, Ext w0 w → VEq (.int .i64 n) v w → Calls Try.prog 9 #[v] w (Ret w (VTup [VBytes (puts [n]).1, VEq (.int .i64 (puts [n]).2)])) := fun v w _ hv => by rw [show v = _ from hv]; exact rput_any n w
theorem c_puts (ns : List Int) (h : ns.length ≤ 100000) : ∀ v w, Ext w0 w → VInts ns v w → Calls Try.prog 10 #[v] w (Ret w (VTup [VBytes (puts ns).1, VEq (.int .i64 (puts ns).2)])) := fun v w _ hv => puts_any ns v w hv h
theorem c_rputs (ns : List Int) (h : ns.length ≤ 100000) : ∀ v w, Ext w0 w → VInts ns v w → Calls Try.prog 11 #[v] w (Ret w (VTup [VBytes (puts ns).1, VEq (.int .i64 (puts ns).2)])) := fun v w _ hv => rputs_any ns v w hv h
theorem c_size (ns : List Int) (h : ns.length ≤ 100000) : ∀ v w, Ext w0 w → VInts ns v w → Calls Try.prog 12 #[v] w (Ret w (VEq (.int .i64 ((puts ns).1.length : Nat)))) := fun v w _ hv => dsize_any ns v w hv h
theorem c_rsize (ns : List Int) (h : ns.length ≤ 100000) : ∀ v w, Ext w0 w → VInts ns v w → Calls Try.prog 13 #[v] w (Ret w (VEq (.int .i64 ((puts ns).1.length : Nat)))) := fun v w _ hv => rsize_any ns v w hv h
theorem c_take (bs : List UInt8) (h : bs.length ≤ 1000000) : ∀ v w, Ext w0 w → VBytes bs v w → Calls Try.prog 14 #[v] w (Ret w (VTup [VEq (.int .i64 ((takeN bs).1 : Int)), VBytes (takeN bs).2.1, VEq (.int .i64 (takeN bs).2.2)])) := fun v w _ hv => take_any bs v w hv h
theorem c_rtake (bs : List UInt8) (h : bs.length ≤ 1000000) : ∀ v w, Ext w0 w → VBytes bs v w → Calls Try.prog 15 #[v] w (Ret w (VTup [VEq (.int .i64 ((takeN bs).1 : Int)), VBytes (takeN bs).2.1, VEq (.int .i64 (takeN bs).2.2)])) := fun v w _ hv => rtake_any bs v w hv h
theorem c_takes (bs : List UInt8) (many : Int) (hm : many ≤ 9223372036854775807) (h : bs.length ≤ 1000000) : ∀ u v w, Ext w0 w → VBytes bs u w → VEq (.int .i64 many) v w → Calls Try.prog 16 #[u, v] w (Ret w (VTup [VInts (takes many bs).1, VBytes (takes many bs).2.1, VEq (.int .i64 (takes many bs).2.2)])) := fun u v w _ hu hv => by rw [show v = _ from hv]; exact takes_any bs many hm u w hu h
theorem c_rtakes (bs : List UInt8) (many : Int) (hm : many ≤ 9223372036854775807) (h : bs.length ≤ 1000000) : ∀ u v w, Ext w0 w → VBytes bs u w → VEq (.int .i64 many) v w → Calls Try.prog 17 #[u, v] w (Ret w (VTup [VInts (takes many bs).1, VBytes (takes many bs).2.1, VEq (.int .i64 (takes many bs).2.2)])) := fun u v w _ hu hv => by rw [show v = _ from hv]; exact rtakes_any bs many hm u w hu h
theorem c_ints (xs ys : List Int) : ∀ u v w, Ext w0 w → VInts xs u w → VInts ys v w → Calls Try.prog 18 #[u, v] w (Ret w (VEq (.bool (decide (xs = ys))))) := fun u v w _ hu hv => ints_any xs ys u v w hu hv
end
theorem putN_5 : putN 5 = [5] := by rw [putN_lo (by omega)]; rfl
theorem putN_300 : putN 300 = [172, 2] := by rw [putN_hi (by omega), putN_lo (by omega)]; rfl
theorem putN_0 : putN 0 = [0] := by rw [putN_lo (by omega)]; rfl
theorem putN_127 : putN 127 = [127] := by rw [putN_lo (by omega)]; rfl
theorem puts_w1 : puts [5, 300, 0] = ([5, 172, 2, 0], 0) := by
  unfold puts
  rw [if_pos (by decide)]
  simp only [putsF, show (5 : Int).toNat = 5 from rfl, show (300 : Int).toNat = 300 from rfl, show (0 : Int).toNat = 0 from rfl, putN_5, putN_300, putN_0]
  rfl
theorem puts_w2 : puts [127] = ([127], 0) := by
  unfold puts
  rw [if_pos (by decide)]
  simp only [putsF, show (127 : Int).toNat = 127 from rfl, putN_127]
  rfl
theorem puts_w3 : puts [-1] = ([], 2) := by
  unfold puts
  rw [if_neg (by decide)]
theorem puts_w4 : (puts [5, 300]).1.length = 3 := by
  unfold puts
  rw [if_pos (by decide)]
  simp only [putsF, show (5 : Int).toNat = 5 from rfl, show (300 : Int).toNat = 300 from rfl, putN_5, putN_300]
  rfl
set_option maxRecDepth 100000 in
set_option maxHeartbeats 4000000 in
theorem wakes_any (w : World) : Calls Try.prog 7 #[] w (Ret w (VEq (.bool true))) := by
  go_enter Try.func7, Try.ntmps7
  go_upto_region 1 with (fail)
  refine vregion0 5 (by kernel_rfl) ?_
  refine VWalk.lit (Fs := [_, _, _]) [Operand.const (Value.int IntKind.i64 5), Operand.const (Value.int IntKind.i64 300), Operand.const (Value.int IntKind.i64 0)] 22 3 3 _ rfl rfl (by decide) (by decide) rfl Try.underlying22 (by kernel_rfl) (by kernel_rfl) ⟨oneCell_eq rfl, oneCell_eq rfl, oneCell_eq rfl, trivial⟩ (want_none rfl) ⟨(opd_const _), (opd_const _), (opd_const _), trivial⟩ ?_
  refine VWalk.call1 10 _ _ rfl (enters_of Try.func10 (by kernel_rfl) rfl) (want_none rfl) (opd_dep 0 26 0 rfl rfl rfl rfl) (c_puts [5, 300, 0] (by decide)) ?_
  rw [puts_w1]
  refine VWalk.move _ rfl (want_none rfl) (opd_dep 1 27 0 rfl rfl rfl rfl) ?_
  refine VWalk.extract _ 0 rfl rfl (want_none rfl) (opd_dep 2 25 0 rfl rfl rfl rfl) ?_
  refine VWalk.extract _ 1 rfl rfl (want_none rfl) (opd_dep 2 25 1 rfl rfl rfl rfl) ?_
  refine ⟨rfl, fun W1 hE1 => ?_⟩
  refine VFin.any fun v1_0 hv1_0 => ?_
  refine VFin.any fun v1_1 hv1_1 => ?_
  refine VFin.any fun v1_2 hv1_2 => ?_
  refine VFin.any fun v1_3 hv1_3 => ?_
  refine VFin.eq ?_  -- 4
  refine VFin.nil ?_
  simp only [Act.put, List.setIfInBounds_toArray, List.set_cons_zero, List.set_cons_succ]
  clear hv1_0 hv1_1 hv1_2
  have hE := hE1
  go_upto_region 2 with (fail)
  refine vregion0 6 (by kernel_rfl) ?_
  refine VWalk.litB [5, 172, 2, 0, 9] 23 5 5 _ rfl rfl (by decide) (by decide) rfl Try.underlying23 (by kernel_rfl) (by kernel_rfl) (want_none rfl) ?_
  refine VWalk.call2 16 _ _ _ rfl (enters_of Try.func16 (by kernel_rfl) rfl) (want_none rfl) (opd_row (opd_dep 0 31 0 rfl rfl rfl rfl)) (opd_const _) (c_takes _ _ (by decide) (by decide)) ?_
  refine VWalk.move _ rfl (want_none rfl) (opd_dep 1 32 0 rfl rfl rfl rfl) ?_
  refine VWalk.extract _ 0 rfl rfl (want_none rfl) (opd_dep 2 30 0 rfl rfl rfl rfl) ?_
  refine VWalk.extract _ 1 rfl rfl (want_none rfl) (opd_dep 2 30 1 rfl rfl rfl rfl) ?_
  refine VWalk.extract _ 2 rfl rfl (want_none rfl) (opd_dep 2 30 2 rfl rfl rfl rfl) ?_
  refine ⟨rfl, fun W2 hE2 => ?_⟩
  refine VFin.any fun v2_0 hv2_0 => ?_
  refine VFin.any fun v2_1 hv2_1 => ?_
  refine VFin.any fun v2_2 hv2_2 => ?_
  refine VFin.any fun v2_3 hv2_3 => ?_
  refine VFin.any fun v2_4 hv2_4 => ?_
  refine VFin.eq ?_  -- 5
  refine VFin.nil ?_
  simp only [Act.put, List.setIfInBounds_toArray, List.set_cons_zero, List.set_cons_succ]
  clear hv2_0 hv2_1 hv2_2
  have hv1_3 := VP.st _ _ _ _ hv1_3 hE2
  have hE := hE.tr hE2
  go_upto_region 3 with (fail)
  refine vregion0 6 (by kernel_rfl) ?_
  refine VWalk.litB [128, 0] 23 5 2 _ rfl rfl (by decide) (by decide) rfl Try.underlying23 (by kernel_rfl) (by kernel_rfl) (want_none rfl) ?_
  refine VWalk.call1 14 _ _ rfl (enters_of Try.func14 (by kernel_rfl) rfl) (want_none rfl) (opd_row (opd_dep 0 37 0 rfl rfl rfl rfl)) (c_take _ (by decide)) ?_
  refine VWalk.move _ rfl (want_none rfl) (opd_dep 1 38 0 rfl rfl rfl rfl) ?_
  refine VWalk.extract _ 0 rfl rfl (want_none rfl) (opd_dep 2 36 0 rfl rfl rfl rfl) ?_
  refine VWalk.extract _ 1 rfl rfl (want_none rfl) (opd_dep 2 36 1 rfl rfl rfl rfl) ?_
  refine VWalk.extract _ 2 rfl rfl (want_none rfl) (opd_dep 2 36 2 rfl rfl rfl rfl) ?_
  refine ⟨rfl, fun W3 hE3 => ?_⟩
  refine VFin.any fun v3_0 hv3_0 => ?_
  refine VFin.any fun v3_1 hv3_1 => ?_
  refine VFin.any fun v3_2 hv3_2 => ?_
  refine VFin.eq ?_  -- 3
  refine VFin.any fun v3_4 hv3_4 => ?_
  refine VFin.eq ?_  -- 5
  refine VFin.nil ?_
  simp only [Act.put, List.setIfInBounds_toArray, List.set_cons_zero, List.set_cons_succ]
  clear hv3_0 hv3_1 hv3_2
  have hv1_3 := VP.st _ _ _ _ hv1_3 hE3
  have hv2_3 := VP.st _ _ _ _ hv2_3 hE3
  have hv2_4 := VP.st _ _ _ _ hv2_4 hE3
  have hE := hE.tr hE3
  go_upto_region 4 with (fail)
  refine vregion0 6 (by kernel_rfl) ?_
  refine VWalk.litB [255, 255, 255, 255, 8] 23 5 5 _ rfl rfl (by decide) (by decide) rfl Try.underlying23 (by kernel_rfl) (by kernel_rfl) (want_none rfl) ?_
  refine VWalk.call1 14 _ _ rfl (enters_of Try.func14 (by kernel_rfl) rfl) (want_none rfl) (opd_row (opd_dep 0 43 0 rfl rfl rfl rfl)) (c_take _ (by decide)) ?_
  refine VWalk.move _ rfl (want_none rfl) (opd_dep 1 44 0 rfl rfl rfl rfl) ?_
  refine VWalk.extract _ 0 rfl rfl (want_none rfl) (opd_dep 2 42 0 rfl rfl rfl rfl) ?_
  refine VWalk.extract _ 1 rfl rfl (want_none rfl) (opd_dep 2 42 1 rfl rfl rfl rfl) ?_
  refine VWalk.extract _ 2 rfl rfl (want_none rfl) (opd_dep 2 42 2 rfl rfl rfl rfl) ?_
  refine ⟨rfl, fun W4 hE4 => ?_⟩
  refine VFin.any fun v4_0 hv4_0 => ?_
  refine VFin.any fun v4_1 hv4_1 => ?_
  refine VFin.any fun v4_2 hv4_2 => ?_
  refine VFin.eq ?_  -- 3
  refine VFin.any fun v4_4 hv4_4 => ?_
  refine VFin.eq ?_  -- 5
  refine VFin.nil ?_
  simp only [Act.put, List.setIfInBounds_toArray, List.set_cons_zero, List.set_cons_succ]
  clear hv4_0 hv4_1 hv4_2
  have hv1_3 := VP.st _ _ _ _ hv1_3 hE4
  have hv2_3 := VP.st _ _ _ _ hv2_3 hE4
  have hv2_4 := VP.st _ _ _ _ hv2_4 hE4
  have hv3_4 := VP.st _ _ _ _ hv3_4 hE4
  have hE := hE.tr hE4
  go_upto_region 5 with (fail)
  refine vregion0 6 (by kernel_rfl) ?_
  refine VWalk.litB [128] 23 5 1 _ rfl rfl (by decide) (by decide) rfl Try.underlying23 (by kernel_rfl) (by kernel_rfl) (want_none rfl) ?_
  refine VWalk.call1 14 _ _ rfl (enters_of Try.func14 (by kernel_rfl) rfl) (want_none rfl) (opd_row (opd_dep 0 49 0 rfl rfl rfl rfl)) (c_take _ (by decide)) ?_
  refine VWalk.move _ rfl (want_none rfl) (opd_dep 1 50 0 rfl rfl rfl rfl) ?_
  refine VWalk.extract _ 0 rfl rfl (want_none rfl) (opd_dep 2 48 0 rfl rfl rfl rfl) ?_
  refine VWalk.extract _ 1 rfl rfl (want_none rfl) (opd_dep 2 48 1 rfl rfl rfl rfl) ?_
  refine VWalk.extract _ 2 rfl rfl (want_none rfl) (opd_dep 2 48 2 rfl rfl rfl rfl) ?_
  refine ⟨rfl, fun W5 hE5 => ?_⟩
  refine VFin.any fun v5_0 hv5_0 => ?_
  refine VFin.any fun v5_1 hv5_1 => ?_
  refine VFin.any fun v5_2 hv5_2 => ?_
  refine VFin.eq ?_  -- 3
  refine VFin.any fun v5_4 hv5_4 => ?_
  refine VFin.eq ?_  -- 5
  refine VFin.nil ?_
  simp only [Act.put, List.setIfInBounds_toArray, List.set_cons_zero, List.set_cons_succ]
  clear hv5_0 hv5_1 hv5_2
  have hv1_3 := VP.st _ _ _ _ hv1_3 hE5
  have hv2_3 := VP.st _ _ _ _ hv2_3 hE5
  have hv2_4 := VP.st _ _ _ _ hv2_4 hE5
  have hv3_4 := VP.st _ _ _ _ hv3_4 hE5
  have hv4_4 := VP.st _ _ _ _ hv4_4 hE5
  have hE := hE.tr hE5
  go_upto_region 6 with (fail)
  refine vregion0 5 (by kernel_rfl) ?_
  refine VWalk.call2 16 _ _ _ rfl (enters_of Try.func16 (by kernel_rfl) rfl) (want_none rfl) opd_nil (opd_const _) (c_takes _ _ (by decide) (by decide)) ?_
  refine VWalk.move _ rfl (want_none rfl) (opd_dep 0 55 0 rfl rfl rfl rfl) ?_
  refine VWalk.extract _ 0 rfl rfl (want_none rfl) (opd_dep 1 54 0 rfl rfl rfl rfl) ?_
  refine VWalk.extract _ 1 rfl rfl (want_none rfl) (opd_dep 1 54 1 rfl rfl rfl rfl) ?_
  refine VWalk.extract _ 2 rfl rfl (want_none rfl) (opd_dep 1 54 2 rfl rfl rfl rfl) ?_
  refine ⟨rfl, fun W6 hE6 => ?_⟩
  refine VFin.any fun v6_0 hv6_0 => ?_
  refine VFin.any fun v6_1 hv6_1 => ?_
  refine VFin.any fun v6_2 hv6_2 => ?_
  refine VFin.any fun v6_3 hv6_3 => ?_
  refine VFin.eq ?_  -- 4
  refine VFin.nil ?_
  simp only [Act.put, List.setIfInBounds_toArray, List.set_cons_zero, List.set_cons_succ]
  clear hv6_0 hv6_1
  have hv1_3 := VP.st _ _ _ _ hv1_3 hE6
  have hv2_3 := VP.st _ _ _ _ hv2_3 hE6
  have hv2_4 := VP.st _ _ _ _ hv2_4 hE6
  have hv3_4 := VP.st _ _ _ _ hv3_4 hE6
  have hv4_4 := VP.st _ _ _ _ hv4_4 hE6
  have hv5_4 := VP.st _ _ _ _ hv5_4 hE6
  have hE := hE.tr hE6
  go_upto_region 7 with (fail)
  refine vregion0 4 (by kernel_rfl) ?_
  refine VWalk.call1 8 _ _ rfl (enters_of Try.func8 (by kernel_rfl) rfl) (want_none rfl) (opd_const _) (c_put _) ?_
  rw [puts_w2]
  refine VWalk.move _ rfl (want_none rfl) (opd_dep 0 60 0 rfl rfl rfl rfl) ?_
  refine VWalk.extract _ 0 rfl rfl (want_none rfl) (opd_dep 1 59 0 rfl rfl rfl rfl) ?_
  refine VWalk.extract _ 1 rfl rfl (want_none rfl) (opd_dep 1 59 1 rfl rfl rfl rfl) ?_
  refine ⟨rfl, fun W7 hE7 => ?_⟩
  refine VFin.any fun v7_0 hv7_0 => ?_
  refine VFin.any fun v7_1 hv7_1 => ?_
  refine VFin.any fun v7_2 hv7_2 => ?_
  refine VFin.eq ?_  -- 3
  refine VFin.nil ?_
  simp only [Act.put, List.setIfInBounds_toArray, List.set_cons_zero, List.set_cons_succ]
  clear hv7_0 hv7_1
  have hv1_3 := VP.st _ _ _ _ hv1_3 hE7
  have hv2_3 := VP.st _ _ _ _ hv2_3 hE7
  have hv2_4 := VP.st _ _ _ _ hv2_4 hE7
  have hv3_4 := VP.st _ _ _ _ hv3_4 hE7
  have hv4_4 := VP.st _ _ _ _ hv4_4 hE7
  have hv5_4 := VP.st _ _ _ _ hv5_4 hE7
  have hv6_2 := VP.st _ _ _ _ hv6_2 hE7
  have hv6_3 := VP.st _ _ _ _ hv6_3 hE7
  have hE := hE.tr hE7
  go_upto_region 8 with (fail)
  refine vregion0 4 (by kernel_rfl) ?_
  refine VWalk.call1 8 _ _ rfl (enters_of Try.func8 (by kernel_rfl) rfl) (want_none rfl) (opd_const _) (c_put _) ?_
  rw [puts_w3]
  refine VWalk.move _ rfl (want_none rfl) (opd_dep 0 64 0 rfl rfl rfl rfl) ?_
  refine VWalk.extract _ 0 rfl rfl (want_none rfl) (opd_dep 1 63 0 rfl rfl rfl rfl) ?_
  refine VWalk.extract _ 1 rfl rfl (want_none rfl) (opd_dep 1 63 1 rfl rfl rfl rfl) ?_
  refine ⟨rfl, fun W8 hE8 => ?_⟩
  refine VFin.any fun v8_0 hv8_0 => ?_
  refine VFin.any fun v8_1 hv8_1 => ?_
  refine VFin.any fun v8_2 hv8_2 => ?_
  refine VFin.eq ?_  -- 3
  refine VFin.nil ?_
  simp only [Act.put, List.setIfInBounds_toArray, List.set_cons_zero, List.set_cons_succ]
  clear hv8_0 hv8_1
  have hv1_3 := VP.st _ _ _ _ hv1_3 hE8
  have hv2_3 := VP.st _ _ _ _ hv2_3 hE8
  have hv2_4 := VP.st _ _ _ _ hv2_4 hE8
  have hv3_4 := VP.st _ _ _ _ hv3_4 hE8
  have hv4_4 := VP.st _ _ _ _ hv4_4 hE8
  have hv5_4 := VP.st _ _ _ _ hv5_4 hE8
  have hv6_2 := VP.st _ _ _ _ hv6_2 hE8
  have hv6_3 := VP.st _ _ _ _ hv6_3 hE8
  have hv7_2 := VP.st _ _ _ _ hv7_2 hE8
  have hE := hE.tr hE8
  go_upto_region 9 with (fail)
  refine vregion0 6 (by kernel_rfl) ?_
  refine VWalk.litB [255, 255, 255, 255, 7] 23 5 5 _ rfl rfl (by decide) (by decide) rfl Try.underlying23 (by kernel_rfl) (by kernel_rfl) (want_none rfl) ?_
  refine VWalk.call1 14 _ _ rfl (enters_of Try.func14 (by kernel_rfl) rfl) (want_none rfl) (opd_row (opd_dep 0 68 0 rfl rfl rfl rfl)) (c_take _ (by decide)) ?_
  refine VWalk.move _ rfl (want_none rfl) (opd_dep 1 69 0 rfl rfl rfl rfl) ?_
  refine VWalk.extract _ 0 rfl rfl (want_none rfl) (opd_dep 2 67 0 rfl rfl rfl rfl) ?_
  refine VWalk.extract _ 1 rfl rfl (want_none rfl) (opd_dep 2 67 1 rfl rfl rfl rfl) ?_
  refine VWalk.extract _ 2 rfl rfl (want_none rfl) (opd_dep 2 67 2 rfl rfl rfl rfl) ?_
  refine ⟨rfl, fun W9 hE9 => ?_⟩
  refine VFin.any fun v9_0 hv9_0 => ?_
  refine VFin.any fun v9_1 hv9_1 => ?_
  refine VFin.any fun v9_2 hv9_2 => ?_
  refine VFin.eq ?_  -- 3
  refine VFin.any fun v9_4 hv9_4 => ?_
  refine VFin.eq ?_  -- 5
  refine VFin.nil ?_
  simp only [Act.put, List.setIfInBounds_toArray, List.set_cons_zero, List.set_cons_succ]
  clear hv9_0 hv9_1 hv9_2
  have hv1_3 := VP.st _ _ _ _ hv1_3 hE9
  have hv2_3 := VP.st _ _ _ _ hv2_3 hE9
  have hv2_4 := VP.st _ _ _ _ hv2_4 hE9
  have hv3_4 := VP.st _ _ _ _ hv3_4 hE9
  have hv4_4 := VP.st _ _ _ _ hv4_4 hE9
  have hv5_4 := VP.st _ _ _ _ hv5_4 hE9
  have hv6_2 := VP.st _ _ _ _ hv6_2 hE9
  have hv6_3 := VP.st _ _ _ _ hv6_3 hE9
  have hv7_2 := VP.st _ _ _ _ hv7_2 hE9
  have hv8_2 := VP.st _ _ _ _ hv8_2 hE9
  have hE := hE.tr hE9
  go_upto_region 10 with (fail)
  refine law_end0 (r := .bool true) (by assumption) 63 0 135 _ (by kernel_rfl) rfl rfl rfl rfl rfl (by kernel_rfl) rfl 62 rfl rfl ?_
  refine VWalk.move _ rfl (want_none rfl) (opd_frame 2 rfl (by kernel_rfl)) ?_
  refine VWalk.eqT _ _ _ _ rfl (want_none rfl) (opd_dep 0 73 0 rfl rfl rfl rfl) (opd_const _) (by decide) ?_
  refine VWalk.move _ rfl (want_none rfl) (opd_dep 1 74 0 rfl rfl rfl rfl) ?_
  refine VWalk.move _ rfl (want_tt 2 75 0 rfl (by kernel_rfl) rfl rfl rfl rfl) (opd_fr 1 rfl hv1_3 (Ext.rf _) (by kernel_rfl)) ?_
  refine VWalk.string 23 9 5 _ rfl Try.underlying23 Try.underlying5 Try.underlying9 (want_tt 2 75 1 rfl (by kernel_rfl) rfl rfl rfl rfl) (opd_dep 3 76 0 rfl rfl rfl rfl) ?_
  refine VWalk.eqTs _ _ _ _ rfl (want_tt 2 75 2 rfl (by kernel_rfl) rfl rfl rfl rfl) (opd_dep 4 77 0 rfl rfl rfl rfl) (opd_const _) rfl ?_
  refine VWalk.pickT _ _ _ rfl (want_none rfl) (opd_dep 2 75 3 rfl rfl rfl rfl) (opd_dep 5 78 0 rfl rfl rfl rfl) ?_
  refine VWalk.move _ rfl (want_none rfl) (opd_dep 6 79 0 rfl rfl rfl rfl) ?_
  refine VWalk.move _ rfl (want_tt 7 80 0 rfl (by kernel_rfl) rfl rfl rfl rfl) (opd_frame 5 rfl (by kernel_rfl)) ?_
  refine VWalk.eqT _ _ _ _ rfl (want_tt 7 80 1 rfl (by kernel_rfl) rfl rfl rfl rfl) (opd_dep 8 81 0 rfl rfl rfl rfl) (opd_const _) (by decide) ?_
  refine VWalk.pickT _ _ _ rfl (want_none rfl) (opd_dep 7 80 2 rfl rfl rfl rfl) (opd_dep 9 82 0 rfl rfl rfl rfl) ?_
  refine VWalk.move _ rfl (want_none rfl) (opd_dep 10 83 0 rfl rfl rfl rfl) ?_
  refine VWalk.move _ rfl (want_tt 11 84 0 rfl (by kernel_rfl) rfl rfl rfl rfl) (opd_fr 3 rfl hv2_3 (Ext.rf _) (by kernel_rfl)) ?_
  refine VWalk.lit (Fs := [_, _, _]) [Operand.const (Value.int IntKind.i64 5), Operand.const (Value.int IntKind.i64 300), Operand.const (Value.int IntKind.i64 0)] 22 3 3 _ rfl rfl (by decide) (by decide) rfl Try.underlying22 (by kernel_rfl) (by kernel_rfl) ⟨oneCell_eq rfl, oneCell_eq rfl, oneCell_eq rfl, trivial⟩ (want_tt 11 84 1 rfl (by kernel_rfl) rfl rfl rfl rfl) ⟨(opd_const _), (opd_const _), (opd_const _), trivial⟩ ?_
  refine VWalk.call2 18 _ _ _ rfl (enters_of Try.func18 (by kernel_rfl) rfl) (want_tt 11 84 2 rfl (by kernel_rfl) rfl rfl rfl rfl) (opd_dep 12 85 1 rfl rfl rfl rfl) (opd_dep 13 86 0 rfl rfl rfl rfl) (c_ints _ [5, 300, 0]) ?_
  refine VWalk.headT (by decide) ?_
  refine VWalk.pickT _ _ _ rfl (want_none rfl) (opd_dep 11 84 3 rfl rfl rfl rfl) (opd_dep 14 87 0 rfl rfl rfl rfl) ?_
  refine VWalk.move _ rfl (want_none rfl) (opd_dep 15 88 0 rfl rfl rfl rfl) ?_
  refine VWalk.move _ rfl (want_tt 16 89 0 rfl (by kernel_rfl) rfl rfl rfl rfl) (opd_fr 4 rfl hv2_4 (Ext.rf _) (by kernel_rfl)) ?_
  refine VWalk.string 23 9 5 _ rfl Try.underlying23 Try.underlying5 Try.underlying9 (want_tt 16 89 1 rfl (by kernel_rfl) rfl rfl rfl rfl) (opd_dep 17 90 0 rfl rfl rfl rfl) ?_
  refine VWalk.eqTs _ _ _ _ rfl (want_tt 16 89 2 rfl (by kernel_rfl) rfl rfl rfl rfl) (opd_dep 18 91 0 rfl rfl rfl rfl) (opd_const _) rfl ?_
  refine VWalk.pickT _ _ _ rfl (want_none rfl) (opd_dep 16 89 3 rfl rfl rfl rfl) (opd_dep 19 92 0 rfl rfl rfl rfl) ?_
  refine VWalk.move _ rfl (want_none rfl) (opd_dep 20 93 0 rfl rfl rfl rfl) ?_
  refine VWalk.move _ rfl (want_tt 21 94 0 rfl (by kernel_rfl) rfl rfl rfl rfl) (opd_frame 8 rfl (by kernel_rfl)) ?_
  refine VWalk.eqT _ _ _ _ rfl (want_tt 21 94 1 rfl (by kernel_rfl) rfl rfl rfl rfl) (opd_dep 22 95 0 rfl rfl rfl rfl) (opd_const _) (by decide) ?_
  refine VWalk.pickT _ _ _ rfl (want_none rfl) (opd_dep 21 94 2 rfl rfl rfl rfl) (opd_dep 23 96 0 rfl rfl rfl rfl) ?_
  refine VWalk.move _ rfl (want_none rfl) (opd_dep 24 97 0 rfl rfl rfl rfl) ?_
  refine VWalk.move _ rfl (want_tt 25 98 0 rfl (by kernel_rfl) rfl rfl rfl rfl) (opd_frame 11 rfl (by kernel_rfl)) ?_
  refine VWalk.eqT _ _ _ _ rfl (want_tt 25 98 1 rfl (by kernel_rfl) rfl rfl rfl rfl) (opd_dep 26 99 0 rfl rfl rfl rfl) (opd_const _) (by decide) ?_
  refine VWalk.pickT _ _ _ rfl (want_none rfl) (opd_dep 25 98 2 rfl rfl rfl rfl) (opd_dep 27 100 0 rfl rfl rfl rfl) ?_
  refine VWalk.move _ rfl (want_none rfl) (opd_dep 28 101 0 rfl rfl rfl rfl) ?_
  refine VWalk.move _ rfl (want_tt 29 102 0 rfl (by kernel_rfl) rfl rfl rfl rfl) (opd_frame 14 rfl (by kernel_rfl)) ?_
  refine VWalk.eqT _ _ _ _ rfl (want_tt 29 102 1 rfl (by kernel_rfl) rfl rfl rfl rfl) (opd_dep 30 103 0 rfl rfl rfl rfl) (opd_const _) (by decide) ?_
  refine VWalk.pickT _ _ _ rfl (want_none rfl) (opd_dep 29 102 2 rfl rfl rfl rfl) (opd_dep 31 104 0 rfl rfl rfl rfl) ?_
  refine VWalk.move _ rfl (want_none rfl) (opd_dep 32 105 0 rfl rfl rfl rfl) ?_
  refine VWalk.move _ rfl (want_tt 33 106 0 rfl (by kernel_rfl) rfl rfl rfl rfl) (opd_frame 17 rfl (by kernel_rfl)) ?_
  refine VWalk.eqT _ _ _ _ rfl (want_tt 33 106 1 rfl (by kernel_rfl) rfl rfl rfl rfl) (opd_dep 34 107 0 rfl rfl rfl rfl) (opd_const _) (by decide) ?_
  refine VWalk.pickT _ _ _ rfl (want_none rfl) (opd_dep 33 106 2 rfl rfl rfl rfl) (opd_dep 35 108 0 rfl rfl rfl rfl) ?_
  refine VWalk.move _ rfl (want_none rfl) (opd_dep 36 109 0 rfl rfl rfl rfl) ?_
  refine VWalk.move _ rfl (want_tt 37 110 0 rfl (by kernel_rfl) rfl rfl rfl rfl) (opd_frame 19 rfl (by kernel_rfl)) ?_
  refine VWalk.eqT _ _ _ _ rfl (want_tt 37 110 1 rfl (by kernel_rfl) rfl rfl rfl rfl) (opd_dep 38 111 0 rfl rfl rfl rfl) (opd_const _) (by decide) ?_
  refine VWalk.pickT _ _ _ rfl (want_none rfl) (opd_dep 37 110 2 rfl rfl rfl rfl) (opd_dep 39 112 0 rfl rfl rfl rfl) ?_
  refine VWalk.move _ rfl (want_none rfl) (opd_dep 40 113 0 rfl rfl rfl rfl) ?_
  refine VWalk.move _ rfl (want_tt 41 114 0 rfl (by kernel_rfl) rfl rfl rfl rfl) (opd_fr 18 rfl hv7_2 (Ext.rf _) (by kernel_rfl)) ?_
  refine VWalk.string 23 9 5 _ rfl Try.underlying23 Try.underlying5 Try.underlying9 (want_tt 41 114 1 rfl (by kernel_rfl) rfl rfl rfl rfl) (opd_dep 42 115 0 rfl rfl rfl rfl) ?_
  refine VWalk.eqTs _ _ _ _ rfl (want_tt 41 114 2 rfl (by kernel_rfl) rfl rfl rfl rfl) (opd_dep 43 116 0 rfl rfl rfl rfl) (opd_const _) rfl ?_
  refine VWalk.pickT _ _ _ rfl (want_none rfl) (opd_dep 41 114 3 rfl rfl rfl rfl) (opd_dep 44 117 0 rfl rfl rfl rfl) ?_
  refine VWalk.move _ rfl (want_none rfl) (opd_dep 45 118 0 rfl rfl rfl rfl) ?_
  refine VWalk.move _ rfl (want_tt 46 119 0 rfl (by kernel_rfl) rfl rfl rfl rfl) (opd_frame 21 rfl (by kernel_rfl)) ?_
  refine VWalk.eqT _ _ _ _ rfl (want_tt 46 119 1 rfl (by kernel_rfl) rfl rfl rfl rfl) (opd_dep 47 120 0 rfl rfl rfl rfl) (opd_const _) (by decide) ?_
  refine VWalk.pickT _ _ _ rfl (want_none rfl) (opd_dep 46 119 2 rfl rfl rfl rfl) (opd_dep 48 121 0 rfl rfl rfl rfl) ?_
  refine VWalk.move _ rfl (want_none rfl) (opd_dep 49 122 0 rfl rfl rfl rfl) ?_
  refine VWalk.move _ rfl (want_tt 50 123 0 rfl (by kernel_rfl) rfl rfl rfl rfl) (opd_frame 22 rfl (by kernel_rfl)) ?_
  refine VWalk.eqT _ _ _ _ rfl (want_tt 50 123 1 rfl (by kernel_rfl) rfl rfl rfl rfl) (opd_dep 51 124 0 rfl rfl rfl rfl) (opd_const _) (by decide) ?_
  refine VWalk.pickT _ _ _ rfl (want_none rfl) (opd_dep 50 123 2 rfl rfl rfl rfl) (opd_dep 52 125 0 rfl rfl rfl rfl) ?_
  refine VWalk.move _ rfl (want_none rfl) (opd_dep 53 126 0 rfl rfl rfl rfl) ?_
  refine VWalk.move _ rfl (want_tt 54 127 0 rfl (by kernel_rfl) rfl rfl rfl rfl) (opd_frame 24 rfl (by kernel_rfl)) ?_
  refine VWalk.eqT _ _ _ _ rfl (want_tt 54 127 1 rfl (by kernel_rfl) rfl rfl rfl rfl) (opd_dep 55 128 0 rfl rfl rfl rfl) (opd_const _) (by decide) ?_
  refine VWalk.pickT _ _ _ rfl (want_none rfl) (opd_dep 54 127 2 rfl rfl rfl rfl) (opd_dep 56 129 0 rfl rfl rfl rfl) ?_
  refine VWalk.move _ rfl (want_none rfl) (opd_dep 57 130 0 rfl rfl rfl rfl) ?_
  refine VWalk.lit (Fs := [_, _]) [Operand.const (Value.int IntKind.i64 5), Operand.const (Value.int IntKind.i64 300)] 22 3 2 _ rfl rfl (by decide) (by decide) rfl Try.underlying22 (by kernel_rfl) (by kernel_rfl) ⟨oneCell_eq rfl, oneCell_eq rfl, trivial⟩ (want_tt 58 131 0 rfl (by kernel_rfl) rfl rfl rfl rfl) ⟨(opd_const _), (opd_const _), trivial⟩ ?_
  refine VWalk.call1 12 _ _ rfl (enters_of Try.func12 (by kernel_rfl) rfl) (want_tt 58 131 1 rfl (by kernel_rfl) rfl rfl rfl rfl) (opd_dep 59 132 0 rfl rfl rfl rfl) (c_size [5, 300] (by decide)) ?_
  refine VWalk.eqT _ _ _ _ rfl (want_tt 58 131 2 rfl (by kernel_rfl) rfl rfl rfl rfl) (opd_dep 60 133 0 rfl rfl rfl rfl) (opd_const _) (by rw [puts_w4]; rfl) ?_
  refine VWalk.pickT _ _ _ rfl (want_none rfl) (opd_dep 58 131 3 rfl rfl rfl rfl) (opd_dep 61 134 0 rfl rfl rfl rfl) ?_
  refine ⟨rfl, rfl, rfl, fun W10 hE10 => ?_⟩
  exact Ret.mk (hE.tr hE10) rfl
theorem c_wakes {w0 : World} : ∀ w, Ext w0 w → Calls Try.prog 7 #[] w (Ret w (VEq (.bool true))) := fun w _ => wakes_any w
end Go.Proofs.Ytddkjicahpjcpaa
