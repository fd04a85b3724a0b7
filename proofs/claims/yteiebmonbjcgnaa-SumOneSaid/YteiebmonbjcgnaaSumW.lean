/- wakes: what the document says of sums at its own inputs. -/
import Derived.Test.YteiebmonbjcgnaaSumE
import Derived.Deep.Cut
namespace Go.Proofs.Yteiebmonbjcgnaa
open Go.RowKit Go.Shelf SumM

set_option maxRecDepth 100000 in
set_option maxHeartbeats 4000000 in
theorem wakes_any (w : World) : Calls Try.prog 8 #[] w (Ret w (VEq (.bool true))) := by
  go_enter Try.func8, Try.ntmps8
  go_upto_region 1 with (fail)
  -- teasel/teasellaw02.wakes, region 1: 6 operations, 5 ahead of the stores (draws nothing)
  refine vregion0 5 [] (by kernel_rfl) (fun _ _ _ _ _ h => h) ?_
  -- 0 law.go:12 t12 := call { callee := Callee.value (func 21), args := #[], argTypes := #[] }
  refine VWalk.call0 21 _ rfl (enters_of Try.func21 (by kernel_rfl) rfl) (want_none rfl) c_new ?_
  -- 1 law.go:12 t13 := buildSlice 26 1 #[(0, const (Value.int IntKind.u8 5))]
  refine VWalk.lit (Fs := [_]) [Operand.const (Value.int IntKind.u8 5)] 26 5 1 _ rfl rfl (by decide) (by decide) rfl Try.underlying26 (by kernel_rfl) (by kernel_rfl) ⟨oneCell_eq rfl, trivial⟩ (want_none rfl) ⟨(opd_const _), trivial⟩ ?_
  -- 2 law.go:12 t14 := buildSlice 24 1 #[(0, tmp 13)]
  refine VWalk.lit (Fs := [_]) [Operand.tmp 13] 24 26 1 _ rfl rfl (by decide) (by decide) rfl Try.underlying24 (by kernel_rfl) (by kernel_rfl) ⟨oneCell_sl _, trivial⟩ (want_none rfl) ⟨(opd_dep 1 13 0 rfl rfl rfl rfl), trivial⟩ ?_
  -- 3 law.go:12 t15 := call { callee := Callee.value (func 13), args := #[tmp 12, tmp 14], argTypes := #[23, 24] }
  refine VWalk.call2 13 _ _ _ rfl (enters_of Try.func13 (by kernel_rfl) rfl) (want_none rfl) (opd_dep 0 12 2 rfl rfl rfl rfl) (opd_dep 2 14 0 rfl rfl rfl rfl) (c_feed (1, 0) [[5]]) ?_
  -- 4 law.go:12 t1 := alloc 23
  refine VWalk.alloc (z := pairV (0, 0)) 23 rfl (want_none rfl) (by kernel_rfl) ?_
  refine ⟨rfl, fun W1 hE1 => ?_⟩
  first | refine VFin.eq ?_ | refine VFin.any fun v1_0 hv1_0 => ?_
  refine VFin.any fun v1_1 hv1_1 => ?_
  refine VFin.any fun v1_2 hv1_2 => ?_
  first | refine VFin.eq ?_ | refine VFin.any fun v1_3 hv1_3 => ?_
  refine VFin.any fun v1_4 hv1_4 => ?_
  refine VFin.nil ?_
  simp only [Act.put, List.setIfInBounds_toArray, List.set_cons_zero, List.set_cons_succ]
  -- tail: store 23 (tmp 1) (tmp 15)

  obtain ⟨g1, rfl, hg1, hb1⟩ := hv1_4
  refine wpList_store_new rfl _ _ _ rfl rfl g1 _ rfl rfl _ _ hb1 (by kernel_rfl) rfl rfl ?_
  intro V1 hB1 _ hX1
  have hE1 := hX1 w hE1 hg1
  clear hX1 hb1 hv1_1 hv1_2
  go_upto_region 2 with (fail)
  -- teasel/teasellaw02.wakes, region 2: 12 operations, 10 ahead of the stores
  refine vregion 10 [8] (by kernel_rfl) (by kernel_rfl) (fun _ _ _ _ _ h => h) ?_
  -- 0 law.go:13 t17 := load 23 (tmp 1)
  refine VWalk.loadBox 23 _ rfl (want_none rfl) (opd_frame 1 rfl (by kernel_rfl)) Try.underlying23 rfl (by kernel_rfl) hB1 (ext_drew _) ?_
  -- 1 law.go:13 t18 := call { callee := Callee.value (func 21), args := #[], argTypes := #[] }
  refine VWalk.call0 21 _ rfl (enters_of Try.func21 (by kernel_rfl) rfl) (want_none rfl) c_new ?_
  -- 2 law.go:13 t19 := buildSlice 26 1 #[(0, const (Value.int IntKind.u8 7))]
  refine VWalk.lit (Fs := [_]) [Operand.const (Value.int IntKind.u8 7)] 26 5 1 _ rfl rfl (by decide) (by decide) rfl Try.underlying26 (by kernel_rfl) (by kernel_rfl) ⟨oneCell_eq rfl, trivial⟩ (want_none rfl) ⟨(opd_const _), trivial⟩ ?_
  -- 3 law.go:13 t20 := buildSlice 24 1 #[(0, tmp 19)]
  refine VWalk.lit (Fs := [_]) [Operand.tmp 19] 24 26 1 _ rfl rfl (by decide) (by decide) rfl Try.underlying24 (by kernel_rfl) (by kernel_rfl) ⟨oneCell_sl _, trivial⟩ (want_none rfl) ⟨(opd_dep 2 19 0 rfl rfl rfl rfl), trivial⟩ ?_
  -- 4 law.go:13 t21 := call { callee := Callee.value (func 13), args := #[tmp 18, tmp 20], argTypes := #[23, 24] }
  refine VWalk.call2 13 _ _ _ rfl (enters_of Try.func13 (by kernel_rfl) rfl) (want_none rfl) (opd_dep 1 18 2 rfl rfl rfl rfl) (opd_dep 3 20 0 rfl rfl rfl rfl) (c_feed (1, 0) [[7]]) ?_
  -- 5 law.go:13 t22 := call { callee := Callee.value (func 9), args := #[tmp 17, tmp 21, const (Value.int IntKind.i64 1)], argTypes := #[23, 23, 3] }
  refine VWalk.call3 9 _ _ _ _ rfl (enters_of Try.func9 (by kernel_rfl) rfl) (want_none rfl) (opd_dep 0 17 4 rfl rfl rfl rfl) (opd_dep 4 21 0 rfl rfl rfl rfl) (opd_const _) (c_join _ _ 1) ?_
  -- 6 law.go:13 t16 := move (tmp 22)
  refine VWalk.move _ rfl (want_none rfl) (opd_dep 5 22 0 rfl rfl rfl rfl) ?_
  -- 7 law.go:13 t23 := extract (tmp 16) 0
  refine VWalk.extract _ 0 rfl rfl (want_none rfl) (opd_dep 6 16 0 rfl rfl rfl rfl) ?_
  -- 8 law.go:13 t24 := extract (tmp 16) 1
  refine VWalk.extract _ 1 rfl rfl (want_none rfl) (opd_dep 6 16 1 rfl rfl rfl rfl) ?_
  -- 9 law.go:13 t2 := alloc 23
  refine VWalk.alloc (z := pairV (0, 0)) 23 rfl (want_none rfl) (by kernel_rfl) ?_
  refine ⟨rfl, fun W2 hE2 => ?_⟩
  refine VFin.eq ?_  -- 0
  first | refine VFin.eq ?_ | refine VFin.any fun v2_1 hv2_1 => ?_
  refine VFin.any fun v2_2 hv2_2 => ?_
  refine VFin.any fun v2_3 hv2_3 => ?_
  first | refine VFin.eq ?_ | refine VFin.any fun v2_4 hv2_4 => ?_
  first | refine VFin.eq ?_ | refine VFin.any fun v2_5 hv2_5 => ?_
  first | refine VFin.eq ?_ | refine VFin.any fun v2_6 hv2_6 => ?_
  first | refine VFin.eq ?_ | refine VFin.any fun v2_7 hv2_7 => ?_
  first | refine VFin.eq ?_ | refine VFin.any fun v2_8 hv2_8 => ?_
  refine VFin.any fun v2_9 hv2_9 => ?_
  refine VFin.nil ?_
  simp only [Act.put, List.setIfInBounds_toArray, List.set_cons_zero, List.set_cons_succ]
  -- tail: store 23 (tmp 2) (tmp 23); assign (tmp 24)

  obtain ⟨g2, rfl, hg2, hb2⟩ := hv2_9
  refine wpList_store_new rfl _ _ _ rfl rfl g2 _ rfl rfl _ _ hb2 (by kernel_rfl) rfl rfl ?_
  intro V2 hB2 _ hX2
  have hE2 := hX2 _ hE2 hg2
  clear hX2 hb2
  go_upto_region 3 with (fail)
  have hB1 := hB1.drew.ext hE2
  have hE := hE1.tr ((ext_drew _).tr hE2)
  clear hv2_2 hv2_3 hv2_5 hv2_6 hg2
  -- teasel/teasellaw02.wakes, region 3: 9 operations, 7 ahead of the stores (draws nothing)
  refine vregion0 7 [5] (by kernel_rfl) (fun _ _ _ _ _ h => h) ?_
  -- 0 law.go:14 t26 := load 23 (tmp 1)
  refine VWalk.loadBox 23 _ rfl (want_none rfl) (opd_frame 1 rfl (by kernel_rfl)) Try.underlying23 rfl (by kernel_rfl) hB1 (Ext.rf _) ?_
  -- 1 law.go:14 t27 := load 23 (tmp 1)
  refine VWalk.loadBox 23 _ rfl (want_none rfl) (opd_frame 1 rfl (by kernel_rfl)) Try.underlying23 rfl (by kernel_rfl) hB1 (Ext.rf _) ?_
  -- 2 law.go:14 t28 := call { callee := Callee.value (func 9), args := #[tmp 26, tmp 27, const (Value.int IntKind.i64 (-1))], argTypes := #[23, 23, 3] }
  refine VWalk.call3 9 _ _ _ _ rfl (enters_of Try.func9 (by kernel_rfl) rfl) (want_none rfl) (opd_dep 0 26 1 rfl rfl rfl rfl) (opd_dep 1 27 0 rfl rfl rfl rfl) (opd_const _) (c_join _ _ (-1)) ?_
  -- 3 law.go:14 t25 := move (tmp 28)
  refine VWalk.move _ rfl (want_none rfl) (opd_dep 2 28 0 rfl rfl rfl rfl) ?_
  -- 4 law.go:14 t29 := extract (tmp 25) 0
  refine VWalk.extract _ 0 rfl rfl (want_none rfl) (opd_dep 3 25 0 rfl rfl rfl rfl) ?_
  -- 5 law.go:14 t30 := extract (tmp 25) 1
  refine VWalk.extract _ 1 rfl rfl (want_none rfl) (opd_dep 3 25 1 rfl rfl rfl rfl) ?_
  -- 6 law.go:14 t4 := alloc 23
  refine VWalk.alloc (z := pairV (0, 0)) 23 rfl (want_none rfl) (by kernel_rfl) ?_
  refine ⟨rfl, fun W3 hE3 => ?_⟩
  refine VFin.eq ?_  -- 0
  refine VFin.eq ?_  -- 1
  first | refine VFin.eq ?_ | refine VFin.any fun v3_2 hv3_2 => ?_
  first | refine VFin.eq ?_ | refine VFin.any fun v3_3 hv3_3 => ?_
  first | refine VFin.eq ?_ | refine VFin.any fun v3_4 hv3_4 => ?_
  first | refine VFin.eq ?_ | refine VFin.any fun v3_5 hv3_5 => ?_
  refine VFin.any fun v3_6 hv3_6 => ?_
  refine VFin.nil ?_
  simp only [Act.put, List.setIfInBounds_toArray, List.set_cons_zero, List.set_cons_succ]
  -- tail: store 23 (tmp 4) (tmp 29); assign (tmp 30)

  obtain ⟨g3, rfl, hg3, hb3⟩ := hv3_6
  refine wpList_store_new rfl _ _ _ rfl rfl g3 _ rfl rfl _ _ hb3 (by kernel_rfl) rfl rfl ?_
  intro V3 _ _ hX3
  have hE3 := hX3 _ hE3 hg3
  clear hX3 hb3 hv3_2 hv3_3
  have hB1 := hB1.ext hE3
  have hB2 := hB2.ext hE3
  have hE := hE.tr hE3
  go_upto_region 4 with (fail)
  -- teasel/teasellaw02.wakes, region 4: 9 operations, 6 ahead of the stores (draws nothing)
  refine vregion0 6 [4, 5] (by kernel_rfl) (fun _ _ _ _ _ h => h) ?_
  -- 0 law.go:15 t32 := buildSlice 26 5 #[(0, const (Value.int IntKind.u8 1)), (1, const (Value.int IntKind.u8 2)), (2, const (Value.int IntKind.u8 3)), (3, const (Value.int IntKind.u8 4)), (4, const (Value.int IntKind.u8 9))]
  refine VWalk.lit (Fs := [_, _, _, _, _]) [Operand.const (Value.int IntKind.u8 1), Operand.const (Value.int IntKind.u8 2), Operand.const (Value.int IntKind.u8 3), Operand.const (Value.int IntKind.u8 4), Operand.const (Value.int IntKind.u8 9)] 26 5 5 _ rfl rfl (by decide) (by decide) rfl Try.underlying26 (by kernel_rfl) (by kernel_rfl) ⟨oneCell_eq rfl, oneCell_eq rfl, oneCell_eq rfl, oneCell_eq rfl, oneCell_eq rfl, trivial⟩ (want_none rfl) ⟨(opd_const _), (opd_const _), (opd_const _), (opd_const _), (opd_const _), trivial⟩ ?_
  -- 1 law.go:15 t33 := call { callee := Callee.value (func 11), args := #[tmp 32], argTypes := #[26] }
  refine VWalk.call1 11 _ _ rfl (enters_of Try.func11 (by kernel_rfl) rfl) (want_none rfl) (opd_dep 0 32 0 rfl rfl rfl rfl) (c_take [1, 2, 3, 4, 9] (by decide)) ?_
  -- 2 law.go:15 t31 := move (tmp 33)
  refine VWalk.move _ rfl (want_none rfl) (opd_dep 1 33 0 rfl rfl rfl rfl) ?_
  -- 3 law.go:15 t34 := extract (tmp 31) 0
  refine VWalk.extract _ 0 rfl rfl (want_none rfl) (opd_dep 2 31 0 rfl rfl rfl rfl) ?_
  -- 4 law.go:15 t35 := extract (tmp 31) 1
  refine VWalk.extract _ 1 rfl rfl (want_none rfl) (opd_dep 2 31 1 rfl rfl rfl rfl) ?_
  -- 5 law.go:15 t36 := extract (tmp 31) 2
  refine VWalk.extract _ 2 rfl rfl (want_none rfl) (opd_dep 2 31 2 rfl rfl rfl rfl) ?_
  refine ⟨rfl, fun W4 hE4 => ?_⟩
  refine VFin.any fun v4_0 hv4_0 => ?_
  first | refine VFin.eq ?_ | refine VFin.any fun v4_1 hv4_1 => ?_
  first | refine VFin.eq ?_ | refine VFin.any fun v4_2 hv4_2 => ?_
  first | refine VFin.eq ?_ | refine VFin.any fun v4_3 hv4_3 => ?_
  first | refine VFin.eq ?_ | refine VFin.any fun v4_4 hv4_4 => ?_
  first | refine VFin.eq ?_ | refine VFin.any fun v4_5 hv4_5 => ?_
  refine VFin.nil ?_
  simp only [Act.put, List.setIfInBounds_toArray, List.set_cons_zero, List.set_cons_succ]
  -- tail: assign (tmp 34); assign (tmp 35); assign (tmp 36)

  clear hv4_0 hv4_1 hv4_2
  have hB1 := hB1.ext hE4
  have hB2 := hB2.ext hE4
  have hE := hE.tr hE4
  go_upto_region 5 with (fail)
  -- teasel/teasellaw02.wakes, region 5: 9 operations, 6 ahead of the stores (draws nothing)
  refine vregion0 6 [4, 5] (by kernel_rfl) (fun _ _ _ _ _ h => h) ?_
  -- 0 law.go:16 t38 := buildSlice 26 3 #[(0, const (Value.int IntKind.u8 1)), (1, const (Value.int IntKind.u8 2)), (2, const (Value.int IntKind.u8 3))]
  refine VWalk.lit (Fs := [_, _, _]) [Operand.const (Value.int IntKind.u8 1), Operand.const (Value.int IntKind.u8 2), Operand.const (Value.int IntKind.u8 3)] 26 5 3 _ rfl rfl (by decide) (by decide) rfl Try.underlying26 (by kernel_rfl) (by kernel_rfl) ⟨oneCell_eq rfl, oneCell_eq rfl, oneCell_eq rfl, trivial⟩ (want_none rfl) ⟨(opd_const _), (opd_const _), (opd_const _), trivial⟩ ?_
  -- 1 law.go:16 t39 := call { callee := Callee.value (func 11), args := #[tmp 38], argTypes := #[26] }
  refine VWalk.call1 11 _ _ rfl (enters_of Try.func11 (by kernel_rfl) rfl) (want_none rfl) (opd_dep 0 38 0 rfl rfl rfl rfl) (c_take [1, 2, 3] (by decide)) ?_
  -- 2 law.go:16 t37 := move (tmp 39)
  refine VWalk.move _ rfl (want_none rfl) (opd_dep 1 39 0 rfl rfl rfl rfl) ?_
  -- 3 law.go:16 t40 := extract (tmp 37) 0
  refine VWalk.extract _ 0 rfl rfl (want_none rfl) (opd_dep 2 37 0 rfl rfl rfl rfl) ?_
  -- 4 law.go:16 t41 := extract (tmp 37) 1
  refine VWalk.extract _ 1 rfl rfl (want_none rfl) (opd_dep 2 37 1 rfl rfl rfl rfl) ?_
  -- 5 law.go:16 t42 := extract (tmp 37) 2
  refine VWalk.extract _ 2 rfl rfl (want_none rfl) (opd_dep 2 37 2 rfl rfl rfl rfl) ?_
  refine ⟨rfl, fun W5 hE5 => ?_⟩
  refine VFin.any fun v5_0 hv5_0 => ?_
  first | refine VFin.eq ?_ | refine VFin.any fun v5_1 hv5_1 => ?_
  first | refine VFin.eq ?_ | refine VFin.any fun v5_2 hv5_2 => ?_
  first | refine VFin.eq ?_ | refine VFin.any fun v5_3 hv5_3 => ?_
  first | refine VFin.eq ?_ | refine VFin.any fun v5_4 hv5_4 => ?_
  first | refine VFin.eq ?_ | refine VFin.any fun v5_5 hv5_5 => ?_
  refine VFin.nil ?_
  simp only [Act.put, List.setIfInBounds_toArray, List.set_cons_zero, List.set_cons_succ]
  -- tail: assign (tmp 40); assign (tmp 41); assign (tmp 42)

  clear hv5_0 hv5_1 hv5_2 hv5_4
  have hB1 := hB1.ext hE5
  have hB2 := hB2.ext hE5
  have hR := VP.st _ _ _ _ hv4_4 hE5
  have hE := hE.tr hE5
  go_upto_region 6 with (fail)
  -- teasel/teasellaw02.wakes, region 6: 66 operations, 65 ahead of the stores (draws nothing)
  refine law_end0 (by assumption) 65 [] 0 107 _ (by kernel_rfl) (fun _ _ _ _ _ h => h) rfl rfl rfl rfl rfl (by kernel_rfl) rfl 64 rfl rfl ?_
  -- 0 law.go:17 t43 := call { callee := Callee.value (func 17), args := #[const (Value.slice none 0 0)], argTypes := #[24] }
  refine VWalk.call1 17 _ _ rfl (enters_of Try.func17 (by kernel_rfl) rfl) (want_none rfl) opd_nils (c_of []) ?_
  -- 1 law.go:17 t44 := binOp BinOp.eql 25 (tmp 43) (const (Value.int IntKind.u32 1)) 25
  refine VWalk.eqT _ _ _ _ rfl (want_none rfl) (opd_dep 0 43 0 rfl rfl rfl rfl) (opd_const _) (by decide) ?_
  -- 2 law.go:17 t45 := move (tmp 44)
  refine VWalk.move _ rfl (want_none rfl) (opd_dep 1 44 0 rfl rfl rfl rfl) ?_
  -- 3 law.go:17 t46 := buildSlice 26 1 #[(0, const (Value.int IntKind.u8 5))] [guard 2 true]
  refine VWalk.lit (Fs := [_]) [Operand.const (Value.int IntKind.u8 5)] 26 5 1 _ rfl rfl (by decide) (by decide) rfl Try.underlying26 (by kernel_rfl) (by kernel_rfl) ⟨oneCell_eq rfl, trivial⟩ (want_tt 2 45 0 rfl (by kernel_rfl) rfl rfl rfl rfl) ⟨(opd_const _), trivial⟩ ?_
  -- 4 law.go:17 t47 := buildSlice 24 1 #[(0, tmp 46)] [guard 2 true]
  refine VWalk.lit (Fs := [_]) [Operand.tmp 46] 24 26 1 _ rfl rfl (by decide) (by decide) rfl Try.underlying24 (by kernel_rfl) (by kernel_rfl) ⟨oneCell_sl _, trivial⟩ (want_tt 2 45 1 rfl (by kernel_rfl) rfl rfl rfl rfl) ⟨(opd_dep 3 46 0 rfl rfl rfl rfl), trivial⟩ ?_
  -- 5 law.go:17 t48 := call { callee := Callee.value (func 17), args := #[tmp 47], argTypes := #[24] } [guard 2 true]
  refine VWalk.call1 17 _ _ rfl (enters_of Try.func17 (by kernel_rfl) rfl) (want_tt 2 45 2 rfl (by kernel_rfl) rfl rfl rfl rfl) (opd_dep 4 47 0 rfl rfl rfl rfl) (c_of [[5]]) ?_
  -- 6 law.go:17 t49 := binOp BinOp.eql 25 (tmp 48) (const (Value.int IntKind.u32 393222)) 25 [guard 2 true]
  refine VWalk.eqT _ _ _ _ rfl (want_tt 2 45 3 rfl (by kernel_rfl) rfl rfl rfl rfl) (opd_dep 5 48 0 rfl rfl rfl rfl) (opd_const _) (by decide) ?_
  -- 7 law.go:17 t50 := pick (tmp 45) (tmp 49) (const (Value.bool false))
  refine VWalk.pickT _ _ _ rfl (want_none rfl) (opd_dep 2 45 4 rfl rfl rfl rfl) (opd_dep 6 49 0 rfl rfl rfl rfl) ?_
  -- 8 law.go:17 t51 := move (tmp 50)
  refine VWalk.move _ rfl (want_none rfl) (opd_dep 7 50 0 rfl rfl rfl rfl) ?_
  -- 9 law.go:17 t52 := buildSlice 26 1 #[(0, const (Value.int IntKind.u8 5))] [guard 8 true]
  refine VWalk.lit (Fs := [_]) [Operand.const (Value.int IntKind.u8 5)] 26 5 1 _ rfl rfl (by decide) (by decide) rfl Try.underlying26 (by kernel_rfl) (by kernel_rfl) ⟨oneCell_eq rfl, trivial⟩ (want_tt 8 51 0 rfl (by kernel_rfl) rfl rfl rfl rfl) ⟨(opd_const _), trivial⟩ ?_
  -- 10 law.go:17 t53 := buildSlice 26 1 #[(0, const (Value.int IntKind.u8 7))] [guard 8 true]
  refine VWalk.lit (Fs := [_]) [Operand.const (Value.int IntKind.u8 7)] 26 5 1 _ rfl rfl (by decide) (by decide) rfl Try.underlying26 (by kernel_rfl) (by kernel_rfl) ⟨oneCell_eq rfl, trivial⟩ (want_tt 8 51 1 rfl (by kernel_rfl) rfl rfl rfl rfl) ⟨(opd_const _), trivial⟩ ?_
  -- 11 law.go:17 t54 := buildSlice 24 2 #[(0, tmp 52), (1, tmp 53)] [guard 8 true]
  refine VWalk.lit (Fs := [_, _]) [Operand.tmp 52, Operand.tmp 53] 24 26 2 _ rfl rfl (by decide) (by decide) rfl Try.underlying24 (by kernel_rfl) (by kernel_rfl) ⟨oneCell_sl _, oneCell_sl _, trivial⟩ (want_tt 8 51 2 rfl (by kernel_rfl) rfl rfl rfl rfl) ⟨(opd_dep 9 52 1 rfl rfl rfl rfl), (opd_dep 10 53 0 rfl rfl rfl rfl), trivial⟩ ?_
  -- 12 law.go:17 t55 := call { callee := Callee.value (func 17), args := #[tmp 54], argTypes := #[24] } [guard 8 true]
  refine VWalk.call1 17 _ _ rfl (enters_of Try.func17 (by kernel_rfl) rfl) (want_tt 8 51 3 rfl (by kernel_rfl) rfl rfl rfl rfl) (opd_dep 11 54 0 rfl rfl rfl rfl) (c_of [[5], [7]]) ?_
  -- 13 law.go:17 t56 := binOp BinOp.eql 25 (tmp 55) (const (Value.int IntKind.u32 1245197)) 25 [guard 8 true]
  refine VWalk.eqT _ _ _ _ rfl (want_tt 8 51 4 rfl (by kernel_rfl) rfl rfl rfl rfl) (opd_dep 12 55 0 rfl rfl rfl rfl) (opd_const _) (by decide) ?_
  -- 14 law.go:17 t57 := pick (tmp 51) (tmp 56) (const (Value.bool false))
  refine VWalk.pickT _ _ _ rfl (want_none rfl) (opd_dep 8 51 5 rfl rfl rfl rfl) (opd_dep 13 56 0 rfl rfl rfl rfl) ?_
  -- 15 law.go:17 t58 := move (tmp 57)
  refine VWalk.move _ rfl (want_none rfl) (opd_dep 14 57 0 rfl rfl rfl rfl) ?_
  -- 16 law.go:17 t59 := load 23 (tmp 1) [guard 15 true]
  refine VWalk.loadBox 23 _ rfl (want_tt 15 58 0 rfl (by kernel_rfl) rfl rfl rfl rfl) (opd_frame 1 rfl (by kernel_rfl)) Try.underlying23 rfl (by kernel_rfl) hB1 (Ext.rf _) ?_
  -- 17 law.go:17 t60 := call { callee := Callee.value (func 15), args := #[tmp 59], argTypes := #[23] } [guard 15 true]
  refine VWalk.call1 15 _ _ rfl (enters_of Try.func15 (by kernel_rfl) rfl) (want_tt 15 58 1 rfl (by kernel_rfl) rfl rfl rfl rfl) (opd_dep 16 59 0 rfl rfl rfl rfl) (c_value _) ?_
  -- 18 law.go:17 t61 := binOp BinOp.eql 25 (tmp 60) (const (Value.int IntKind.u32 393222)) 25 [guard 15 true]
  refine VWalk.eqT _ _ _ _ rfl (want_tt 15 58 2 rfl (by kernel_rfl) rfl rfl rfl rfl) (opd_dep 17 60 0 rfl rfl rfl rfl) (opd_const _) (by decide) ?_
  -- 19 law.go:17 t62 := pick (tmp 58) (tmp 61) (const (Value.bool false))
  refine VWalk.pickT _ _ _ rfl (want_none rfl) (opd_dep 15 58 3 rfl rfl rfl rfl) (opd_dep 18 61 0 rfl rfl rfl rfl) ?_
  -- 20 law.go:17 t63 := move (tmp 62)
  refine VWalk.move _ rfl (want_none rfl) (opd_dep 19 62 0 rfl rfl rfl rfl) ?_
  -- 21 law.go:17 t64 := move (tmp 3) [guard 20 true]
  refine VWalk.move _ rfl (want_tt 20 63 0 rfl (by kernel_rfl) rfl rfl rfl rfl) (opd_frame 3 rfl (by kernel_rfl)) ?_
  -- 22 law.go:17 t65 := binOp BinOp.eql 29 (tmp 64) (const (Value.int IntKind.i64 0)) 29 [guard 20 true]
  refine VWalk.eqT _ _ _ _ rfl (want_tt 20 63 1 rfl (by kernel_rfl) rfl rfl rfl rfl) (opd_dep 21 64 0 rfl rfl rfl rfl) (opd_const _) (by decide) ?_
  -- 23 law.go:17 t66 := pick (tmp 63) (tmp 65) (const (Value.bool false))
  refine VWalk.pickT _ _ _ rfl (want_none rfl) (opd_dep 20 63 2 rfl rfl rfl rfl) (opd_dep 22 65 0 rfl rfl rfl rfl) ?_
  -- 24 law.go:17 t67 := move (tmp 66)
  refine VWalk.move _ rfl (want_none rfl) (opd_dep 23 66 0 rfl rfl rfl rfl) ?_
  -- 25 law.go:17 t68 := load 23 (tmp 2) [guard 24 true]
  refine VWalk.loadBox 23 _ rfl (want_tt 24 67 0 rfl (by kernel_rfl) rfl rfl rfl rfl) (opd_frame 2 rfl (by kernel_rfl)) Try.underlying23 rfl (by kernel_rfl) hB2 (Ext.rf _) ?_
  -- 26 law.go:17 t69 := call { callee := Callee.value (func 15), args := #[tmp 68], argTypes := #[23] } [guard 24 true]
  refine VWalk.call1 15 _ _ rfl (enters_of Try.func15 (by kernel_rfl) rfl) (want_tt 24 67 1 rfl (by kernel_rfl) rfl rfl rfl rfl) (opd_dep 25 68 0 rfl rfl rfl rfl) (c_value _) ?_
  -- 27 law.go:17 t70 := binOp BinOp.eql 25 (tmp 69) (const (Value.int IntKind.u32 1245197)) 25 [guard 24 true]
  refine VWalk.eqT _ _ _ _ rfl (want_tt 24 67 2 rfl (by kernel_rfl) rfl rfl rfl rfl) (opd_dep 26 69 0 rfl rfl rfl rfl) (opd_const _) (by decide) ?_
  -- 28 law.go:17 t71 := pick (tmp 67) (tmp 70) (const (Value.bool false))
  refine VWalk.pickT _ _ _ rfl (want_none rfl) (opd_dep 24 67 3 rfl rfl rfl rfl) (opd_dep 27 70 0 rfl rfl rfl rfl) ?_
  -- 29 law.go:17 t72 := move (tmp 71)
  refine VWalk.move _ rfl (want_none rfl) (opd_dep 28 71 0 rfl rfl rfl rfl) ?_
  -- 30 law.go:17 t73 := move (tmp 5) [guard 29 true]
  refine VWalk.move _ rfl (want_tt 29 72 0 rfl (by kernel_rfl) rfl rfl rfl rfl) (opd_frame 5 rfl (by kernel_rfl)) ?_
  -- 31 law.go:17 t74 := binOp BinOp.eql 29 (tmp 73) (const (Value.int IntKind.i64 2)) 29 [guard 29 true]
  refine VWalk.eqT _ _ _ _ rfl (want_tt 29 72 1 rfl (by kernel_rfl) rfl rfl rfl rfl) (opd_dep 30 73 0 rfl rfl rfl rfl) (opd_const _) (by decide) ?_
  -- 32 law.go:17 t75 := pick (tmp 72) (tmp 74) (const (Value.bool false))
  refine VWalk.pickT _ _ _ rfl (want_none rfl) (opd_dep 29 72 2 rfl rfl rfl rfl) (opd_dep 31 74 0 rfl rfl rfl rfl) ?_
  -- 33 law.go:17 t76 := move (tmp 75)
  refine VWalk.move _ rfl (want_none rfl) (opd_dep 32 75 0 rfl rfl rfl rfl) ?_
  -- 34 law.go:17 t77 := move (tmp 8) [guard 33 true]
  refine VWalk.move _ rfl (want_tt 33 76 0 rfl (by kernel_rfl) rfl rfl rfl rfl) (opd_frame 8 rfl (by kernel_rfl)) ?_
  -- 35 law.go:17 t78 := binOp BinOp.eql 29 (tmp 77) (const (Value.int IntKind.i64 0)) 29 [guard 33 true]
  refine VWalk.eqT _ _ _ _ rfl (want_tt 33 76 1 rfl (by kernel_rfl) rfl rfl rfl rfl) (opd_dep 34 77 0 rfl rfl rfl rfl) (opd_const _) (by decide) ?_
  -- 36 law.go:17 t79 := pick (tmp 76) (tmp 78) (const (Value.bool false))
  refine VWalk.pickT _ _ _ rfl (want_none rfl) (opd_dep 33 76 2 rfl rfl rfl rfl) (opd_dep 35 78 0 rfl rfl rfl rfl) ?_
  -- 37 law.go:17 t80 := move (tmp 79)
  refine VWalk.move _ rfl (want_none rfl) (opd_dep 36 79 0 rfl rfl rfl rfl) ?_
  -- 38 law.go:17 t81 := move (tmp 6) [guard 37 true]
  refine VWalk.move _ rfl (want_tt 37 80 0 rfl (by kernel_rfl) rfl rfl rfl rfl) (opd_frame 6 rfl (by kernel_rfl)) ?_
  -- 39 law.go:17 t82 := binOp BinOp.eql 25 (tmp 81) (const (Value.int IntKind.u32 16909060)) 25 [guard 37 true]
  refine VWalk.eqT _ _ _ _ rfl (want_tt 37 80 1 rfl (by kernel_rfl) rfl rfl rfl rfl) (opd_dep 38 81 0 rfl rfl rfl rfl) (opd_const _) (by decide) ?_
  -- 40 law.go:17 t83 := pick (tmp 80) (tmp 82) (const (Value.bool false))
  refine VWalk.pickT _ _ _ rfl (want_none rfl) (opd_dep 37 80 2 rfl rfl rfl rfl) (opd_dep 39 82 0 rfl rfl rfl rfl) ?_
  -- 41 law.go:17 t84 := move (tmp 83)
  refine VWalk.move _ rfl (want_none rfl) (opd_dep 40 83 0 rfl rfl rfl rfl) ?_
  -- 42 law.go:17 t85 := move (tmp 7) [guard 41 true]
  refine VWalk.move _ rfl (want_tt 41 84 0 rfl (by kernel_rfl) rfl rfl rfl rfl) (opd_fr 7 rfl hR (Ext.rf _) (by kernel_rfl)) ?_
  -- 43 law.go:17 t86 := convert 26 9 (tmp 85) [guard 41 true]
  refine VWalk.string 26 9 5 _ rfl Try.underlying26 Try.underlying5 Try.underlying9 (want_tt 41 84 1 rfl (by kernel_rfl) rfl rfl rfl rfl) (opd_dep 42 85 0 rfl rfl rfl rfl) ?_
  -- 44 law.go:17 t87 := binOp BinOp.eql 9 (tmp 86) (const (Value.string { data := #[9] })) 9 [guard 41 true]
  refine VWalk.eqTs _ _ _ _ rfl (want_tt 41 84 2 rfl (by kernel_rfl) rfl rfl rfl rfl) (opd_dep 43 86 0 rfl rfl rfl rfl) (opd_const _) (by decide) ?_
  -- 45 law.go:17 t88 := pick (tmp 84) (tmp 87) (const (Value.bool false))
  refine VWalk.pickT _ _ _ rfl (want_none rfl) (opd_dep 41 84 3 rfl rfl rfl rfl) (opd_dep 44 87 0 rfl rfl rfl rfl) ?_
  -- 46 law.go:17 t89 := move (tmp 88)
  refine VWalk.move _ rfl (want_none rfl) (opd_dep 45 88 0 rfl rfl rfl rfl) ?_
  -- 47 law.go:17 t90 := move (tmp 11) [guard 46 true]
  refine VWalk.move _ rfl (want_tt 46 89 0 rfl (by kernel_rfl) rfl rfl rfl rfl) (opd_frame 11 rfl (by kernel_rfl)) ?_
  -- 48 law.go:17 t91 := binOp BinOp.eql 29 (tmp 90) (const (Value.int IntKind.i64 10)) 29 [guard 46 true]
  refine VWalk.eqT _ _ _ _ rfl (want_tt 46 89 1 rfl (by kernel_rfl) rfl rfl rfl rfl) (opd_dep 47 90 0 rfl rfl rfl rfl) (opd_const _) (by decide) ?_
  -- 49 law.go:17 t92 := pick (tmp 89) (tmp 91) (const (Value.bool false))
  refine VWalk.pickT _ _ _ rfl (want_none rfl) (opd_dep 46 89 2 rfl rfl rfl rfl) (opd_dep 48 91 0 rfl rfl rfl rfl) ?_
  -- 50 law.go:17 t93 := move (tmp 92)
  refine VWalk.move _ rfl (want_none rfl) (opd_dep 49 92 0 rfl rfl rfl rfl) ?_
  -- 51 law.go:17 t94 := move (tmp 6) [guard 50 true]
  refine VWalk.move _ rfl (want_tt 50 93 0 rfl (by kernel_rfl) rfl rfl rfl rfl) (opd_frame 6 rfl (by kernel_rfl)) ?_
  -- 52 law.go:17 t95 := call { callee := Callee.value (func 23), args := #[tmp 94], argTypes := #[25] } [guard 50 true]
  refine VWalk.call1 23 _ _ rfl (enters_of Try.func23 (by kernel_rfl) rfl) (want_tt 50 93 1 rfl (by kernel_rfl) rfl rfl rfl rfl) (opd_dep 51 94 0 rfl rfl rfl rfl) (c_put _ (by decide) (by decide)) ?_
  -- 53 law.go:17 t96 := convert 26 9 (tmp 95) [guard 50 true]
  refine VWalk.string 26 9 5 _ rfl Try.underlying26 Try.underlying5 Try.underlying9 (want_tt 50 93 2 rfl (by kernel_rfl) rfl rfl rfl rfl) (opd_dep 52 95 0 rfl rfl rfl rfl) ?_
  -- 54 law.go:17 t97 := binOp BinOp.eql 9 (tmp 96) (const (Value.string { data := #[1, 2, 3, 4] })) 9 [guard 50 true]
  refine VWalk.eqTs _ _ _ _ rfl (want_tt 50 93 3 rfl (by kernel_rfl) rfl rfl rfl rfl) (opd_dep 53 96 0 rfl rfl rfl rfl) (opd_const _) (by decide) ?_
  -- 55 law.go:17 t98 := pick (tmp 93) (tmp 97) (const (Value.bool false))
  refine VWalk.pickT _ _ _ rfl (want_none rfl) (opd_dep 50 93 4 rfl rfl rfl rfl) (opd_dep 54 97 0 rfl rfl rfl rfl) ?_
  -- 56 law.go:17 t99 := move (tmp 98)
  refine VWalk.move _ rfl (want_none rfl) (opd_dep 55 98 0 rfl rfl rfl rfl) ?_
  -- 57 law.go:17 t100 := load 23 (tmp 1) [guard 56 true]
  refine VWalk.loadBox 23 _ rfl (want_tt 56 99 0 rfl (by kernel_rfl) rfl rfl rfl rfl) (opd_frame 1 rfl (by kernel_rfl)) Try.underlying23 rfl (by kernel_rfl) hB1 (Ext.rf _) ?_
  -- 58 law.go:17 t101 := call { callee := Callee.value (func 19), args := #[tmp 100], argTypes := #[23] } [guard 56 true]
  refine VWalk.call1 19 _ _ rfl (enters_of Try.func19 (by kernel_rfl) rfl) (want_tt 56 99 1 rfl (by kernel_rfl) rfl rfl rfl rfl) (opd_dep 57 100 0 rfl rfl rfl rfl) (c_right _) ?_
  -- 59 law.go:17 t102 := pick (tmp 99) (tmp 101) (const (Value.bool false))
  refine VWalk.pickT _ _ _ rfl (want_none rfl) (opd_dep 56 99 2 rfl rfl rfl rfl) (opd_dep 58 101 0 rfl rfl rfl rfl) ?_
  -- 60 law.go:17 t103 := move (tmp 102)
  refine VWalk.move _ rfl (want_none rfl) (opd_dep 59 102 0 rfl rfl rfl rfl) ?_
  -- 61 law.go:17 t104 := build 23 #[(0, const (Value.int IntKind.i64 65521))] [guard 60 true]
  refine VWalk.det1 (r := pairV (65521, 0)) (Operand.const (Value.int IntKind.i64 65521)) (want_tt 60 103 0 rfl (by kernel_rfl) rfl rfl rfl rfl) (opd_const _) (fun ρ w hE h1 => by simp [execOp, h1, go_sem]; rfl) ?_
  -- 62 law.go:17 t105 := call { callee := Callee.value (func 19), args := #[tmp 104], argTypes := #[23] } [guard 60 true]
  refine VWalk.call1 19 _ _ rfl (enters_of Try.func19 (by kernel_rfl) rfl) (want_tt 60 103 1 rfl (by kernel_rfl) rfl rfl rfl rfl) (opd_dep 61 104 0 rfl rfl rfl rfl) (c_right (65521, 0)) ?_
  -- 63 law.go:17 t106 := unOp UnOp.not 4 (tmp 105) [guard 60 true]
  refine VWalk.notB _ _ rfl (want_tt 60 103 2 rfl (by kernel_rfl) rfl rfl rfl rfl) (opd_dep 62 105 0 rfl rfl rfl rfl) rfl ?_
  -- 64 law.go:17 t107 := pick (tmp 103) (tmp 106) (const (Value.bool false))
  refine VWalk.pickT _ _ _ rfl (want_none rfl) (opd_dep 60 103 3 rfl rfl rfl rfl) (opd_dep 63 106 0 rfl rfl rfl rfl) ?_
  refine ⟨rfl, rfl, rfl, fun W6 hE6 => ?_⟩

  exact Ret.mk (hE.tr hE6) rfl
end Go.Proofs.Yteiebmonbjcgnaa
