/- SumTells, walked. -/
import Derived.Test.YteiebmonbjcgnaaSumF
import Derived.Deep.Cut
namespace Go.Proofs.Yteiebmonbjcgnaa
open Go.RowKit Go.Shelf SumM

set_option maxRecDepth 100000 in
set_option maxHeartbeats 4000000 in
theorem sumTells_any (s t : Int × Int) (n : Int) (ps : List (List UInt8)) (x : Int) (hx0 : 0 ≤ x) (hx1 : x < 4294967296) (bs : List UInt8) (u v : Value) (w : World) (hP : VParts ps u w) (hB : VBytes bs v w) : Calls Try.prog 3 #[pairV s, pairV t, .int .i64 n, u, .int .u32 x, v] w (Ret w (VEq (.bool true))) := by
  obtain ⟨A, c, rfl, -⟩ := VBytes.form hB
  go_enter Try.func3, Try.ntmps3
  go_upto_region 1 with (fail)
  refine gen_world (fun W => Ext w W ∧ Box W w.heap.size 23 #[.int .i64 s.1, .int .i64 s.2] ∧ Box W (w.heap.size + 1) 23 #[.int .i64 t.1, .int .i64 t.2]) ⟨(ext_alloc _ _).tr (ext_alloc _ _), (Box.new _ _ _).alloc _, ?_⟩ ?_
  · have := Box.new (w.alloc (.cells (pairV s).cells 23)) 23 (pairV t).cells
    rwa [show (w.alloc (.cells (pairV s).cells 23)).heap.size = w.heap.size + 1 by simp] at this
  rintro W0 ⟨hE, hS, hT⟩
  have hP := VP.st _ _ _ _ hP hE
  have hB := VP.st _ _ _ _ hB hE
  go_wp2_with fail
  refine (great_any ps _ _ hP).mono ?_
  rintro e W1 ⟨v, rfl, hE1, rfl⟩
  have hP := VP.st _ _ _ _ hP hE1
  have hB := VP.st _ _ _ _ hB hE1
  have hS := hS.ext hE1
  have hT := hT.ext hE1
  have hE := hE.tr hE1
  clear hE1
  by_cases hg : greatB ps = true
  · rw [hg]
    go_upto_region 2 with (fail)
    -- teasel/teasellaw02.SumTells, region 2: 2 operations, 1 ahead of the stores (draws nothing)
    refine vregion0 1 [] (by kernel_rfl) (fun _ _ _ _ _ h => h) ?_
    -- 0 law.go:32 t30 := call { callee := Callee.value (func 8), args := #[], argTypes := #[] }
    refine VWalk.call0 8 _ rfl (enters_of Try.func8 (by kernel_rfl) rfl) (want_none rfl) c_wakes ?_
    refine ⟨rfl, fun W2 hE2 => ?_⟩
    first | refine VFin.eq ?_ | refine VFin.any fun v2_0 hv2_0 => ?_
    refine VFin.nil ?_
    simp only [Act.put, List.setIfInBounds_toArray, List.set_cons_zero, List.set_cons_succ]
    -- tail: assign (tmp 30)
    go_wp2
    go_ret
    exact Ret.mk (hE.tr hE2) rfl
  rw [show greatB ps = false by simpa using hg]
  by_cases hlen : (300 : Int) < bs.length
  · go_upto_region 2 with (fail)
    -- teasel/teasellaw02.SumTells, region 2: 2 operations, 1 ahead of the stores (draws nothing)
    refine vregion0 1 [] (by kernel_rfl) (fun _ _ _ _ _ h => h) ?_
    -- 0 law.go:32 t30 := call { callee := Callee.value (func 8), args := #[], argTypes := #[] }
    refine VWalk.call0 8 _ rfl (enters_of Try.func8 (by kernel_rfl) rfl) (want_none rfl) c_wakes ?_
    refine ⟨rfl, fun W2 hE2 => ?_⟩
    first | refine VFin.eq ?_ | refine VFin.any fun v2_0 hv2_0 => ?_
    refine VFin.nil ?_
    simp only [Act.put, List.setIfInBounds_toArray, List.set_cons_zero, List.set_cons_succ]
    -- tail: assign (tmp 30)
    go_wp2
    go_ret
    exact Ret.mk (hE.tr hE2) rfl
  have hle : bs.length ≤ 300 := by omega
  go_upto_region 3 with (fail)
  clear hg hlen
  -- teasel/teasellaw02.SumTells, region 3: 10 operations, 8 ahead of the stores (draws nothing)
  refine vregion0 8 [6] (by kernel_rfl) (fun _ _ _ _ _ h => h) ?_
  -- 0 law.go:34 t32 := load 23 (tmp 6)
  refine VWalk.loadBox 23 _ rfl (want_none rfl) (opd_frame 6 rfl (by kernel_rfl)) Try.underlying23 rfl (by kernel_rfl) hS (Ext.rf _) ?_
  -- 1 law.go:34 t33 := load 23 (tmp 7)
  refine VWalk.loadBox 23 _ rfl (want_none rfl) (opd_frame 7 rfl (by kernel_rfl)) Try.underlying23 rfl (by kernel_rfl) hT (Ext.rf _) ?_
  -- 2 law.go:34 t34 := move (tmp 2)
  refine VWalk.move _ rfl (want_none rfl) (opd_frame 2 rfl (by kernel_rfl)) ?_
  -- 3 law.go:34 t35 := call { callee := Callee.value (func 9), args := #[tmp 32, tmp 33, tmp 34], argTypes := #[23, 23, 3] }
  refine VWalk.call3 9 _ _ _ _ rfl (enters_of Try.func9 (by kernel_rfl) rfl) (want_none rfl) (opd_dep 0 32 2 rfl rfl rfl rfl) (opd_dep 1 33 1 rfl rfl rfl rfl) (opd_dep 2 34 0 rfl rfl rfl rfl) (c_join s t n) ?_
  -- 4 law.go:34 t31 := move (tmp 35)
  refine VWalk.move _ rfl (want_none rfl) (opd_dep 3 35 0 rfl rfl rfl rfl) ?_
  -- 5 law.go:34 t36 := extract (tmp 31) 0
  refine VWalk.extract _ 0 rfl rfl (want_none rfl) (opd_dep 4 31 0 rfl rfl rfl rfl) ?_
  -- 6 law.go:34 t37 := extract (tmp 31) 1
  refine VWalk.extract _ 1 rfl rfl (want_none rfl) (opd_dep 4 31 1 rfl rfl rfl rfl) ?_
  -- 7 law.go:34 t13 := alloc 23
  refine VWalk.alloc (z := pairV (0, 0)) 23 rfl (want_none rfl) (by kernel_rfl) ?_
  refine ⟨rfl, fun W3 hE3 => ?_⟩
  refine VFin.eq ?_  -- 0
  refine VFin.eq ?_  -- 1
  first | refine VFin.eq ?_ | refine VFin.any fun v3_2 hv3_2 => ?_
  first | refine VFin.eq ?_ | refine VFin.any fun v3_3 hv3_3 => ?_
  first | refine VFin.eq ?_ | refine VFin.any fun v3_4 hv3_4 => ?_
  first | refine VFin.eq ?_ | refine VFin.any fun v3_5 hv3_5 => ?_
  first | refine VFin.eq ?_ | refine VFin.any fun v3_6 hv3_6 => ?_
  refine VFin.any fun v3_7 hv3_7 => ?_
  refine VFin.nil ?_
  simp only [Act.put, List.setIfInBounds_toArray, List.set_cons_zero, List.set_cons_succ]
  -- tail: store 23 (tmp 13) (tmp 36); assign (tmp 37)
  obtain ⟨g3, rfl, hg, hb⟩ := hv3_7
  refine wpList_store_new rfl _ _ _ rfl rfl g3 _ rfl rfl _ _ hb (by kernel_rfl) rfl rfl ?_
  intro V3 hB3 _ hX
  have hE3 := hX _ hE3 hg
  have hB := VP.st _ _ _ _ hB hE3
  have hP := VP.st _ _ _ _ hP hE3
  have hS := hS.ext hE3
  have hT := hT.ext hE3
  have hE := hE.tr hE3
  clear hX hb hg
  go_upto_region 4 with (fail)
  -- teasel/teasellaw02.SumTells, region 4: 10 operations, 8 ahead of the stores (draws nothing)
  refine vregion0 8 [6] (by kernel_rfl) (fun _ _ _ _ _ h => h) ?_
  -- 0 law.go:35 t39 := load 23 (tmp 6)
  refine VWalk.loadBox 23 _ rfl (want_none rfl) (opd_frame 6 rfl (by kernel_rfl)) Try.underlying23 rfl (by kernel_rfl) hS (Ext.rf _) ?_
  -- 1 law.go:35 t40 := load 23 (tmp 7)
  refine VWalk.loadBox 23 _ rfl (want_none rfl) (opd_frame 7 rfl (by kernel_rfl)) Try.underlying23 rfl (by kernel_rfl) hT (Ext.rf _) ?_
  -- 2 law.go:35 t41 := move (tmp 2)
  refine VWalk.move _ rfl (want_none rfl) (opd_frame 2 rfl (by kernel_rfl)) ?_
  -- 3 law.go:35 t42 := call { callee := Callee.value (func 10), args := #[tmp 39, tmp 40, tmp 41], argTypes := #[23, 23, 3] }
  refine VWalk.call3 10 _ _ _ _ rfl (enters_of Try.func10 (by kernel_rfl) rfl) (want_none rfl) (opd_dep 0 39 2 rfl rfl rfl rfl) (opd_dep 1 40 1 rfl rfl rfl rfl) (opd_dep 2 41 0 rfl rfl rfl rfl) (c_rjoin s t n) ?_
  -- 4 law.go:35 t38 := move (tmp 42)
  refine VWalk.move _ rfl (want_none rfl) (opd_dep 3 42 0 rfl rfl rfl rfl) ?_
  -- 5 law.go:35 t43 := extract (tmp 38) 0
  refine VWalk.extract _ 0 rfl rfl (want_none rfl) (opd_dep 4 38 0 rfl rfl rfl rfl) ?_
  -- 6 law.go:35 t44 := extract (tmp 38) 1
  refine VWalk.extract _ 1 rfl rfl (want_none rfl) (opd_dep 4 38 1 rfl rfl rfl rfl) ?_
  -- 7 law.go:35 t15 := alloc 23
  refine VWalk.alloc (z := pairV (0, 0)) 23 rfl (want_none rfl) (by kernel_rfl) ?_
  refine ⟨rfl, fun W4 hE4 => ?_⟩
  refine VFin.eq ?_  -- 0
  refine VFin.eq ?_  -- 1
  first | refine VFin.eq ?_ | refine VFin.any fun v4_2 hv4_2 => ?_
  first | refine VFin.eq ?_ | refine VFin.any fun v4_3 hv4_3 => ?_
  first | refine VFin.eq ?_ | refine VFin.any fun v4_4 hv4_4 => ?_
  first | refine VFin.eq ?_ | refine VFin.any fun v4_5 hv4_5 => ?_
  first | refine VFin.eq ?_ | refine VFin.any fun v4_6 hv4_6 => ?_
  refine VFin.any fun v4_7 hv4_7 => ?_
  refine VFin.nil ?_
  simp only [Act.put, List.setIfInBounds_toArray, List.set_cons_zero, List.set_cons_succ]
  -- tail: store 23 (tmp 15) (tmp 43); assign (tmp 44)
  obtain ⟨g4, rfl, hg, hb⟩ := hv4_7
  refine wpList_store_new rfl _ _ _ rfl rfl g4 _ rfl rfl _ _ hb (by kernel_rfl) rfl rfl ?_
  intro V4 hB4 _ hX
  have hE4 := hX _ hE4 hg
  have hB := VP.st _ _ _ _ hB hE4
  have hP := VP.st _ _ _ _ hP hE4
  have hS := hS.ext hE4
  have hT := hT.ext hE4
  have hB3 := hB3.ext hE4
  have hE := hE.tr hE4
  clear hX hb hg
  go_upto_region 5 with (fail)
  -- teasel/teasellaw02.SumTells, region 5: 9 operations, 6 ahead of the stores (draws nothing)
  refine vregion0 6 [4, 5] (by kernel_rfl) (fun _ _ _ _ _ h => h) ?_
  -- 0 law.go:36 t46 := move (tmp 5)
  refine VWalk.move _ rfl (want_none rfl) (opd_fr 5 rfl hB (Ext.rf _) (by kernel_rfl)) ?_
  -- 1 law.go:36 t47 := call { callee := Callee.value (func 11), args := #[tmp 46], argTypes := #[26] }
  refine VWalk.call1 11 _ _ rfl (enters_of Try.func11 (by kernel_rfl) rfl) (want_none rfl) (opd_dep 0 46 0 rfl rfl rfl rfl) (c_take bs (by omega)) ?_
  -- 2 law.go:36 t45 := move (tmp 47)
  refine VWalk.move _ rfl (want_none rfl) (opd_dep 1 47 0 rfl rfl rfl rfl) ?_
  -- 3 law.go:36 t48 := extract (tmp 45) 0
  refine VWalk.extract _ 0 rfl rfl (want_none rfl) (opd_dep 2 45 0 rfl rfl rfl rfl) ?_
  -- 4 law.go:36 t49 := extract (tmp 45) 1
  refine VWalk.extract _ 1 rfl rfl (want_none rfl) (opd_dep 2 45 1 rfl rfl rfl rfl) ?_
  -- 5 law.go:36 t50 := extract (tmp 45) 2
  refine VWalk.extract _ 2 rfl rfl (want_none rfl) (opd_dep 2 45 2 rfl rfl rfl rfl) ?_
  refine ⟨rfl, fun W5 hE5 => ?_⟩
  first | refine VFin.eq ?_ | refine VFin.any fun v5_0 hv5_0 => ?_
  first | refine VFin.eq ?_ | refine VFin.any fun v5_1 hv5_1 => ?_
  first | refine VFin.eq ?_ | refine VFin.any fun v5_2 hv5_2 => ?_
  first | refine VFin.eq ?_ | refine VFin.any fun v5_3 hv5_3 => ?_
  first | refine VFin.eq ?_ | refine VFin.any fun v5_4 hv5_4 => ?_
  first | refine VFin.eq ?_ | refine VFin.any fun v5_5 hv5_5 => ?_
  refine VFin.nil ?_
  simp only [Act.put, List.setIfInBounds_toArray, List.set_cons_zero, List.set_cons_succ]
  -- tail: assign (tmp 48); assign (tmp 49); assign (tmp 50)
  have hB := VP.st _ _ _ _ hB hE5
  have hP := VP.st _ _ _ _ hP hE5
  have hS := hS.ext hE5
  have hB3 := hB3.ext hE5
  have hB4 := hB4.ext hE5
  have hE := hE.tr hE5
  go_upto_region 6 with (fail)
  -- teasel/teasellaw02.SumTells, region 6: 9 operations, 6 ahead of the stores (draws nothing)
  refine vregion0 6 [4, 5] (by kernel_rfl) (fun _ _ _ _ _ h => h) ?_
  -- 0 law.go:37 t52 := move (tmp 5)
  refine VWalk.move _ rfl (want_none rfl) (opd_fr 5 rfl hB (Ext.rf _) (by kernel_rfl)) ?_
  -- 1 law.go:37 t53 := call { callee := Callee.value (func 12), args := #[tmp 52], argTypes := #[26] }
  refine VWalk.call1 12 _ _ rfl (enters_of Try.func12 (by kernel_rfl) rfl) (want_none rfl) (opd_dep 0 52 0 rfl rfl rfl rfl) (c_rtake bs (by omega)) ?_
  -- 2 law.go:37 t51 := move (tmp 53)
  refine VWalk.move _ rfl (want_none rfl) (opd_dep 1 53 0 rfl rfl rfl rfl) ?_
  -- 3 law.go:37 t54 := extract (tmp 51) 0
  refine VWalk.extract _ 0 rfl rfl (want_none rfl) (opd_dep 2 51 0 rfl rfl rfl rfl) ?_
  -- 4 law.go:37 t55 := extract (tmp 51) 1
  refine VWalk.extract _ 1 rfl rfl (want_none rfl) (opd_dep 2 51 1 rfl rfl rfl rfl) ?_
  -- 5 law.go:37 t56 := extract (tmp 51) 2
  refine VWalk.extract _ 2 rfl rfl (want_none rfl) (opd_dep 2 51 2 rfl rfl rfl rfl) ?_
  refine ⟨rfl, fun W6 hE6 => ?_⟩
  first | refine VFin.eq ?_ | refine VFin.any fun v6_0 hv6_0 => ?_
  first | refine VFin.eq ?_ | refine VFin.any fun v6_1 hv6_1 => ?_
  first | refine VFin.eq ?_ | refine VFin.any fun v6_2 hv6_2 => ?_
  first | refine VFin.eq ?_ | refine VFin.any fun v6_3 hv6_3 => ?_
  first | refine VFin.eq ?_ | refine VFin.any fun v6_4 hv6_4 => ?_
  first | refine VFin.eq ?_ | refine VFin.any fun v6_5 hv6_5 => ?_
  refine VFin.nil ?_
  simp only [Act.put, List.setIfInBounds_toArray, List.set_cons_zero, List.set_cons_succ]
  -- tail: assign (tmp 54); assign (tmp 55); assign (tmp 56)
  have hB := VP.st _ _ _ _ hB hE6
  have hP := VP.st _ _ _ _ hP hE6
  have hS := hS.ext hE6
  have hB3 := hB3.ext hE6
  have hB4 := hB4.ext hE6
  have hE := hE.tr hE6
  have hR := VP.st _ _ _ _ hv5_4 hE6
  have hU := hv6_4
  go_upto_region 7 with (fail)
  -- teasel/teasellaw02.SumTells, region 7: 25 operations, 25 ahead of the stores (draws nothing)
  refine vregion0 25 [] (by kernel_rfl) (fun _ _ _ _ _ h => h) ?_
  -- 0 law.go:38 t57 := load 23 (tmp 13)
  refine VWalk.loadBox 23 _ rfl (want_none rfl) (opd_frame 13 rfl (by kernel_rfl)) Try.underlying23 rfl (by kernel_rfl) hB3 (Ext.rf _) ?_
  -- 1 law.go:38 t58 := load 23 (tmp 15)
  refine VWalk.loadBox 23 _ rfl (want_none rfl) (opd_frame 15 rfl (by kernel_rfl)) Try.underlying23 rfl (by kernel_rfl) hB4 (Ext.rf _) ?_
  -- 2 law.go:38 t59 := binOp BinOp.neq 23 (tmp 57) (tmp 58) 23
  refine VWalk.neS _ _ _ _ rfl rfl (want_none rfl) (opd_dep 0 57 1 rfl rfl rfl rfl) (opd_dep 1 58 0 rfl rfl rfl rfl) rfl ?_
  -- 3 law.go:38 t60 := move (tmp 59)
  refine VWalk.move _ rfl (want_none rfl) (opd_dep 2 59 0 rfl rfl rfl rfl) ?_
  -- 4 law.go:38 t61 := move (tmp 14) [guard 3 false]
  refine VWalk.move _ rfl (want_ff 3 60 0 rfl (by kernel_rfl) rfl rfl rfl rfl) (opd_frame 14 rfl (by kernel_rfl)) ?_
  -- 5 law.go:38 t62 := move (tmp 16) [guard 3 false]
  refine VWalk.move _ rfl (want_ff 3 60 1 rfl (by kernel_rfl) rfl rfl rfl rfl) (opd_frame 16 rfl (by kernel_rfl)) ?_
  -- 6 law.go:38 t63 := binOp BinOp.neq 29 (tmp 61) (tmp 62) 29 [guard 3 false]
  refine VWalk.neT _ _ _ _ rfl (want_ff 3 60 2 rfl (by kernel_rfl) rfl rfl rfl rfl) (opd_dep 4 61 1 rfl rfl rfl rfl) (opd_dep 5 62 0 rfl rfl rfl rfl) rfl ?_
  -- 7 law.go:38 t64 := pick (tmp 60) (const (Value.bool true)) (tmp 63)
  refine VWalk.pickF _ _ _ rfl (want_none rfl) (opd_dep 3 60 3 rfl rfl rfl rfl) (opd_dep 6 63 0 rfl rfl rfl rfl) ?_
  -- 8 law.go:38 t65 := move (tmp 64)
  refine VWalk.move _ rfl (want_none rfl) (opd_dep 7 64 0 rfl rfl rfl rfl) ?_
  -- 9 law.go:38 t66 := move (tmp 17) [guard 8 false]
  refine VWalk.move _ rfl (want_ff 8 65 0 rfl (by kernel_rfl) rfl rfl rfl rfl) (opd_frame 17 rfl (by kernel_rfl)) ?_
  -- 10 law.go:38 t67 := move (tmp 20) [guard 8 false]
  refine VWalk.move _ rfl (want_ff 8 65 1 rfl (by kernel_rfl) rfl rfl rfl rfl) (opd_frame 20 rfl (by kernel_rfl)) ?_
  -- 11 law.go:38 t68 := binOp BinOp.neq 25 (tmp 66) (tmp 67) 25 [guard 8 false]
  refine VWalk.neT _ _ _ _ rfl (want_ff 8 65 2 rfl (by kernel_rfl) rfl rfl rfl rfl) (opd_dep 9 66 1 rfl rfl rfl rfl) (opd_dep 10 67 0 rfl rfl rfl rfl) rfl ?_
  -- 12 law.go:38 t69 := pick (tmp 65) (const (Value.bool true)) (tmp 68)
  refine VWalk.pickF _ _ _ rfl (want_none rfl) (opd_dep 8 65 3 rfl rfl rfl rfl) (opd_dep 11 68 0 rfl rfl rfl rfl) ?_
  -- 13 law.go:38 t70 := move (tmp 69)
  refine VWalk.move _ rfl (want_none rfl) (opd_dep 12 69 0 rfl rfl rfl rfl) ?_
  -- 14 law.go:38 t71 := move (tmp 18) [guard 13 false]
  refine VWalk.move _ rfl (want_ff 13 70 0 rfl (by kernel_rfl) rfl rfl rfl rfl) (opd_fr 18 rfl hR (Ext.rf _) (by kernel_rfl)) ?_
  -- 15 law.go:38 t72 := convert 26 9 (tmp 71) [guard 13 false]
  refine VWalk.string 26 9 5 _ rfl Try.underlying26 Try.underlying5 Try.underlying9 (want_ff 13 70 1 rfl (by kernel_rfl) rfl rfl rfl rfl) (opd_dep 14 71 0 rfl rfl rfl rfl) ?_
  -- 16 law.go:38 t73 := move (tmp 21) [guard 13 false]
  refine VWalk.move _ rfl (want_ff 13 70 2 rfl (by kernel_rfl) rfl rfl rfl rfl) (opd_fr 21 rfl hU (Ext.rf _) (by kernel_rfl)) ?_
  -- 17 law.go:38 t74 := convert 26 9 (tmp 73) [guard 13 false]
  refine VWalk.string 26 9 5 _ rfl Try.underlying26 Try.underlying5 Try.underlying9 (want_ff 13 70 3 rfl (by kernel_rfl) rfl rfl rfl rfl) (opd_dep 16 73 0 rfl rfl rfl rfl) ?_
  -- 18 law.go:38 t75 := binOp BinOp.neq 9 (tmp 72) (tmp 74) 9 [guard 13 false]
  refine VWalk.neTs _ _ _ _ rfl (want_ff 13 70 4 rfl (by kernel_rfl) rfl rfl rfl rfl) (opd_dep 15 72 2 rfl rfl rfl rfl) (opd_dep 17 74 0 rfl rfl rfl rfl) rfl ?_
  -- 19 law.go:38 t76 := pick (tmp 70) (const (Value.bool true)) (tmp 75)
  refine VWalk.pickF _ _ _ rfl (want_none rfl) (opd_dep 13 70 5 rfl rfl rfl rfl) (opd_dep 18 75 0 rfl rfl rfl rfl) ?_
  -- 20 law.go:38 t77 := move (tmp 76)
  refine VWalk.move _ rfl (want_none rfl) (opd_dep 19 76 0 rfl rfl rfl rfl) ?_
  -- 21 law.go:38 t78 := move (tmp 19) [guard 20 false]
  refine VWalk.move _ rfl (want_ff 20 77 0 rfl (by kernel_rfl) rfl rfl rfl rfl) (opd_frame 19 rfl (by kernel_rfl)) ?_
  -- 22 law.go:38 t79 := move (tmp 22) [guard 20 false]
  refine VWalk.move _ rfl (want_ff 20 77 1 rfl (by kernel_rfl) rfl rfl rfl rfl) (opd_frame 22 rfl (by kernel_rfl)) ?_
  -- 23 law.go:38 t80 := binOp BinOp.neq 29 (tmp 78) (tmp 79) 29 [guard 20 false]
  refine VWalk.neT _ _ _ _ rfl (want_ff 20 77 2 rfl (by kernel_rfl) rfl rfl rfl rfl) (opd_dep 21 78 1 rfl rfl rfl rfl) (opd_dep 22 79 0 rfl rfl rfl rfl) rfl ?_
  -- 24 law.go:38 t81 := pick (tmp 77) (const (Value.bool true)) (tmp 80)
  refine VWalk.pickF _ _ _ rfl (want_none rfl) (opd_dep 20 77 3 rfl rfl rfl rfl) (opd_dep 23 80 0 rfl rfl rfl rfl) ?_
  refine ⟨rfl, fun W7 hE7 => ?_⟩
  refine VFin.eq ?_  -- 0
  refine VFin.eq ?_  -- 1
  refine VFin.eq ?_  -- 2
  first | refine VFin.eq ?_ | refine VFin.any fun v7_3 hv7_3 => ?_
  first | refine VFin.eq ?_ | refine VFin.any fun v7_4 hv7_4 => ?_
  first | refine VFin.eq ?_ | refine VFin.any fun v7_5 hv7_5 => ?_
  refine VFin.eq ?_  -- 6
  first | refine VFin.eq ?_ | refine VFin.any fun v7_7 hv7_7 => ?_
  first | refine VFin.eq ?_ | refine VFin.any fun v7_8 hv7_8 => ?_
  first | refine VFin.eq ?_ | refine VFin.any fun v7_9 hv7_9 => ?_
  first | refine VFin.eq ?_ | refine VFin.any fun v7_10 hv7_10 => ?_
  refine VFin.eq ?_  -- 11
  first | refine VFin.eq ?_ | refine VFin.any fun v7_12 hv7_12 => ?_
  first | refine VFin.eq ?_ | refine VFin.any fun v7_13 hv7_13 => ?_
  first | refine VFin.eq ?_ | refine VFin.any fun v7_14 hv7_14 => ?_
  refine VFin.eq ?_  -- 15
  first | refine VFin.eq ?_ | refine VFin.any fun v7_16 hv7_16 => ?_
  refine VFin.eq ?_  -- 17
  refine VFin.eq ?_  -- 18
  first | refine VFin.eq ?_ | refine VFin.any fun v7_19 hv7_19 => ?_
  first | refine VFin.eq ?_ | refine VFin.any fun v7_20 hv7_20 => ?_
  first | refine VFin.eq ?_ | refine VFin.any fun v7_21 hv7_21 => ?_
  first | refine VFin.eq ?_ | refine VFin.any fun v7_22 hv7_22 => ?_
  refine VFin.eq ?_  -- 23
  first | refine VFin.eq ?_ | refine VFin.any fun v7_24 hv7_24 => ?_
  refine VFin.nil ?_
  simp only [Act.put, List.setIfInBounds_toArray, List.set_cons_zero, List.set_cons_succ]
  -- tail: 
  have hB := VP.st _ _ _ _ hB hE7
  have hP := VP.st _ _ _ _ hP hE7
  have hS := hS.ext hE7
  have hB3 := hB3.ext hE7
  have hB4 := hB4.ext hE7
  have hE := hE.tr hE7
  go_upto_region 9 with (fail)
  -- teasel/teasellaw02.SumTells, region 9: 46 operations, 45 ahead of the stores
  refine law_end (by assumption) 45 [] 12 126 _ (by kernel_rfl) (by kernel_rfl) (fun _ _ _ _ _ h => h) rfl rfl rfl rfl rfl (by kernel_rfl) rfl 44 rfl rfl ?_
  -- 0 law.go:41 t82 := load 23 (tmp 6)
  refine VWalk.loadBox 23 _ rfl (want_none rfl) (opd_frame 6 rfl (by kernel_rfl)) Try.underlying23 rfl (by kernel_rfl) hS (ext_drew _) ?_
  -- 1 law.go:41 t83 := move (tmp 3)
  refine VWalk.move _ rfl (want_none rfl) (opd_fr 3 rfl hP (ext_drew _) (by kernel_rfl)) ?_
  -- 2 law.go:41 t84 := call { callee := Callee.value (func 13), args := #[tmp 82, tmp 83], argTypes := #[23, 24] }
  refine VWalk.call2 13 _ _ _ rfl (enters_of Try.func13 (by kernel_rfl) rfl) (want_none rfl) (opd_dep 0 82 1 rfl rfl rfl rfl) (opd_dep 1 83 0 rfl rfl rfl rfl) (c_feed s ps) ?_
  -- 3 law.go:41 t85 := load 23 (tmp 6)
  refine VWalk.loadBox 23 _ rfl (want_none rfl) (opd_frame 6 rfl (by kernel_rfl)) Try.underlying23 rfl (by kernel_rfl) hS (ext_drew _) ?_
  -- 4 law.go:41 t86 := move (tmp 3)
  refine VWalk.move _ rfl (want_none rfl) (opd_fr 3 rfl hP (ext_drew _) (by kernel_rfl)) ?_
  -- 5 law.go:41 t87 := call { callee := Callee.value (func 14), args := #[tmp 85, tmp 86], argTypes := #[23, 24] }
  refine VWalk.call2 14 _ _ _ rfl (enters_of Try.func14 (by kernel_rfl) rfl) (want_none rfl) (opd_dep 3 85 1 rfl rfl rfl rfl) (opd_dep 4 86 0 rfl rfl rfl rfl) (c_rfeed s ps) ?_
  -- 6 law.go:41 t88 := binOp BinOp.eql 23 (tmp 84) (tmp 87) 23
  refine VWalk.eqS _ _ _ _ rfl rfl (want_none rfl) (opd_dep 2 84 3 rfl rfl rfl rfl) (opd_dep 5 87 0 rfl rfl rfl rfl) rfl ?_
  -- 7 law.go:41 t89 := move (tmp 88)
  refine VWalk.move _ rfl (want_none rfl) (opd_dep 6 88 0 rfl rfl rfl rfl) ?_
  -- 8 law.go:41 t90 := load 23 (tmp 6) [guard 7 true]
  refine VWalk.loadBox 23 _ rfl (want_tt 7 89 0 rfl (by kernel_rfl) rfl rfl rfl rfl) (opd_frame 6 rfl (by kernel_rfl)) Try.underlying23 rfl (by kernel_rfl) hS (ext_drew _) ?_
  -- 9 law.go:41 t91 := call { callee := Callee.value (func 15), args := #[tmp 90], argTypes := #[23] } [guard 7 true]
  refine VWalk.call1 15 _ _ rfl (enters_of Try.func15 (by kernel_rfl) rfl) (want_tt 7 89 1 rfl (by kernel_rfl) rfl rfl rfl rfl) (opd_dep 8 90 0 rfl rfl rfl rfl) (c_value _) ?_
  -- 10 law.go:41 t92 := load 23 (tmp 6) [guard 7 true]
  refine VWalk.loadBox 23 _ rfl (want_tt 7 89 2 rfl (by kernel_rfl) rfl rfl rfl rfl) (opd_frame 6 rfl (by kernel_rfl)) Try.underlying23 rfl (by kernel_rfl) hS (ext_drew _) ?_
  -- 11 law.go:41 t93 := call { callee := Callee.value (func 16), args := #[tmp 92], argTypes := #[23] } [guard 7 true]
  refine VWalk.call1 16 _ _ rfl (enters_of Try.func16 (by kernel_rfl) rfl) (want_tt 7 89 3 rfl (by kernel_rfl) rfl rfl rfl rfl) (opd_dep 10 92 0 rfl rfl rfl rfl) (c_rvalue _) ?_
  -- 12 law.go:41 t94 := binOp BinOp.eql 25 (tmp 91) (tmp 93) 25 [guard 7 true]
  refine VWalk.eqT _ _ _ _ rfl (want_tt 7 89 4 rfl (by kernel_rfl) rfl rfl rfl rfl) (opd_dep 9 91 2 rfl rfl rfl rfl) (opd_dep 11 93 0 rfl rfl rfl rfl) rfl ?_
  -- 13 law.go:41 t95 := pick (tmp 89) (tmp 94) (const (Value.bool false))
  refine VWalk.pickT _ _ _ rfl (want_none rfl) (opd_dep 7 89 5 rfl rfl rfl rfl) (opd_dep 12 94 0 rfl rfl rfl rfl) ?_
  -- 14 law.go:41 t96 := move (tmp 95)
  refine VWalk.move _ rfl (want_none rfl) (opd_dep 13 95 0 rfl rfl rfl rfl) ?_
  -- 15 law.go:41 t97 := move (tmp 3) [guard 14 true]
  refine VWalk.move _ rfl (want_tt 14 96 0 rfl (by kernel_rfl) rfl rfl rfl rfl) (opd_fr 3 rfl hP (ext_drew _) (by kernel_rfl)) ?_
  -- 16 law.go:41 t98 := call { callee := Callee.value (func 17), args := #[tmp 97], argTypes := #[24] } [guard 14 true]
  refine VWalk.call1 17 _ _ rfl (enters_of Try.func17 (by kernel_rfl) rfl) (want_tt 14 96 1 rfl (by kernel_rfl) rfl rfl rfl rfl) (opd_dep 15 97 0 rfl rfl rfl rfl) (c_of ps) ?_
  -- 17 law.go:41 t99 := move (tmp 3) [guard 14 true]
  refine VWalk.move _ rfl (want_tt 14 96 2 rfl (by kernel_rfl) rfl rfl rfl rfl) (opd_fr 3 rfl hP (ext_drew _) (by kernel_rfl)) ?_
  -- 18 law.go:41 t100 := call { callee := Callee.value (func 18), args := #[tmp 99], argTypes := #[24] } [guard 14 true]
  refine VWalk.call1 18 _ _ rfl (enters_of Try.func18 (by kernel_rfl) rfl) (want_tt 14 96 3 rfl (by kernel_rfl) rfl rfl rfl rfl) (opd_dep 17 99 0 rfl rfl rfl rfl) (c_rof ps) ?_
  -- 19 law.go:41 t101 := binOp BinOp.eql 25 (tmp 98) (tmp 100) 25 [guard 14 true]
  refine VWalk.eqT _ _ _ _ rfl (want_tt 14 96 4 rfl (by kernel_rfl) rfl rfl rfl rfl) (opd_dep 16 98 2 rfl rfl rfl rfl) (opd_dep 18 100 0 rfl rfl rfl rfl) rfl ?_
  -- 20 law.go:41 t102 := pick (tmp 96) (tmp 101) (const (Value.bool false))
  refine VWalk.pickT _ _ _ rfl (want_none rfl) (opd_dep 14 96 5 rfl rfl rfl rfl) (opd_dep 19 101 0 rfl rfl rfl rfl) ?_
  -- 21 law.go:41 t103 := move (tmp 102)
  refine VWalk.move _ rfl (want_none rfl) (opd_dep 20 102 0 rfl rfl rfl rfl) ?_
  -- 22 law.go:41 t104 := load 23 (tmp 6) [guard 21 true]
  refine VWalk.loadBox 23 _ rfl (want_tt 21 103 0 rfl (by kernel_rfl) rfl rfl rfl rfl) (opd_frame 6 rfl (by kernel_rfl)) Try.underlying23 rfl (by kernel_rfl) hS (ext_drew _) ?_
  -- 23 law.go:41 t105 := call { callee := Callee.value (func 19), args := #[tmp 104], argTypes := #[23] } [guard 21 true]
  refine VWalk.call1 19 _ _ rfl (enters_of Try.func19 (by kernel_rfl) rfl) (want_tt 21 103 1 rfl (by kernel_rfl) rfl rfl rfl rfl) (opd_dep 22 104 0 rfl rfl rfl rfl) (c_right s) ?_
  -- 24 law.go:41 t106 := load 23 (tmp 6) [guard 21 true]
  refine VWalk.loadBox 23 _ rfl (want_tt 21 103 2 rfl (by kernel_rfl) rfl rfl rfl rfl) (opd_frame 6 rfl (by kernel_rfl)) Try.underlying23 rfl (by kernel_rfl) hS (ext_drew _) ?_
  -- 25 law.go:41 t107 := call { callee := Callee.value (func 20), args := #[tmp 106], argTypes := #[23] } [guard 21 true]
  refine VWalk.call1 20 _ _ rfl (enters_of Try.func20 (by kernel_rfl) rfl) (want_tt 21 103 3 rfl (by kernel_rfl) rfl rfl rfl rfl) (opd_dep 24 106 0 rfl rfl rfl rfl) (c_rright s) ?_
  -- 26 law.go:41 t108 := binOp BinOp.eql 4 (tmp 105) (tmp 107) 4 [guard 21 true]
  refine VWalk.eqTb _ _ _ _ rfl (want_tt 21 103 4 rfl (by kernel_rfl) rfl rfl rfl rfl) (opd_dep 23 105 2 rfl rfl rfl rfl) (opd_dep 25 107 0 rfl rfl rfl rfl) Try.underlying4 rfl ?_
  -- 27 law.go:41 t109 := pick (tmp 103) (tmp 108) (const (Value.bool false))
  refine VWalk.pickT _ _ _ rfl (want_none rfl) (opd_dep 21 103 5 rfl rfl rfl rfl) (opd_dep 26 108 0 rfl rfl rfl rfl) ?_
  -- 28 law.go:41 t110 := move (tmp 109)
  refine VWalk.move _ rfl (want_none rfl) (opd_dep 27 109 0 rfl rfl rfl rfl) ?_
  -- 29 law.go:41 t111 := call { callee := Callee.value (func 21), args := #[], argTypes := #[] } [guard 28 true]
  refine VWalk.call0 21 _ rfl (enters_of Try.func21 (by kernel_rfl) rfl) (want_tt 28 110 0 rfl (by kernel_rfl) rfl rfl rfl rfl) c_new ?_
  -- 30 law.go:41 t112 := call { callee := Callee.value (func 22), args := #[], argTypes := #[] } [guard 28 true]
  refine VWalk.call0 22 _ rfl (enters_of Try.func22 (by kernel_rfl) rfl) (want_tt 28 110 1 rfl (by kernel_rfl) rfl rfl rfl rfl) c_rnew ?_
  -- 31 law.go:41 t113 := binOp BinOp.eql 23 (tmp 111) (tmp 112) 23 [guard 28 true]
  refine VWalk.eqS _ _ _ _ rfl rfl (want_tt 28 110 2 rfl (by kernel_rfl) rfl rfl rfl rfl) (opd_dep 29 111 1 rfl rfl rfl rfl) (opd_dep 30 112 0 rfl rfl rfl rfl) rfl ?_
  -- 32 law.go:41 t114 := pick (tmp 110) (tmp 113) (const (Value.bool false))
  refine VWalk.pickT _ _ _ rfl (want_none rfl) (opd_dep 28 110 3 rfl rfl rfl rfl) (opd_dep 31 113 0 rfl rfl rfl rfl) ?_
  -- 33 law.go:41 t115 := move (tmp 114)
  refine VWalk.move _ rfl (want_none rfl) (opd_dep 32 114 0 rfl rfl rfl rfl) ?_
  -- 34 law.go:41 t116 := move (tmp 4) [guard 33 true]
  refine VWalk.move _ rfl (want_tt 33 115 0 rfl (by kernel_rfl) rfl rfl rfl rfl) (opd_frame 4 rfl (by kernel_rfl)) ?_
  -- 35 law.go:41 t117 := call { callee := Callee.value (func 23), args := #[tmp 116], argTypes := #[25] } [guard 33 true]
  refine VWalk.call1 23 _ _ rfl (enters_of Try.func23 (by kernel_rfl) rfl) (want_tt 33 115 1 rfl (by kernel_rfl) rfl rfl rfl rfl) (opd_dep 34 116 0 rfl rfl rfl rfl) (c_put x hx0 hx1) ?_
  -- 36 law.go:41 t118 := convert 26 9 (tmp 117) [guard 33 true]
  refine VWalk.string 26 9 5 _ rfl Try.underlying26 Try.underlying5 Try.underlying9 (want_tt 33 115 2 rfl (by kernel_rfl) rfl rfl rfl rfl) (opd_dep 35 117 0 rfl rfl rfl rfl) ?_
  -- 37 law.go:41 t119 := move (tmp 4) [guard 33 true]
  refine VWalk.move _ rfl (want_tt 33 115 3 rfl (by kernel_rfl) rfl rfl rfl rfl) (opd_frame 4 rfl (by kernel_rfl)) ?_
  -- 38 law.go:41 t120 := call { callee := Callee.value (func 24), args := #[tmp 119], argTypes := #[25] } [guard 33 true]
  refine VWalk.call1 24 _ _ rfl (enters_of Try.func24 (by kernel_rfl) rfl) (want_tt 33 115 4 rfl (by kernel_rfl) rfl rfl rfl rfl) (opd_dep 37 119 0 rfl rfl rfl rfl) (c_rput x hx0 hx1) ?_
  -- 39 law.go:41 t121 := convert 26 9 (tmp 120) [guard 33 true]
  refine VWalk.string 26 9 5 _ rfl Try.underlying26 Try.underlying5 Try.underlying9 (want_tt 33 115 5 rfl (by kernel_rfl) rfl rfl rfl rfl) (opd_dep 38 120 0 rfl rfl rfl rfl) ?_
  -- 40 law.go:41 t122 := binOp BinOp.eql 9 (tmp 118) (tmp 121) 9 [guard 33 true]
  refine VWalk.eqTs _ _ _ _ rfl (want_tt 33 115 6 rfl (by kernel_rfl) rfl rfl rfl rfl) (opd_dep 36 118 3 rfl rfl rfl rfl) (opd_dep 39 121 0 rfl rfl rfl rfl) rfl ?_
  -- 41 law.go:41 t123 := pick (tmp 115) (tmp 122) (const (Value.bool false))
  refine VWalk.pickT _ _ _ rfl (want_none rfl) (opd_dep 33 115 7 rfl rfl rfl rfl) (opd_dep 40 122 0 rfl rfl rfl rfl) ?_
  -- 42 law.go:41 t124 := move (tmp 123)
  refine VWalk.move _ rfl (want_none rfl) (opd_dep 41 123 0 rfl rfl rfl rfl) ?_
  -- 43 law.go:41 t125 := call { callee := Callee.value (func 8), args := #[], argTypes := #[] } [guard 42 true]
  refine VWalk.call0 8 _ rfl (enters_of Try.func8 (by kernel_rfl) rfl) (want_tt 42 124 0 rfl (by kernel_rfl) rfl rfl rfl rfl) c_wakes ?_
  -- 44 law.go:41 t126 := pick (tmp 124) (tmp 125) (const (Value.bool false))
  refine VWalk.pickT _ _ _ rfl (want_none rfl) (opd_dep 42 124 1 rfl rfl rfl rfl) (opd_dep 43 125 0 rfl rfl rfl rfl) ?_
  refine ⟨rfl, rfl, rfl, fun W9 hE9 => ?_⟩
  exact Ret.mk (hE.tr ((ext_drew _).tr hE9)) rfl
end Go.Proofs.Yteiebmonbjcgnaa
