/- SumParts, walked. -/
import Derived.Test.YteiebmonbjcgnaaSumF
import Derived.Deep.Cut
namespace Go.Proofs.Yteiebmonbjcgnaa
open Go.RowKit Go.Shelf SumM

set_option maxRecDepth 100000 in
set_option maxHeartbeats 4000000 in
theorem sumParts_any (bs : List UInt8) (at_ : Int) (v : Value) (w : World) (hB : VBytes bs v w) : Calls Try.prog 4 #[v, .int .i64 at_] w (Ret w (VEq (.bool true))) := by
  obtain ⟨A, c, rfl, -⟩ := VBytes.form hB
  go_enter Try.func4, Try.ntmps4
  by_cases hlen : (3000 : Int) < bs.length
  · go_upto_region 2 with (fail)
    -- teasel/teasellaw02.SumParts, region 2: 2 operations, 1 ahead of the stores (draws nothing)
    refine vregion0 1 [] (by kernel_rfl) (fun _ _ _ _ _ h => h) ?_
    -- 0 law.go:47 t13 := call { callee := Callee.value (func 8), args := #[], argTypes := #[] }
    refine VWalk.call0 8 _ rfl (enters_of Try.func8 (by kernel_rfl) rfl) (want_none rfl) c_wakes ?_
    refine ⟨rfl, fun W2 hE2 => ?_⟩
    first | refine VFin.eq ?_ | refine VFin.any fun v2_0 hv2_0 => ?_
    refine VFin.nil ?_
    simp only [Act.put, List.setIfInBounds_toArray, List.set_cons_zero, List.set_cons_succ]
    -- tail: assign (tmp 13)
    go_wp2
    go_ret
    exact Ret.mk hE2 rfl
  have hle : bs.length ≤ 3000 := by omega
  go_upto_region 4 with (fail)
  obtain ⟨k, hk, hkl⟩ : ∃ k : Nat, (if (bs.length : Int) < (if at_ < 0 then 0 else at_) then (bs.length : Int) else if at_ < 0 then 0 else at_) = (k : Int) ∧ k ≤ bs.length :=
    ⟨(if (bs.length : Int) < (if at_ < 0 then 0 else at_) then (bs.length : Int) else if at_ < 0 then 0 else at_).toNat, by split <;> split <;> omega, by split <;> split <;> omega⟩
  rw [hk]
  clear hk hlen
  have hE := Ext.rf w
  -- teasel/teasellaw02.SumParts, region 4: 6 operations, 5 ahead of the stores (draws nothing)
  refine vregion0 5 [] (by kernel_rfl) (fun _ _ _ _ _ h => h) ?_
  -- 0 law.go:50 t19 := call { callee := Callee.value (func 21), args := #[], argTypes := #[] }
  refine VWalk.call0 21 _ rfl (enters_of Try.func21 (by kernel_rfl) rfl) (want_none rfl) c_new ?_
  -- 1 law.go:50 t20 := move (tmp 0)
  refine VWalk.move _ rfl (want_none rfl) (opd_fr 0 rfl hB (Ext.rf _) (by kernel_rfl)) ?_
  -- 2 law.go:50 t21 := buildSlice 24 1 #[(0, tmp 20)]
  refine VWalk.lit (Fs := [_]) [Operand.tmp 20] 24 26 1 _ rfl rfl (by decide) (by decide) rfl Try.underlying24 (by kernel_rfl) (by kernel_rfl) ⟨oneCell_sl _, trivial⟩ (want_none rfl) ⟨(opd_dep 1 20 0 rfl rfl rfl rfl), trivial⟩ ?_
  -- 3 law.go:50 t22 := call { callee := Callee.value (func 13), args := #[tmp 19, tmp 21], argTypes := #[23, 24] }
  refine VWalk.call2 13 _ _ _ rfl (enters_of Try.func13 (by kernel_rfl) rfl) (want_none rfl) (opd_dep 0 19 2 rfl rfl rfl rfl) (opd_dep 2 21 0 rfl rfl rfl rfl) (c_feed1 (1, 0) bs) ?_
  -- 4 law.go:50 t5 := alloc 23
  refine VWalk.alloc (z := pairV (0, 0)) 23 rfl (want_none rfl) (by kernel_rfl) ?_
  refine ⟨rfl, fun W4 hE4 => ?_⟩
  first | refine VFin.eq ?_ | refine VFin.any fun v4_0 hv4_0 => ?_
  first | refine VFin.eq ?_ | refine VFin.any fun v4_1 hv4_1 => ?_
  refine VFin.any fun v4_2 hv4_2 => ?_
  first | refine VFin.eq ?_ | refine VFin.any fun v4_3 hv4_3 => ?_
  refine VFin.any fun v4_4 hv4_4 => ?_
  refine VFin.nil ?_
  simp only [Act.put, List.setIfInBounds_toArray, List.set_cons_zero, List.set_cons_succ]
  -- tail: store 23 (tmp 5) (tmp 22)
  obtain ⟨g5, rfl, hg, hb⟩ := hv4_4
  refine wpList_store_new rfl _ _ _ rfl rfl g5 _ rfl rfl _ _ hb (by kernel_rfl) rfl rfl ?_
  intro V4 hB4 _ hX
  have hE4 := hX _ hE4 hg
  have hB := VP.st _ _ _ _ hB hE4
  have hE := hE.tr hE4
  clear hX hb hg
  go_upto_region 5 with (fail)
  -- teasel/teasellaw02.SumParts, region 5: 8 operations, 7 ahead of the stores
  refine vregion 7 [] (by kernel_rfl) (by kernel_rfl) (fun _ _ _ _ _ h => h) ?_
  -- 0 law.go:51 t23 := call { callee := Callee.value (func 21), args := #[], argTypes := #[] }
  refine VWalk.call0 21 _ rfl (enters_of Try.func21 (by kernel_rfl) rfl) (want_none rfl) c_new ?_
  -- 1 law.go:51 t24 := move (tmp 0)
  refine VWalk.move _ rfl (want_none rfl) (opd_fr 0 rfl hB (ext_drew _) (by kernel_rfl)) ?_
  -- 2 law.go:51 t25 := move (tmp 1)
  refine VWalk.move _ rfl (want_none rfl) (opd_frame 1 rfl (by kernel_rfl)) ?_
  -- 3 law.go:51 t26 := slice 26 (tmp 24) none (some (tmp 25)) none
  refine VWalk.cutToB 26 5 _ _ .i64 k rfl Try.underlying26 (by kernel_rfl) (want_none rfl) (opd_dep 1 24 1 rfl rfl rfl rfl) (opd_dep 2 25 0 rfl rfl rfl rfl) hkl ?_
  -- 4 law.go:51 t27 := buildSlice 24 1 #[(0, tmp 26)]
  refine VWalk.lit (Fs := [_]) [Operand.tmp 26] 24 26 1 _ rfl rfl (by decide) (by decide) rfl Try.underlying24 (by kernel_rfl) (by kernel_rfl) ⟨oneCell_sl _, trivial⟩ (want_none rfl) ⟨(opd_dep 3 26 0 rfl rfl rfl rfl), trivial⟩ ?_
  -- 5 law.go:51 t28 := call { callee := Callee.value (func 13), args := #[tmp 23, tmp 27], argTypes := #[23, 24] }
  refine VWalk.call2 13 _ _ _ rfl (enters_of Try.func13 (by kernel_rfl) rfl) (want_none rfl) (opd_dep 0 23 4 rfl rfl rfl rfl) (opd_dep 4 27 0 rfl rfl rfl rfl) (c_feed1 (1, 0) (bs.take k)) ?_
  -- 6 law.go:51 t6 := alloc 23
  refine VWalk.alloc (z := pairV (0, 0)) 23 rfl (want_none rfl) (by kernel_rfl) ?_
  refine ⟨rfl, fun W5 hE5 => ?_⟩
  first | refine VFin.eq ?_ | refine VFin.any fun v5_0 hv5_0 => ?_
  first | refine VFin.eq ?_ | refine VFin.any fun v5_1 hv5_1 => ?_
  first | refine VFin.eq ?_ | refine VFin.any fun v5_2 hv5_2 => ?_
  refine VFin.any fun v5_3 hv5_3 => ?_
  refine VFin.any fun v5_4 hv5_4 => ?_
  first | refine VFin.eq ?_ | refine VFin.any fun v5_5 hv5_5 => ?_
  refine VFin.any fun v5_6 hv5_6 => ?_
  refine VFin.nil ?_
  simp only [Act.put, List.setIfInBounds_toArray, List.set_cons_zero, List.set_cons_succ]
  -- tail: store 23 (tmp 6) (tmp 28)
  obtain ⟨g6, rfl, hg, hb⟩ := hv5_6
  refine wpList_store_new rfl _ _ _ rfl rfl g6 _ rfl rfl _ _ hb (by kernel_rfl) rfl rfl ?_
  intro V5 hB5 _ hX
  have hE5 := hX _ hE5 hg
  have hB := VP.st _ _ _ _ hB ((ext_drew _).tr hE5)
  have hB4 := hB4.drew.ext hE5
  have hE := hE.tr ((ext_drew _).tr hE5)
  clear hX hb hg
  go_upto_region 6 with (fail)
  -- teasel/teasellaw02.SumParts, region 6: 8 operations, 7 ahead of the stores
  refine vregion 7 [] (by kernel_rfl) (by kernel_rfl) (fun _ _ _ _ _ h => h) ?_
  -- 0 law.go:52 t29 := call { callee := Callee.value (func 21), args := #[], argTypes := #[] }
  refine VWalk.call0 21 _ rfl (enters_of Try.func21 (by kernel_rfl) rfl) (want_none rfl) c_new ?_
  -- 1 law.go:52 t30 := move (tmp 0)
  refine VWalk.move _ rfl (want_none rfl) (opd_fr 0 rfl hB (ext_drew _) (by kernel_rfl)) ?_
  -- 2 law.go:52 t31 := move (tmp 1)
  refine VWalk.move _ rfl (want_none rfl) (opd_frame 1 rfl (by kernel_rfl)) ?_
  -- 3 law.go:52 t32 := slice 26 (tmp 30) (some (tmp 31)) none none
  refine VWalk.cutFromB 26 5 _ _ .i64 k rfl Try.underlying26 (by kernel_rfl) (want_none rfl) (opd_dep 1 30 1 rfl rfl rfl rfl) (opd_dep 2 31 0 rfl rfl rfl rfl) hkl ?_
  -- 4 law.go:52 t33 := buildSlice 24 1 #[(0, tmp 32)]
  refine VWalk.lit (Fs := [_]) [Operand.tmp 32] 24 26 1 _ rfl rfl (by decide) (by decide) rfl Try.underlying24 (by kernel_rfl) (by kernel_rfl) ⟨oneCell_sl _, trivial⟩ (want_none rfl) ⟨(opd_dep 3 32 0 rfl rfl rfl rfl), trivial⟩ ?_
  -- 5 law.go:52 t34 := call { callee := Callee.value (func 13), args := #[tmp 29, tmp 33], argTypes := #[23, 24] }
  refine VWalk.call2 13 _ _ _ rfl (enters_of Try.func13 (by kernel_rfl) rfl) (want_none rfl) (opd_dep 0 29 4 rfl rfl rfl rfl) (opd_dep 4 33 0 rfl rfl rfl rfl) (c_feed1 (1, 0) (bs.drop k)) ?_
  -- 6 law.go:52 t7 := alloc 23
  refine VWalk.alloc (z := pairV (0, 0)) 23 rfl (want_none rfl) (by kernel_rfl) ?_
  refine ⟨rfl, fun W6 hE6 => ?_⟩
  first | refine VFin.eq ?_ | refine VFin.any fun v6_0 hv6_0 => ?_
  first | refine VFin.eq ?_ | refine VFin.any fun v6_1 hv6_1 => ?_
  first | refine VFin.eq ?_ | refine VFin.any fun v6_2 hv6_2 => ?_
  refine VFin.any fun v6_3 hv6_3 => ?_
  refine VFin.any fun v6_4 hv6_4 => ?_
  first | refine VFin.eq ?_ | refine VFin.any fun v6_5 hv6_5 => ?_
  refine VFin.any fun v6_6 hv6_6 => ?_
  refine VFin.nil ?_
  simp only [Act.put, List.setIfInBounds_toArray, List.set_cons_zero, List.set_cons_succ]
  -- tail: store 23 (tmp 7) (tmp 34)
  obtain ⟨g7, rfl, hg, hb⟩ := hv6_6
  refine wpList_store_new rfl _ _ _ rfl rfl g7 _ rfl rfl _ _ hb (by kernel_rfl) rfl rfl ?_
  intro V6 hB6 _ hX
  have hE6 := hX _ hE6 hg
  have hB := VP.st _ _ _ _ hB ((ext_drew _).tr hE6)
  have hB4 := hB4.drew.ext hE6
  have hB5 := hB5.drew.ext hE6
  have hE := hE.tr ((ext_drew _).tr hE6)
  clear hX hb hg
  go_upto_region 7 with (fail)
  -- teasel/teasellaw02.SumParts, region 7: 13 operations, 11 ahead of the stores (draws nothing)
  refine vregion0 11 [9] (by kernel_rfl) (fun _ _ _ _ _ h => h) ?_
  -- 0 law.go:53 t36 := load 23 (tmp 6)
  refine VWalk.loadBox 23 _ rfl (want_none rfl) (opd_frame 6 rfl (by kernel_rfl)) Try.underlying23 rfl (by kernel_rfl) hB5 (Ext.rf _) ?_
  -- 1 law.go:53 t37 := load 23 (tmp 7)
  refine VWalk.loadBox 23 _ rfl (want_none rfl) (opd_frame 7 rfl (by kernel_rfl)) Try.underlying23 rfl (by kernel_rfl) hB6 (Ext.rf _) ?_
  -- 2 law.go:53 t38 := move (tmp 0)
  refine VWalk.move _ rfl (want_none rfl) (opd_fr 0 rfl hB (Ext.rf _) (by kernel_rfl)) ?_
  -- 3 law.go:53 t39 := call { callee := Callee.builtin Builtin.len, args := #[tmp 38], argTypes := #[26] }
  refine VWalk.lenB 26 5 _ rfl Try.underlying26 (want_none rfl) (opd_dep 2 38 0 rfl rfl rfl rfl) ?_
  -- 4 law.go:53 t40 := move (tmp 1)
  refine VWalk.move _ rfl (want_none rfl) (opd_frame 1 rfl (by kernel_rfl)) ?_
  -- 5 law.go:53 t41 := binOp BinOp.sub 3 (tmp 39) (tmp 40) 3
  refine VWalk.sub64 _ _ _ _ rfl (want_none rfl) (opd_dep 3 39 1 rfl rfl rfl rfl) (opd_dep 4 40 0 rfl rfl rfl rfl) (by omega) ?_
  -- 6 law.go:53 t42 := call { callee := Callee.value (func 9), args := #[tmp 36, tmp 37, tmp 41], argTypes := #[23, 23, 3] }
  refine VWalk.call3 9 _ _ _ _ rfl (enters_of Try.func9 (by kernel_rfl) rfl) (want_none rfl) (opd_dep 0 36 5 rfl rfl rfl rfl) (opd_dep 1 37 4 rfl rfl rfl rfl) (opd_dep 5 41 0 rfl rfl rfl rfl) (c_join _ _ _) ?_
  -- 7 law.go:53 t35 := move (tmp 42)
  refine VWalk.move _ rfl (want_none rfl) (opd_dep 6 42 0 rfl rfl rfl rfl) ?_
  -- 8 law.go:53 t43 := extract (tmp 35) 0
  refine VWalk.extract _ 0 rfl rfl (want_none rfl) (opd_dep 7 35 0 rfl rfl rfl rfl) ?_
  -- 9 law.go:53 t44 := extract (tmp 35) 1
  refine VWalk.extract _ 1 rfl rfl (want_none rfl) (opd_dep 7 35 1 rfl rfl rfl rfl) ?_
  -- 10 law.go:53 t8 := alloc 23
  refine VWalk.alloc (z := pairV (0, 0)) 23 rfl (want_none rfl) (by kernel_rfl) ?_
  refine ⟨rfl, fun W7 hE7 => ?_⟩
  refine VFin.eq ?_  -- 0
  refine VFin.eq ?_  -- 1
  first | refine VFin.eq ?_ | refine VFin.any fun v7_2 hv7_2 => ?_
  first | refine VFin.eq ?_ | refine VFin.any fun v7_3 hv7_3 => ?_
  first | refine VFin.eq ?_ | refine VFin.any fun v7_4 hv7_4 => ?_
  refine VFin.eq ?_  -- 5
  first | refine VFin.eq ?_ | refine VFin.any fun v7_6 hv7_6 => ?_
  first | refine VFin.eq ?_ | refine VFin.any fun v7_7 hv7_7 => ?_
  first | refine VFin.eq ?_ | refine VFin.any fun v7_8 hv7_8 => ?_
  first | refine VFin.eq ?_ | refine VFin.any fun v7_9 hv7_9 => ?_
  refine VFin.any fun v7_10 hv7_10 => ?_
  refine VFin.nil ?_
  simp only [Act.put, List.setIfInBounds_toArray, List.set_cons_zero, List.set_cons_succ]
  -- tail: store 23 (tmp 8) (tmp 43); assign (tmp 44)
  obtain ⟨g8, rfl, hg, hb⟩ := hv7_10
  refine wpList_store_new rfl _ _ _ rfl rfl g8 _ rfl rfl _ _ hb (by kernel_rfl) rfl rfl ?_
  intro V7 hB7 _ hX
  have hE7 := hX _ hE7 hg
  have hB := VP.st _ _ _ _ hB hE7
  have hB4 := hB4.ext hE7
  have hB5 := hB5.ext hE7
  have hE := hE.tr hE7
  clear hX hb hg
  go_upto_region 8 with (fail)
  -- teasel/teasellaw02.SumParts, region 8: 46 operations, 45 ahead of the stores
  refine law_end (by assumption) 45 [] 4 89 _ (by kernel_rfl) (by kernel_rfl) (fun _ _ _ _ _ h => h) rfl rfl rfl rfl rfl (by kernel_rfl) rfl 44 rfl rfl ?_
  -- 0 law.go:54 t45 := load 23 (tmp 5)
  refine VWalk.loadBox 23 _ rfl (want_none rfl) (opd_frame 5 rfl (by kernel_rfl)) Try.underlying23 rfl (by kernel_rfl) hB4 (ext_drew _) ?_
  -- 1 law.go:54 t46 := call { callee := Callee.value (func 19), args := #[tmp 45], argTypes := #[23] }
  refine VWalk.call1 19 _ _ rfl (enters_of Try.func19 (by kernel_rfl) rfl) (want_none rfl) (opd_dep 0 45 0 rfl rfl rfl rfl) (c_right _) ?_
  rw [feed_right (1, 0) start_right bs]
  -- 2 law.go:54 t47 := move (tmp 46)
  refine VWalk.move _ rfl (want_none rfl) (opd_dep 1 46 0 rfl rfl rfl rfl) ?_
  -- 3 law.go:54 t48 := load 23 (tmp 6) [guard 2 true]
  refine VWalk.loadBox 23 _ rfl (want_tt 2 47 0 rfl (by kernel_rfl) rfl rfl rfl rfl) (opd_frame 6 rfl (by kernel_rfl)) Try.underlying23 rfl (by kernel_rfl) hB5 (ext_drew _) ?_
  -- 4 law.go:54 t49 := move (tmp 0) [guard 2 true]
  refine VWalk.move _ rfl (want_tt 2 47 1 rfl (by kernel_rfl) rfl rfl rfl rfl) (opd_fr 0 rfl hB (ext_drew _) (by kernel_rfl)) ?_
  -- 5 law.go:54 t50 := move (tmp 1) [guard 2 true]
  refine VWalk.move _ rfl (want_tt 2 47 2 rfl (by kernel_rfl) rfl rfl rfl rfl) (opd_frame 1 rfl (by kernel_rfl)) ?_
  -- 6 law.go:54 t51 := slice 26 (tmp 49) (some (tmp 50)) none none [guard 2 true]
  refine VWalk.cutFromB 26 5 _ _ .i64 k rfl Try.underlying26 (by kernel_rfl) (want_tt 2 47 3 rfl (by kernel_rfl) rfl rfl rfl rfl) (opd_dep 4 49 1 rfl rfl rfl rfl) (opd_dep 5 50 0 rfl rfl rfl rfl) hkl ?_
  -- 7 law.go:54 t52 := buildSlice 24 1 #[(0, tmp 51)] [guard 2 true]
  refine VWalk.lit (Fs := [_]) [Operand.tmp 51] 24 26 1 _ rfl rfl (by decide) (by decide) rfl Try.underlying24 (by kernel_rfl) (by kernel_rfl) ⟨oneCell_sl _, trivial⟩ (want_tt 2 47 4 rfl (by kernel_rfl) rfl rfl rfl rfl) ⟨(opd_dep 6 51 0 rfl rfl rfl rfl), trivial⟩ ?_
  -- 8 law.go:54 t53 := call { callee := Callee.value (func 13), args := #[tmp 48, tmp 52], argTypes := #[23, 24] } [guard 2 true]
  refine VWalk.call2 13 _ _ _ rfl (enters_of Try.func13 (by kernel_rfl) rfl) (want_tt 2 47 5 rfl (by kernel_rfl) rfl rfl rfl rfl) (opd_dep 3 48 4 rfl rfl rfl rfl) (opd_dep 7 52 0 rfl rfl rfl rfl) (c_feed1 _ (bs.drop k)) ?_
  -- 9 law.go:54 t54 := load 23 (tmp 5) [guard 2 true]
  refine VWalk.loadBox 23 _ rfl (want_tt 2 47 6 rfl (by kernel_rfl) rfl rfl rfl rfl) (opd_frame 5 rfl (by kernel_rfl)) Try.underlying23 rfl (by kernel_rfl) hB4 (ext_drew _) ?_
  -- 10 law.go:54 t55 := binOp BinOp.eql 23 (tmp 53) (tmp 54) 23 [guard 2 true]
  refine VWalk.eqS _ _ _ _ rfl rfl (want_tt 2 47 7 rfl (by kernel_rfl) rfl rfl rfl rfl) (opd_dep 8 53 1 rfl rfl rfl rfl) (opd_dep 9 54 0 rfl rfl rfl rfl) (feed_cut bs k) ?_
  -- 11 law.go:54 t56 := pick (tmp 47) (tmp 55) (const (Value.bool false))
  refine VWalk.pickT _ _ _ rfl (want_none rfl) (opd_dep 2 47 8 rfl rfl rfl rfl) (opd_dep 10 55 0 rfl rfl rfl rfl) ?_
  -- 12 law.go:54 t57 := move (tmp 56)
  refine VWalk.move _ rfl (want_none rfl) (opd_dep 11 56 0 rfl rfl rfl rfl) ?_
  -- 13 law.go:54 t58 := call { callee := Callee.value (func 21), args := #[], argTypes := #[] } [guard 12 true]
  refine VWalk.call0 21 _ rfl (enters_of Try.func21 (by kernel_rfl) rfl) (want_tt 12 57 0 rfl (by kernel_rfl) rfl rfl rfl rfl) c_new ?_
  -- 14 law.go:54 t59 := move (tmp 0) [guard 12 true]
  refine VWalk.move _ rfl (want_tt 12 57 1 rfl (by kernel_rfl) rfl rfl rfl rfl) (opd_fr 0 rfl hB (ext_drew _) (by kernel_rfl)) ?_
  -- 15 law.go:54 t60 := move (tmp 1) [guard 12 true]
  refine VWalk.move _ rfl (want_tt 12 57 2 rfl (by kernel_rfl) rfl rfl rfl rfl) (opd_frame 1 rfl (by kernel_rfl)) ?_
  -- 16 law.go:54 t61 := slice 26 (tmp 59) none (some (tmp 60)) none [guard 12 true]
  refine VWalk.cutToB 26 5 _ _ .i64 k rfl Try.underlying26 (by kernel_rfl) (want_tt 12 57 3 rfl (by kernel_rfl) rfl rfl rfl rfl) (opd_dep 14 59 1 rfl rfl rfl rfl) (opd_dep 15 60 0 rfl rfl rfl rfl) hkl ?_
  -- 17 law.go:54 t62 := move (tmp 0) [guard 12 true]
  refine VWalk.move _ rfl (want_tt 12 57 4 rfl (by kernel_rfl) rfl rfl rfl rfl) (opd_fr 0 rfl hB (ext_drew _) (by kernel_rfl)) ?_
  -- 18 law.go:54 t63 := move (tmp 1) [guard 12 true]
  refine VWalk.move _ rfl (want_tt 12 57 5 rfl (by kernel_rfl) rfl rfl rfl rfl) (opd_frame 1 rfl (by kernel_rfl)) ?_
  -- 19 law.go:54 t64 := slice 26 (tmp 62) (some (tmp 63)) none none [guard 12 true]
  refine VWalk.cutFromB 26 5 _ _ .i64 k rfl Try.underlying26 (by kernel_rfl) (want_tt 12 57 6 rfl (by kernel_rfl) rfl rfl rfl rfl) (opd_dep 17 62 1 rfl rfl rfl rfl) (opd_dep 18 63 0 rfl rfl rfl rfl) hkl ?_
  -- 20 law.go:54 t65 := buildSlice 24 3 #[(0, tmp 61), (1, const (Value.slice none 0 0)), (2, tmp 64)] [guard 12 true]
  refine VWalk.lit (Fs := [_, _, _]) [Operand.tmp 61, Operand.const (Value.slice none 0 0), Operand.tmp 64] 24 26 3 _ rfl rfl (by decide) (by decide) rfl Try.underlying24 (by kernel_rfl) (by kernel_rfl) ⟨oneCell_sl _, oneCell_sl _, oneCell_sl _, trivial⟩ (want_tt 12 57 7 rfl (by kernel_rfl) rfl rfl rfl rfl) ⟨(opd_dep 16 61 3 rfl rfl rfl rfl), opd_nil, (opd_dep 19 64 0 rfl rfl rfl rfl), trivial⟩ ?_
  -- 21 law.go:54 t66 := call { callee := Callee.value (func 13), args := #[tmp 58, tmp 65], argTypes := #[23, 24] } [guard 12 true]
  refine VWalk.call2 13 _ _ _ rfl (enters_of Try.func13 (by kernel_rfl) rfl) (want_tt 12 57 8 rfl (by kernel_rfl) rfl rfl rfl rfl) (opd_dep 13 58 7 rfl rfl rfl rfl) (opd_dep 20 65 0 rfl rfl rfl rfl) (c_feed3 (1, 0) (bs.take k) (bs.drop k)) ?_
  -- 22 law.go:54 t67 := load 23 (tmp 5) [guard 12 true]
  refine VWalk.loadBox 23 _ rfl (want_tt 12 57 9 rfl (by kernel_rfl) rfl rfl rfl rfl) (opd_frame 5 rfl (by kernel_rfl)) Try.underlying23 rfl (by kernel_rfl) hB4 (ext_drew _) ?_
  -- 23 law.go:54 t68 := binOp BinOp.eql 23 (tmp 66) (tmp 67) 23 [guard 12 true]
  refine VWalk.eqS _ _ _ _ rfl rfl (want_tt 12 57 10 rfl (by kernel_rfl) rfl rfl rfl rfl) (opd_dep 21 66 1 rfl rfl rfl rfl) (opd_dep 22 67 0 rfl rfl rfl rfl) (by rw [List.take_append_drop]) ?_
  -- 24 law.go:54 t69 := pick (tmp 57) (tmp 68) (const (Value.bool false))
  refine VWalk.pickT _ _ _ rfl (want_none rfl) (opd_dep 12 57 11 rfl rfl rfl rfl) (opd_dep 23 68 0 rfl rfl rfl rfl) ?_
  -- 25 law.go:54 t70 := move (tmp 69)
  refine VWalk.move _ rfl (want_none rfl) (opd_dep 24 69 0 rfl rfl rfl rfl) ?_
  -- 26 law.go:54 t71 := move (tmp 9) [guard 25 true]
  refine VWalk.move _ rfl (want_tt 25 70 0 rfl (by kernel_rfl) rfl rfl rfl rfl) (opd_frame 9 rfl (by kernel_rfl)) ?_
  -- 27 law.go:54 t72 := binOp BinOp.eql 29 (tmp 71) (const (Value.int IntKind.i64 0)) 29 [guard 25 true]
  refine VWalk.eqT _ _ _ _ rfl (want_tt 25 70 1 rfl (by kernel_rfl) rfl rfl rfl rfl) (opd_dep 26 71 0 rfl rfl rfl rfl) (opd_const _) (joinE_cut bs k hkl hle) ?_
  -- 28 law.go:54 t73 := pick (tmp 70) (tmp 72) (const (Value.bool false))
  refine VWalk.pickT _ _ _ rfl (want_none rfl) (opd_dep 25 70 2 rfl rfl rfl rfl) (opd_dep 27 72 0 rfl rfl rfl rfl) ?_
  -- 29 law.go:54 t74 := move (tmp 73)
  refine VWalk.move _ rfl (want_none rfl) (opd_dep 28 73 0 rfl rfl rfl rfl) ?_
  -- 30 law.go:54 t75 := load 23 (tmp 8) [guard 29 true]
  refine VWalk.loadBox 23 _ rfl (want_tt 29 74 0 rfl (by kernel_rfl) rfl rfl rfl rfl) (opd_frame 8 rfl (by kernel_rfl)) Try.underlying23 rfl (by kernel_rfl) hB7 (ext_drew _) ?_
  -- 31 law.go:54 t76 := load 23 (tmp 5) [guard 29 true]
  refine VWalk.loadBox 23 _ rfl (want_tt 29 74 1 rfl (by kernel_rfl) rfl rfl rfl rfl) (opd_frame 5 rfl (by kernel_rfl)) Try.underlying23 rfl (by kernel_rfl) hB4 (ext_drew _) ?_
  -- 32 law.go:54 t77 := binOp BinOp.eql 23 (tmp 75) (tmp 76) 23 [guard 29 true]
  refine VWalk.eqS _ _ _ _ rfl rfl (want_tt 29 74 2 rfl (by kernel_rfl) rfl rfl rfl rfl) (opd_dep 30 75 1 rfl rfl rfl rfl) (opd_dep 31 76 0 rfl rfl rfl rfl) (join_cut bs k hkl hle) ?_
  -- 33 law.go:54 t78 := pick (tmp 74) (tmp 77) (const (Value.bool false))
  refine VWalk.pickT _ _ _ rfl (want_none rfl) (opd_dep 29 74 3 rfl rfl rfl rfl) (opd_dep 32 77 0 rfl rfl rfl rfl) ?_
  -- 34 law.go:54 t79 := move (tmp 78)
  refine VWalk.move _ rfl (want_none rfl) (opd_dep 33 78 0 rfl rfl rfl rfl) ?_
  -- 35 law.go:54 t80 := move (tmp 0) [guard 34 true]
  refine VWalk.move _ rfl (want_tt 34 79 0 rfl (by kernel_rfl) rfl rfl rfl rfl) (opd_fr 0 rfl hB (ext_drew _) (by kernel_rfl)) ?_
  -- 36 law.go:54 t81 := buildSlice 24 1 #[(0, tmp 80)] [guard 34 true]
  refine VWalk.lit (Fs := [_]) [Operand.tmp 80] 24 26 1 _ rfl rfl (by decide) (by decide) rfl Try.underlying24 (by kernel_rfl) (by kernel_rfl) ⟨oneCell_sl _, trivial⟩ (want_tt 34 79 1 rfl (by kernel_rfl) rfl rfl rfl rfl) ⟨(opd_dep 35 80 0 rfl rfl rfl rfl), trivial⟩ ?_
  -- 37 law.go:54 t82 := call { callee := Callee.value (func 17), args := #[tmp 81], argTypes := #[24] } [guard 34 true]
  refine VWalk.call1 17 _ _ rfl (enters_of Try.func17 (by kernel_rfl) rfl) (want_tt 34 79 2 rfl (by kernel_rfl) rfl rfl rfl rfl) (opd_dep 36 81 0 rfl rfl rfl rfl) (c_of1 bs) ?_
  -- 38 law.go:54 t83 := load 23 (tmp 5) [guard 34 true]
  refine VWalk.loadBox 23 _ rfl (want_tt 34 79 3 rfl (by kernel_rfl) rfl rfl rfl rfl) (opd_frame 5 rfl (by kernel_rfl)) Try.underlying23 rfl (by kernel_rfl) hB4 (ext_drew _) ?_
  -- 39 law.go:54 t84 := call { callee := Callee.value (func 15), args := #[tmp 83], argTypes := #[23] } [guard 34 true]
  refine VWalk.call1 15 _ _ rfl (enters_of Try.func15 (by kernel_rfl) rfl) (want_tt 34 79 4 rfl (by kernel_rfl) rfl rfl rfl rfl) (opd_dep 38 83 0 rfl rfl rfl rfl) (c_value _) ?_
  -- 40 law.go:54 t85 := binOp BinOp.eql 25 (tmp 82) (tmp 84) 25 [guard 34 true]
  refine VWalk.eqT _ _ _ _ rfl (want_tt 34 79 5 rfl (by kernel_rfl) rfl rfl rfl rfl) (opd_dep 37 82 2 rfl rfl rfl rfl) (opd_dep 39 84 0 rfl rfl rfl rfl) rfl ?_
  -- 41 law.go:54 t86 := pick (tmp 79) (tmp 85) (const (Value.bool false))
  refine VWalk.pickT _ _ _ rfl (want_none rfl) (opd_dep 34 79 6 rfl rfl rfl rfl) (opd_dep 40 85 0 rfl rfl rfl rfl) ?_
  -- 42 law.go:54 t87 := move (tmp 86)
  refine VWalk.move _ rfl (want_none rfl) (opd_dep 41 86 0 rfl rfl rfl rfl) ?_
  -- 43 law.go:54 t88 := call { callee := Callee.value (func 8), args := #[], argTypes := #[] } [guard 42 true]
  refine VWalk.call0 8 _ rfl (enters_of Try.func8 (by kernel_rfl) rfl) (want_tt 42 87 0 rfl (by kernel_rfl) rfl rfl rfl rfl) c_wakes ?_
  -- 44 law.go:54 t89 := pick (tmp 87) (tmp 88) (const (Value.bool false))
  refine VWalk.pickT _ _ _ rfl (want_none rfl) (opd_dep 42 87 1 rfl rfl rfl rfl) (opd_dep 43 88 0 rfl rfl rfl rfl) ?_
  refine ⟨rfl, rfl, rfl, fun W8 hE8 => ?_⟩
  exact Ret.mk (hE.tr ((ext_drew _).tr hE8)) rfl
end Go.Proofs.Yteiebmonbjcgnaa
