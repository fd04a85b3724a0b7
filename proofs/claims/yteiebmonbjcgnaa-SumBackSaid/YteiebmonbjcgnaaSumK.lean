/- SumBack, walked. -/
import Derived.Test.YteiebmonbjcgnaaSumF
import Derived.Test.YteiebmonbjcgnaaY
import Derived.Deep.Cut
namespace Go.Proofs.Yteiebmonbjcgnaa
open Go.RowKit Go.Shelf SumM

set_option maxRecDepth 100000 in
set_option maxHeartbeats 4000000 in
theorem sumBack_any (x : Int) (hx0 : 0 ≤ x) (hx1 : x < 4294967296) (bs : List UInt8) (s t : Int × Int) (v : Value) (w : World) (hB : VBytes bs v w) : Calls Try.prog 6 #[.int .u32 x, v, pairV s, pairV t] w (Ret w (VEq (.bool true))) := by
  obtain ⟨A, c, rfl, -⟩ := VBytes.form hB
  obtain ⟨i0, hi, hz0, hz1, hz2⟩ := info_parts Try.infoB
  go_enter Try.func6, Try.ntmps6
  go_upto_region 1 with (fail)
  refine gen_world (fun W => Ext w W ∧ Box W w.heap.size 23 #[.int .i64 s.1, .int .i64 s.2] ∧ Box W (w.heap.size + 1) 23 #[.int .i64 t.1, .int .i64 t.2]) ⟨(ext_alloc _ _).tr (ext_alloc _ _), (Box.new _ _ _).alloc _, ?_⟩ ?_
  · have := Box.new (w.alloc (.cells (pairV s).cells 23)) 23 (pairV t).cells
    rwa [show (w.alloc (.cells (pairV s).cells 23)).heap.size = w.heap.size + 1 by simp] at this
  rintro W0 ⟨hE, hS, hT⟩
  have hB := VP.st _ _ _ _ hB hE
  by_cases hlen : (300 : Int) < bs.length
  · go_upto_region 2 with (fail)
    -- teasel/teasellaw02.SumBack, region 2: 2 operations, 1 ahead of the stores (draws nothing)
    refine vregion0 1 [] (by kernel_rfl) (fun _ _ _ _ _ h => h) ?_
    -- 0 law.go:71 t19 := call { callee := Callee.value (func 8), args := #[], argTypes := #[] }
    refine VWalk.call0 8 _ rfl (enters_of Try.func8 (by kernel_rfl) rfl) (want_none rfl) c_wakes ?_
    refine ⟨rfl, fun W2 hE2 => ?_⟩
    first | refine VFin.eq ?_ | refine VFin.any fun v2_0 hv2_0 => ?_
    refine VFin.nil ?_
    simp only [Act.put, List.setIfInBounds_toArray, List.set_cons_zero, List.set_cons_succ]
    -- tail: assign (tmp 19)
    go_wp2
    go_ret
    exact Ret.mk (hE.tr hE2) rfl
  have hle : bs.length ≤ 300 := by omega
  go_upto_region 3 with (fail)
  clear hlen
  -- teasel/teasellaw02.SumBack, region 3: 3 operations, 2 ahead of the stores (draws nothing)
  refine vregion0 2 [] (by kernel_rfl) (fun _ _ _ _ _ h => h) ?_
  -- 0 law.go:73 t20 := move (tmp 0)
  refine VWalk.move _ rfl (want_none rfl) (opd_frame 0 rfl (by kernel_rfl)) ?_
  -- 1 law.go:73 t21 := call { callee := Callee.value (func 23), args := #[tmp 20], argTypes := #[25] }
  refine VWalk.call1 23 _ _ rfl (enters_of Try.func23 (by kernel_rfl) rfl) (want_none rfl) (opd_dep 0 20 0 rfl rfl rfl rfl) (c_put x hx0 hx1) ?_
  refine ⟨rfl, fun W3 hE3 => ?_⟩
  first | refine VFin.eq ?_ | refine VFin.any fun v3_0 hv3_0 => ?_
  first | refine VFin.eq ?_ | refine VFin.any fun v3_1 hv3_1 => ?_
  refine VFin.nil ?_
  simp only [Act.put, List.setIfInBounds_toArray, List.set_cons_zero, List.set_cons_succ]
  -- tail: assign (tmp 21)
  obtain ⟨B1, c1, rfl, -⟩ := VBytes.form hv3_1
  have hB := VP.st _ _ _ _ hB hE3
  have hS := hS.ext hE3
  have hT := hT.ext hE3
  have hE := hE.tr hE3
  clear hE3
  go_upto_region 4 with (fail)
  have hX0 : Ext W3 (W3.alloc (.cells #[] 5)) := ext_alloc _ _
  go_wp2_with (first
    | (at_builtin; refine wpList_append_bytes rfl _ _ 26 rfl W3.heap.size 5 i0 (.int .u8 0) Try.underlying26 hi hz0 hz1 hz2 rfl (.slice (some ⟨W3.heap.size, 0, none⟩) 0 0) _ [] (putB x) rfl (OwnB.made W3 _ _ (Nat.le_refl _)) rfl (VP.st _ _ _ _ hv3_1 (ext_alloc _ _)) (by simp [putB_length]) (by simp) ?_; intro v4 w4 hown hgrow hat; have hX4 := hX0.grown hgrow (by simp) (fun k hk => by cases hk; exact Nat.le_refl _))
    | (at_builtin; refine wpList_append_bytes rfl _ _ 26 rfl W3.heap.size 5 i0 (.int .u8 0) Try.underlying26 hi hz0 hz1 hz2 rfl v4 _ ([] ++ putB x) bs rfl hown rfl (VP.st _ _ _ _ hB hX4) (by simp [putB_length]; omega) hX4.size ?_; intro v5 w5 hown5 hgrow5 hat5))
  have hX5 := hX4.grown hgrow5 hX4.size (fun k hk => by
    rcases hat with h | h
    · rw [h] at hk; cases hk; exact Nat.le_refl _
    · rw [h] at hk; cases hk; exact hX0.size)
  rw [List.nil_append] at hown5
  refine (take_any _ _ _ hown5.bytes (by simp [putB_length]; omega)).mono ?_
  rintro e W4 ⟨u, rfl, hE4, hu⟩
  obtain ⟨a1, a2, a3, rfl, h1, hR, h3⟩ := VTup.inv3 hu
  rw [take_put x hx0 hx1 bs] at h1
  rw [takeE_put] at h3
  rw [drop_put] at hR
  obtain rfl : a1 = _ := h1
  obtain rfl : a3 = _ := h3
  have hX : Ext W3 W4 := Below.trans hX5 (Below.mono hE4 hX5.size)
  have hB := VP.st _ _ _ _ hB hX
  have hQ := VP.st _ _ _ _ hv3_1 hX
  have hS := hS.ext hX
  have hT := hT.ext hX
  have hE := hE.tr hX
  clear hX hX5 hX4 hX0 hgrow hgrow5 hat hat5 hown hown5 hE4 hu hv3_1
  go_upto_region 5 with (fail)
  -- teasel/teasellaw02.SumBack, region 5: 19 operations, 19 ahead of the stores (draws nothing)
  refine vregion0 19 [] (by kernel_rfl) (fun _ _ _ _ _ h => h) ?_
  -- 0 law.go:75 t32 := move (tmp 9)
  refine VWalk.move _ rfl (want_none rfl) (opd_fr 9 rfl hQ (Ext.rf _) (by kernel_rfl)) ?_
  -- 1 law.go:75 t33 := call { callee := Callee.builtin Builtin.len, args := #[tmp 32], argTypes := #[26] }
  refine VWalk.lenB 26 5 _ rfl Try.underlying26 (want_none rfl) (opd_dep 0 32 0 rfl rfl rfl rfl) ?_
  -- 2 law.go:75 t34 := binOp BinOp.neq 3 (tmp 33) (const (Value.int IntKind.i64 4)) 3
  refine VWalk.neT _ _ _ _ rfl (want_none rfl) (opd_dep 1 33 0 rfl rfl rfl rfl) (opd_const _) rfl ?_
  -- 3 law.go:75 t35 := move (tmp 34)
  refine VWalk.move _ rfl (want_none rfl) (opd_dep 2 34 0 rfl rfl rfl rfl) ?_
  -- 4 law.go:75 t36 := move (tmp 12) [guard 3 false]
  refine VWalk.move _ rfl (want_ff 3 35 0 rfl (by kernel_rfl) rfl rfl rfl rfl) (opd_frame 12 rfl (by kernel_rfl)) ?_
  -- 5 law.go:75 t37 := binOp BinOp.neq 29 (tmp 36) (const (Value.int IntKind.i64 0)) 29 [guard 3 false]
  refine VWalk.neT _ _ _ _ rfl (want_ff 3 35 1 rfl (by kernel_rfl) rfl rfl rfl rfl) (opd_dep 4 36 0 rfl rfl rfl rfl) (opd_const _) rfl ?_
  -- 6 law.go:75 t38 := pick (tmp 35) (const (Value.bool true)) (tmp 37)
  refine VWalk.pickF _ _ _ rfl (want_none rfl) (opd_dep 3 35 2 rfl rfl rfl rfl) (opd_dep 5 37 0 rfl rfl rfl rfl) ?_
  -- 7 law.go:75 t39 := move (tmp 38)
  refine VWalk.move _ rfl (want_none rfl) (opd_dep 6 38 0 rfl rfl rfl rfl) ?_
  -- 8 law.go:75 t40 := move (tmp 10) [guard 7 false]
  refine VWalk.move _ rfl (want_ff 7 39 0 rfl (by kernel_rfl) rfl rfl rfl rfl) (opd_frame 10 rfl (by kernel_rfl)) ?_
  -- 9 law.go:75 t41 := move (tmp 0) [guard 7 false]
  refine VWalk.move _ rfl (want_ff 7 39 1 rfl (by kernel_rfl) rfl rfl rfl rfl) (opd_frame 0 rfl (by kernel_rfl)) ?_
  -- 10 law.go:75 t42 := binOp BinOp.neq 25 (tmp 40) (tmp 41) 25 [guard 7 false]
  refine VWalk.neT _ _ _ _ rfl (want_ff 7 39 2 rfl (by kernel_rfl) rfl rfl rfl rfl) (opd_dep 8 40 1 rfl rfl rfl rfl) (opd_dep 9 41 0 rfl rfl rfl rfl) rfl ?_
  -- 11 law.go:75 t43 := pick (tmp 39) (const (Value.bool true)) (tmp 42)
  refine VWalk.pickF _ _ _ rfl (want_none rfl) (opd_dep 7 39 3 rfl rfl rfl rfl) (opd_dep 10 42 0 rfl rfl rfl rfl) ?_
  -- 12 law.go:75 t44 := move (tmp 43)
  refine VWalk.move _ rfl (want_none rfl) (opd_dep 11 43 0 rfl rfl rfl rfl) ?_
  -- 13 law.go:75 t45 := move (tmp 11) [guard 12 false]
  refine VWalk.move _ rfl (want_ff 12 44 0 rfl (by kernel_rfl) rfl rfl rfl rfl) (opd_fr 11 rfl hR (Ext.rf _) (by kernel_rfl)) ?_
  -- 14 law.go:75 t46 := convert 26 9 (tmp 45) [guard 12 false]
  refine VWalk.string 26 9 5 _ rfl Try.underlying26 Try.underlying5 Try.underlying9 (want_ff 12 44 1 rfl (by kernel_rfl) rfl rfl rfl rfl) (opd_dep 13 45 0 rfl rfl rfl rfl) ?_
  -- 15 law.go:75 t47 := move (tmp 1) [guard 12 false]
  refine VWalk.move _ rfl (want_ff 12 44 2 rfl (by kernel_rfl) rfl rfl rfl rfl) (opd_fr 1 rfl hB (Ext.rf _) (by kernel_rfl)) ?_
  -- 16 law.go:75 t48 := convert 26 9 (tmp 47) [guard 12 false]
  refine VWalk.string 26 9 5 _ rfl Try.underlying26 Try.underlying5 Try.underlying9 (want_ff 12 44 3 rfl (by kernel_rfl) rfl rfl rfl rfl) (opd_dep 15 47 0 rfl rfl rfl rfl) ?_
  -- 17 law.go:75 t49 := binOp BinOp.neq 9 (tmp 46) (tmp 48) 9 [guard 12 false]
  refine VWalk.neTs _ _ _ _ rfl (want_ff 12 44 4 rfl (by kernel_rfl) rfl rfl rfl rfl) (opd_dep 14 46 2 rfl rfl rfl rfl) (opd_dep 16 48 0 rfl rfl rfl rfl) rfl ?_
  -- 18 law.go:75 t50 := pick (tmp 44) (const (Value.bool true)) (tmp 49)
  refine VWalk.pickF _ _ _ rfl (want_none rfl) (opd_dep 12 44 5 rfl rfl rfl rfl) (opd_dep 17 49 0 rfl rfl rfl rfl) ?_
  refine ⟨rfl, fun W5 hE5 => ?_⟩
  first | refine VFin.eq ?_ | refine VFin.any fun v5_0 hv5_0 => ?_
  first | refine VFin.eq ?_ | refine VFin.any fun v5_1 hv5_1 => ?_
  refine VFin.eq ?_  -- 2
  first | refine VFin.eq ?_ | refine VFin.any fun v5_3 hv5_3 => ?_
  first | refine VFin.eq ?_ | refine VFin.any fun v5_4 hv5_4 => ?_
  refine VFin.eq ?_  -- 5
  first | refine VFin.eq ?_ | refine VFin.any fun v5_6 hv5_6 => ?_
  first | refine VFin.eq ?_ | refine VFin.any fun v5_7 hv5_7 => ?_
  first | refine VFin.eq ?_ | refine VFin.any fun v5_8 hv5_8 => ?_
  first | refine VFin.eq ?_ | refine VFin.any fun v5_9 hv5_9 => ?_
  refine VFin.eq ?_  -- 10
  first | refine VFin.eq ?_ | refine VFin.any fun v5_11 hv5_11 => ?_
  first | refine VFin.eq ?_ | refine VFin.any fun v5_12 hv5_12 => ?_
  first | refine VFin.eq ?_ | refine VFin.any fun v5_13 hv5_13 => ?_
  refine VFin.eq ?_  -- 14
  first | refine VFin.eq ?_ | refine VFin.any fun v5_15 hv5_15 => ?_
  refine VFin.eq ?_  -- 16
  refine VFin.eq ?_  -- 17
  first | refine VFin.eq ?_ | refine VFin.any fun v5_18 hv5_18 => ?_
  refine VFin.nil ?_
  simp only [Act.put, List.setIfInBounds_toArray, List.set_cons_zero, List.set_cons_succ]
  -- tail: 
  have hQ := VP.st _ _ _ _ hQ hE5
  have hS := hS.ext hE5
  have hT := hT.ext hE5
  have hE := hE.tr hE5
  clear hE5 hR hB
  go_upto_region 7 with (fail)
  -- teasel/teasellaw02.SumBack, region 7: 10 operations, 7 ahead of the stores (draws nothing)
  refine vregion0 7 [5, 6] (by kernel_rfl) (fun _ _ _ _ _ h => h) ?_
  -- 0 law.go:78 t52 := move (tmp 9)
  refine VWalk.move _ rfl (want_none rfl) (opd_fr 9 rfl hQ (Ext.rf _) (by kernel_rfl)) ?_
  -- 1 law.go:78 t53 := slice 26 (tmp 52) none (some (const (Value.int IntKind.i64 3))) none
  refine VWalk.cutToB 26 5 _ _ .i64 3 rfl Try.underlying26 (by kernel_rfl) (want_none rfl) (opd_dep 0 52 0 rfl rfl rfl rfl) (opd_const _) (by simp [putB_length]) ?_
  -- 2 law.go:78 t54 := call { callee := Callee.value (func 11), args := #[tmp 53], argTypes := #[26] }
  refine VWalk.call1 11 _ _ rfl (enters_of Try.func11 (by kernel_rfl) rfl) (want_none rfl) (opd_dep 1 53 0 rfl rfl rfl rfl) (c_take ((putB x).take 3) (by simp; omega)) ?_
  -- 3 law.go:78 t51 := move (tmp 54)
  refine VWalk.move _ rfl (want_none rfl) (opd_dep 2 54 0 rfl rfl rfl rfl) ?_
  -- 4 law.go:78 t55 := extract (tmp 51) 0
  refine VWalk.extract _ 0 rfl rfl (want_none rfl) (opd_dep 3 51 0 rfl rfl rfl rfl) ?_
  -- 5 law.go:78 t56 := extract (tmp 51) 1
  refine VWalk.extract _ 1 rfl rfl (want_none rfl) (opd_dep 3 51 1 rfl rfl rfl rfl) ?_
  -- 6 law.go:78 t57 := extract (tmp 51) 2
  refine VWalk.extract _ 2 rfl rfl (want_none rfl) (opd_dep 3 51 2 rfl rfl rfl rfl) ?_
  refine ⟨rfl, fun W7 hE7 => ?_⟩
  first | refine VFin.eq ?_ | refine VFin.any fun v7_0 hv7_0 => ?_
  refine VFin.any fun v7_1 hv7_1 => ?_
  first | refine VFin.eq ?_ | refine VFin.any fun v7_2 hv7_2 => ?_
  first | refine VFin.eq ?_ | refine VFin.any fun v7_3 hv7_3 => ?_
  first | refine VFin.eq ?_ | refine VFin.any fun v7_4 hv7_4 => ?_
  first | refine VFin.eq ?_ | refine VFin.any fun v7_5 hv7_5 => ?_
  first | refine VFin.eq ?_ | refine VFin.any fun v7_6 hv7_6 => ?_
  refine VFin.nil ?_
  simp only [Act.put, List.setIfInBounds_toArray, List.set_cons_zero, List.set_cons_succ]
  -- tail: assign (tmp 55); assign (tmp 56); assign (tmp 57)
  have hS := hS.ext hE7
  have hT := hT.ext hE7
  have hE := hE.tr hE7
  clear hE7
  go_upto_region 8 with (fail)
  by_cases hs : rightB s.1 s.2 = true
  · by_cases ht : rightB t.1 t.2 = true
    · by_cases hst : s = t
      · skip
        -- teasel/teasellaw02.SumBack, region 8: 27 operations, 26 ahead of the stores
        refine law_end (by assumption) 26 [] 8 83 _ (by kernel_rfl) (by kernel_rfl) (fun _ _ _ _ _ h => h) rfl rfl rfl rfl rfl (by kernel_rfl) rfl 25 rfl rfl ?_
        -- 0 law.go:79 t58 := move (tmp 15)
        refine VWalk.move _ rfl (want_none rfl) (opd_frame 15 rfl (by kernel_rfl)) ?_
        -- 1 law.go:79 t59 := binOp BinOp.eql 29 (tmp 58) (const (Value.int IntKind.i64 10)) 29
        refine VWalk.eqT _ _ _ _ rfl (want_none rfl) (opd_dep 0 58 0 rfl rfl rfl rfl) (opd_const _) (takeE_short x) ?_
        -- 2 law.go:79 t60 := move (tmp 59)
        refine VWalk.move _ rfl (want_none rfl) (opd_dep 1 59 0 rfl rfl rfl rfl) ?_
        -- 3 law.go:79 t61 := load 23 (tmp 6) [guard 2 true]
        refine VWalk.loadBox 23 _ rfl (want_tt 2 60 0 rfl (by kernel_rfl) rfl rfl rfl rfl) (opd_frame 6 rfl (by kernel_rfl)) Try.underlying23 rfl (by kernel_rfl) hS (ext_drew _) ?_
        -- 4 law.go:79 t62 := call { callee := Callee.value (func 19), args := #[tmp 61], argTypes := #[23] } [guard 2 true]
        refine VWalk.call1 19 _ _ rfl (enters_of Try.func19 (by kernel_rfl) rfl) (want_tt 2 60 1 rfl (by kernel_rfl) rfl rfl rfl rfl) (opd_dep 3 61 0 rfl rfl rfl rfl) (c_right s) ?_
        rw [hs]
        -- 5 law.go:79 t63 := unOp UnOp.not 4 (tmp 62) [guard 2 true]
        refine VWalk.notB _ _ rfl (want_tt 2 60 2 rfl (by kernel_rfl) rfl rfl rfl rfl) (opd_dep 4 62 0 rfl rfl rfl rfl) rfl ?_
        -- 6 law.go:79 t64 := move (tmp 63) [guard 2 true]
        refine VWalk.move _ rfl (want_tt 2 60 3 rfl (by kernel_rfl) rfl rfl rfl rfl) (opd_dep 5 63 0 rfl rfl rfl rfl) ?_
        -- 7 law.go:79 t65 := load 23 (tmp 7) [guard 6 false]
        refine VWalk.loadBox 23 _ rfl (want_ff 6 64 0 rfl (by kernel_rfl) rfl rfl rfl rfl) (opd_frame 7 rfl (by kernel_rfl)) Try.underlying23 rfl (by kernel_rfl) hT (ext_drew _) ?_
        -- 8 law.go:79 t66 := call { callee := Callee.value (func 19), args := #[tmp 65], argTypes := #[23] } [guard 6 false]
        refine VWalk.call1 19 _ _ rfl (enters_of Try.func19 (by kernel_rfl) rfl) (want_ff 6 64 1 rfl (by kernel_rfl) rfl rfl rfl rfl) (opd_dep 7 65 0 rfl rfl rfl rfl) (c_right t) ?_
        rw [ht]
        -- 9 law.go:79 t67 := unOp UnOp.not 4 (tmp 66) [guard 6 false]
        refine VWalk.notB _ _ rfl (want_ff 6 64 2 rfl (by kernel_rfl) rfl rfl rfl rfl) (opd_dep 8 66 0 rfl rfl rfl rfl) rfl ?_
        -- 10 law.go:79 t68 := pick (tmp 64) (const (Value.bool true)) (tmp 67) [guard 2 true]
        refine VWalk.pickF _ _ _ rfl (want_tt 2 60 7 rfl (by kernel_rfl) rfl rfl rfl rfl) (opd_dep 6 64 3 rfl rfl rfl rfl) (opd_dep 9 67 0 rfl rfl rfl rfl) ?_
        -- 11 law.go:79 t69 := move (tmp 68) [guard 2 true]
        refine VWalk.move _ rfl (want_tt 2 60 8 rfl (by kernel_rfl) rfl rfl rfl rfl) (opd_dep 10 68 0 rfl rfl rfl rfl) ?_
        -- 12 law.go:79 t70 := load 23 (tmp 6) [guard 11 false]
        refine VWalk.loadBox 23 _ rfl (want_ff 11 69 0 rfl (by kernel_rfl) rfl rfl rfl rfl) (opd_frame 6 rfl (by kernel_rfl)) Try.underlying23 rfl (by kernel_rfl) hS (ext_drew _) ?_
        -- 13 law.go:79 t71 := call { callee := Callee.value (func 15), args := #[tmp 70], argTypes := #[23] } [guard 11 false]
        refine VWalk.call1 15 _ _ rfl (enters_of Try.func15 (by kernel_rfl) rfl) (want_ff 11 69 1 rfl (by kernel_rfl) rfl rfl rfl rfl) (opd_dep 12 70 0 rfl rfl rfl rfl) (c_value s) ?_
        -- 14 law.go:79 t72 := load 23 (tmp 7) [guard 11 false]
        refine VWalk.loadBox 23 _ rfl (want_ff 11 69 2 rfl (by kernel_rfl) rfl rfl rfl rfl) (opd_frame 7 rfl (by kernel_rfl)) Try.underlying23 rfl (by kernel_rfl) hT (ext_drew _) ?_
        -- 15 law.go:79 t73 := call { callee := Callee.value (func 15), args := #[tmp 72], argTypes := #[23] } [guard 11 false]
        refine VWalk.call1 15 _ _ rfl (enters_of Try.func15 (by kernel_rfl) rfl) (want_ff 11 69 3 rfl (by kernel_rfl) rfl rfl rfl rfl) (opd_dep 14 72 0 rfl rfl rfl rfl) (c_value t) ?_
        -- 16 law.go:79 t74 := binOp BinOp.eql 25 (tmp 71) (tmp 73) 25 [guard 11 false]
        refine VWalk.eqT _ _ _ _ rfl (want_ff 11 69 4 rfl (by kernel_rfl) rfl rfl rfl rfl) (opd_dep 13 71 2 rfl rfl rfl rfl) (opd_dep 15 73 0 rfl rfl rfl rfl) (by rw [hst]) ?_
        -- 17 law.go:79 t75 := load 23 (tmp 6) [guard 11 false]
        refine VWalk.loadBox 23 _ rfl (want_ff 11 69 5 rfl (by kernel_rfl) rfl rfl rfl rfl) (opd_frame 6 rfl (by kernel_rfl)) Try.underlying23 rfl (by kernel_rfl) hS (ext_drew _) ?_
        -- 18 law.go:79 t76 := load 23 (tmp 7) [guard 11 false]
        refine VWalk.loadBox 23 _ rfl (want_ff 11 69 6 rfl (by kernel_rfl) rfl rfl rfl rfl) (opd_frame 7 rfl (by kernel_rfl)) Try.underlying23 rfl (by kernel_rfl) hT (ext_drew _) ?_
        -- 19 law.go:79 t77 := binOp BinOp.eql 23 (tmp 75) (tmp 76) 23 [guard 11 false]
        refine VWalk.eqS _ _ _ _ rfl rfl (want_ff 11 69 7 rfl (by kernel_rfl) rfl rfl rfl rfl) (opd_dep 17 75 1 rfl rfl rfl rfl) (opd_dep 18 76 0 rfl rfl rfl rfl) hst ?_
        -- 20 law.go:79 t78 := binOp BinOp.eql 4 (tmp 74) (tmp 77) 4 [guard 11 false]
        refine VWalk.eqTb _ _ _ _ rfl (want_ff 11 69 8 rfl (by kernel_rfl) rfl rfl rfl rfl) (opd_dep 16 74 3 rfl rfl rfl rfl) (opd_dep 19 77 0 rfl rfl rfl rfl) Try.underlying4 rfl ?_
        -- 21 law.go:79 t79 := pick (tmp 69) (const (Value.bool true)) (tmp 78) [guard 2 true]
        refine VWalk.pickF _ _ _ rfl (want_tt 2 60 18 rfl (by kernel_rfl) rfl rfl rfl rfl) (opd_dep 11 69 9 rfl rfl rfl rfl) (opd_dep 20 78 0 rfl rfl rfl rfl) ?_
        -- 22 law.go:79 t80 := pick (tmp 60) (tmp 79) (const (Value.bool false))
        refine VWalk.pickT _ _ _ rfl (want_none rfl) (opd_dep 2 60 19 rfl rfl rfl rfl) (opd_dep 21 79 0 rfl rfl rfl rfl) ?_
        -- 23 law.go:79 t81 := move (tmp 80)
        refine VWalk.move _ rfl (want_none rfl) (opd_dep 22 80 0 rfl rfl rfl rfl) ?_
        -- 24 law.go:79 t82 := call { callee := Callee.value (func 8), args := #[], argTypes := #[] } [guard 23 true]
        refine VWalk.call0 8 _ rfl (enters_of Try.func8 (by kernel_rfl) rfl) (want_tt 23 81 0 rfl (by kernel_rfl) rfl rfl rfl rfl) c_wakes ?_
        -- 25 law.go:79 t83 := pick (tmp 81) (tmp 82) (const (Value.bool false))
        refine VWalk.pickT _ _ _ rfl (want_none rfl) (opd_dep 23 81 1 rfl rfl rfl rfl) (opd_dep 24 82 0 rfl rfl rfl rfl) ?_
        refine ⟨rfl, rfl, rfl, fun W8 hE8 => ?_⟩
        exact Ret.mk (hE.tr ((ext_drew _).tr hE8)) rfl
      · skip
        -- teasel/teasellaw02.SumBack, region 8: 27 operations, 26 ahead of the stores
        refine law_end (by assumption) 26 [] 8 83 _ (by kernel_rfl) (by kernel_rfl) (fun _ _ _ _ _ h => h) rfl rfl rfl rfl rfl (by kernel_rfl) rfl 25 rfl rfl ?_
        -- 0 law.go:79 t58 := move (tmp 15)
        refine VWalk.move _ rfl (want_none rfl) (opd_frame 15 rfl (by kernel_rfl)) ?_
        -- 1 law.go:79 t59 := binOp BinOp.eql 29 (tmp 58) (const (Value.int IntKind.i64 10)) 29
        refine VWalk.eqT _ _ _ _ rfl (want_none rfl) (opd_dep 0 58 0 rfl rfl rfl rfl) (opd_const _) (takeE_short x) ?_
        -- 2 law.go:79 t60 := move (tmp 59)
        refine VWalk.move _ rfl (want_none rfl) (opd_dep 1 59 0 rfl rfl rfl rfl) ?_
        -- 3 law.go:79 t61 := load 23 (tmp 6) [guard 2 true]
        refine VWalk.loadBox 23 _ rfl (want_tt 2 60 0 rfl (by kernel_rfl) rfl rfl rfl rfl) (opd_frame 6 rfl (by kernel_rfl)) Try.underlying23 rfl (by kernel_rfl) hS (ext_drew _) ?_
        -- 4 law.go:79 t62 := call { callee := Callee.value (func 19), args := #[tmp 61], argTypes := #[23] } [guard 2 true]
        refine VWalk.call1 19 _ _ rfl (enters_of Try.func19 (by kernel_rfl) rfl) (want_tt 2 60 1 rfl (by kernel_rfl) rfl rfl rfl rfl) (opd_dep 3 61 0 rfl rfl rfl rfl) (c_right s) ?_
        rw [hs]
        -- 5 law.go:79 t63 := unOp UnOp.not 4 (tmp 62) [guard 2 true]
        refine VWalk.notB _ _ rfl (want_tt 2 60 2 rfl (by kernel_rfl) rfl rfl rfl rfl) (opd_dep 4 62 0 rfl rfl rfl rfl) rfl ?_
        -- 6 law.go:79 t64 := move (tmp 63) [guard 2 true]
        refine VWalk.move _ rfl (want_tt 2 60 3 rfl (by kernel_rfl) rfl rfl rfl rfl) (opd_dep 5 63 0 rfl rfl rfl rfl) ?_
        -- 7 law.go:79 t65 := load 23 (tmp 7) [guard 6 false]
        refine VWalk.loadBox 23 _ rfl (want_ff 6 64 0 rfl (by kernel_rfl) rfl rfl rfl rfl) (opd_frame 7 rfl (by kernel_rfl)) Try.underlying23 rfl (by kernel_rfl) hT (ext_drew _) ?_
        -- 8 law.go:79 t66 := call { callee := Callee.value (func 19), args := #[tmp 65], argTypes := #[23] } [guard 6 false]
        refine VWalk.call1 19 _ _ rfl (enters_of Try.func19 (by kernel_rfl) rfl) (want_ff 6 64 1 rfl (by kernel_rfl) rfl rfl rfl rfl) (opd_dep 7 65 0 rfl rfl rfl rfl) (c_right t) ?_
        rw [ht]
        -- 9 law.go:79 t67 := unOp UnOp.not 4 (tmp 66) [guard 6 false]
        refine VWalk.notB _ _ rfl (want_ff 6 64 2 rfl (by kernel_rfl) rfl rfl rfl rfl) (opd_dep 8 66 0 rfl rfl rfl rfl) rfl ?_
        -- 10 law.go:79 t68 := pick (tmp 64) (const (Value.bool true)) (tmp 67) [guard 2 true]
        refine VWalk.pickF _ _ _ rfl (want_tt 2 60 7 rfl (by kernel_rfl) rfl rfl rfl rfl) (opd_dep 6 64 3 rfl rfl rfl rfl) (opd_dep 9 67 0 rfl rfl rfl rfl) ?_
        -- 11 law.go:79 t69 := move (tmp 68) [guard 2 true]
        refine VWalk.move _ rfl (want_tt 2 60 8 rfl (by kernel_rfl) rfl rfl rfl rfl) (opd_dep 10 68 0 rfl rfl rfl rfl) ?_
        -- 12 law.go:79 t70 := load 23 (tmp 6) [guard 11 false]
        refine VWalk.loadBox 23 _ rfl (want_ff 11 69 0 rfl (by kernel_rfl) rfl rfl rfl rfl) (opd_frame 6 rfl (by kernel_rfl)) Try.underlying23 rfl (by kernel_rfl) hS (ext_drew _) ?_
        -- 13 law.go:79 t71 := call { callee := Callee.value (func 15), args := #[tmp 70], argTypes := #[23] } [guard 11 false]
        refine VWalk.call1 15 _ _ rfl (enters_of Try.func15 (by kernel_rfl) rfl) (want_ff 11 69 1 rfl (by kernel_rfl) rfl rfl rfl rfl) (opd_dep 12 70 0 rfl rfl rfl rfl) (c_value s) ?_
        -- 14 law.go:79 t72 := load 23 (tmp 7) [guard 11 false]
        refine VWalk.loadBox 23 _ rfl (want_ff 11 69 2 rfl (by kernel_rfl) rfl rfl rfl rfl) (opd_frame 7 rfl (by kernel_rfl)) Try.underlying23 rfl (by kernel_rfl) hT (ext_drew _) ?_
        -- 15 law.go:79 t73 := call { callee := Callee.value (func 15), args := #[tmp 72], argTypes := #[23] } [guard 11 false]
        refine VWalk.call1 15 _ _ rfl (enters_of Try.func15 (by kernel_rfl) rfl) (want_ff 11 69 3 rfl (by kernel_rfl) rfl rfl rfl rfl) (opd_dep 14 72 0 rfl rfl rfl rfl) (c_value t) ?_
        -- 16 law.go:79 t74 := binOp BinOp.eql 25 (tmp 71) (tmp 73) 25 [guard 11 false]
        refine VWalk.eqT' _ _ _ _ rfl (want_ff 11 69 4 rfl (by kernel_rfl) rfl rfl rfl rfl) (opd_dep 13 71 2 rfl rfl rfl rfl) (opd_dep 15 73 0 rfl rfl rfl rfl) (fun h => hst ((value_eq hs ht).1 h)) ?_
        -- 17 law.go:79 t75 := load 23 (tmp 6) [guard 11 false]
        refine VWalk.loadBox 23 _ rfl (want_ff 11 69 5 rfl (by kernel_rfl) rfl rfl rfl rfl) (opd_frame 6 rfl (by kernel_rfl)) Try.underlying23 rfl (by kernel_rfl) hS (ext_drew _) ?_
        -- 18 law.go:79 t76 := load 23 (tmp 7) [guard 11 false]
        refine VWalk.loadBox 23 _ rfl (want_ff 11 69 6 rfl (by kernel_rfl) rfl rfl rfl rfl) (opd_frame 7 rfl (by kernel_rfl)) Try.underlying23 rfl (by kernel_rfl) hT (ext_drew _) ?_
        -- 19 law.go:79 t77 := binOp BinOp.eql 23 (tmp 75) (tmp 76) 23 [guard 11 false]
        refine VWalk.eqS' _ _ _ _ rfl rfl (want_ff 11 69 7 rfl (by kernel_rfl) rfl rfl rfl rfl) (opd_dep 17 75 1 rfl rfl rfl rfl) (opd_dep 18 76 0 rfl rfl rfl rfl) hst ?_
        -- 20 law.go:79 t78 := binOp BinOp.eql 4 (tmp 74) (tmp 77) 4 [guard 11 false]
        refine VWalk.eqTb _ _ _ _ rfl (want_ff 11 69 8 rfl (by kernel_rfl) rfl rfl rfl rfl) (opd_dep 16 74 3 rfl rfl rfl rfl) (opd_dep 19 77 0 rfl rfl rfl rfl) Try.underlying4 rfl ?_
        -- 21 law.go:79 t79 := pick (tmp 69) (const (Value.bool true)) (tmp 78) [guard 2 true]
        refine VWalk.pickF _ _ _ rfl (want_tt 2 60 18 rfl (by kernel_rfl) rfl rfl rfl rfl) (opd_dep 11 69 9 rfl rfl rfl rfl) (opd_dep 20 78 0 rfl rfl rfl rfl) ?_
        -- 22 law.go:79 t80 := pick (tmp 60) (tmp 79) (const (Value.bool false))
        refine VWalk.pickT _ _ _ rfl (want_none rfl) (opd_dep 2 60 19 rfl rfl rfl rfl) (opd_dep 21 79 0 rfl rfl rfl rfl) ?_
        -- 23 law.go:79 t81 := move (tmp 80)
        refine VWalk.move _ rfl (want_none rfl) (opd_dep 22 80 0 rfl rfl rfl rfl) ?_
        -- 24 law.go:79 t82 := call { callee := Callee.value (func 8), args := #[], argTypes := #[] } [guard 23 true]
        refine VWalk.call0 8 _ rfl (enters_of Try.func8 (by kernel_rfl) rfl) (want_tt 23 81 0 rfl (by kernel_rfl) rfl rfl rfl rfl) c_wakes ?_
        -- 25 law.go:79 t83 := pick (tmp 81) (tmp 82) (const (Value.bool false))
        refine VWalk.pickT _ _ _ rfl (want_none rfl) (opd_dep 23 81 1 rfl rfl rfl rfl) (opd_dep 24 82 0 rfl rfl rfl rfl) ?_
        refine ⟨rfl, rfl, rfl, fun W8 hE8 => ?_⟩
        exact Ret.mk (hE.tr ((ext_drew _).tr hE8)) rfl
    · have ht : rightB t.1 t.2 = false := by simpa using ht
      -- teasel/teasellaw02.SumBack, region 8: 27 operations, 26 ahead of the stores
      refine law_end (by assumption) 26 [] 8 83 _ (by kernel_rfl) (by kernel_rfl) (fun _ _ _ _ _ h => h) rfl rfl rfl rfl rfl (by kernel_rfl) rfl 25 rfl rfl ?_
      -- 0 law.go:79 t58 := move (tmp 15)
      refine VWalk.move _ rfl (want_none rfl) (opd_frame 15 rfl (by kernel_rfl)) ?_
      -- 1 law.go:79 t59 := binOp BinOp.eql 29 (tmp 58) (const (Value.int IntKind.i64 10)) 29
      refine VWalk.eqT _ _ _ _ rfl (want_none rfl) (opd_dep 0 58 0 rfl rfl rfl rfl) (opd_const _) (takeE_short x) ?_
      -- 2 law.go:79 t60 := move (tmp 59)
      refine VWalk.move _ rfl (want_none rfl) (opd_dep 1 59 0 rfl rfl rfl rfl) ?_
      -- 3 law.go:79 t61 := load 23 (tmp 6) [guard 2 true]
      refine VWalk.loadBox 23 _ rfl (want_tt 2 60 0 rfl (by kernel_rfl) rfl rfl rfl rfl) (opd_frame 6 rfl (by kernel_rfl)) Try.underlying23 rfl (by kernel_rfl) hS (ext_drew _) ?_
      -- 4 law.go:79 t62 := call { callee := Callee.value (func 19), args := #[tmp 61], argTypes := #[23] } [guard 2 true]
      refine VWalk.call1 19 _ _ rfl (enters_of Try.func19 (by kernel_rfl) rfl) (want_tt 2 60 1 rfl (by kernel_rfl) rfl rfl rfl rfl) (opd_dep 3 61 0 rfl rfl rfl rfl) (c_right s) ?_
      rw [hs]
      -- 5 law.go:79 t63 := unOp UnOp.not 4 (tmp 62) [guard 2 true]
      refine VWalk.notB _ _ rfl (want_tt 2 60 2 rfl (by kernel_rfl) rfl rfl rfl rfl) (opd_dep 4 62 0 rfl rfl rfl rfl) rfl ?_
      -- 6 law.go:79 t64 := move (tmp 63) [guard 2 true]
      refine VWalk.move _ rfl (want_tt 2 60 3 rfl (by kernel_rfl) rfl rfl rfl rfl) (opd_dep 5 63 0 rfl rfl rfl rfl) ?_
      -- 7 law.go:79 t65 := load 23 (tmp 7) [guard 6 false]
      refine VWalk.loadBox 23 _ rfl (want_ff 6 64 0 rfl (by kernel_rfl) rfl rfl rfl rfl) (opd_frame 7 rfl (by kernel_rfl)) Try.underlying23 rfl (by kernel_rfl) hT (ext_drew _) ?_
      -- 8 law.go:79 t66 := call { callee := Callee.value (func 19), args := #[tmp 65], argTypes := #[23] } [guard 6 false]
      refine VWalk.call1 19 _ _ rfl (enters_of Try.func19 (by kernel_rfl) rfl) (want_ff 6 64 1 rfl (by kernel_rfl) rfl rfl rfl rfl) (opd_dep 7 65 0 rfl rfl rfl rfl) (c_right t) ?_
      rw [ht]
      -- 9 law.go:79 t67 := unOp UnOp.not 4 (tmp 66) [guard 6 false]
      refine VWalk.notB _ _ rfl (want_ff 6 64 2 rfl (by kernel_rfl) rfl rfl rfl rfl) (opd_dep 8 66 0 rfl rfl rfl rfl) rfl ?_
      -- 10 law.go:79 t68 := pick (tmp 64) (const (Value.bool true)) (tmp 67) [guard 2 true]
      refine VWalk.pickF _ _ _ rfl (want_tt 2 60 7 rfl (by kernel_rfl) rfl rfl rfl rfl) (opd_dep 6 64 3 rfl rfl rfl rfl) (opd_dep 9 67 0 rfl rfl rfl rfl) ?_
      -- 11 law.go:79 t69 := move (tmp 68) [guard 2 true]
      refine VWalk.move _ rfl (want_tt 2 60 8 rfl (by kernel_rfl) rfl rfl rfl rfl) (opd_dep 10 68 0 rfl rfl rfl rfl) ?_
      -- 12 law.go:79 t70 := load 23 (tmp 6) [guard 11 false]
      refine VWalk.skip (want_tf 11 69 0 rfl (by kernel_rfl) rfl rfl rfl rfl) ?_
      -- 13 law.go:79 t71 := call { callee := Callee.value (func 15), args := #[tmp 70], argTypes := #[23] } [guard 11 false]
      refine VWalk.skip (want_tf 11 69 1 rfl (by kernel_rfl) rfl rfl rfl rfl) ?_
      -- 14 law.go:79 t72 := load 23 (tmp 7) [guard 11 false]
      refine VWalk.skip (want_tf 11 69 2 rfl (by kernel_rfl) rfl rfl rfl rfl) ?_
      -- 15 law.go:79 t73 := call { callee := Callee.value (func 15), args := #[tmp 72], argTypes := #[23] } [guard 11 false]
      refine VWalk.skip (want_tf 11 69 3 rfl (by kernel_rfl) rfl rfl rfl rfl) ?_
      -- 16 law.go:79 t74 := binOp BinOp.eql 25 (tmp 71) (tmp 73) 25 [guard 11 false]
      refine VWalk.skip (want_tf 11 69 4 rfl (by kernel_rfl) rfl rfl rfl rfl) ?_
      -- 17 law.go:79 t75 := load 23 (tmp 6) [guard 11 false]
      refine VWalk.skip (want_tf 11 69 5 rfl (by kernel_rfl) rfl rfl rfl rfl) ?_
      -- 18 law.go:79 t76 := load 23 (tmp 7) [guard 11 false]
      refine VWalk.skip (want_tf 11 69 6 rfl (by kernel_rfl) rfl rfl rfl rfl) ?_
      -- 19 law.go:79 t77 := binOp BinOp.eql 23 (tmp 75) (tmp 76) 23 [guard 11 false]
      refine VWalk.skip (want_tf 11 69 7 rfl (by kernel_rfl) rfl rfl rfl rfl) ?_
      -- 20 law.go:79 t78 := binOp BinOp.eql 4 (tmp 74) (tmp 77) 4 [guard 11 false]
      refine VWalk.skip (want_tf 11 69 8 rfl (by kernel_rfl) rfl rfl rfl rfl) ?_
      -- 21 law.go:79 t79 := pick (tmp 69) (const (Value.bool true)) (tmp 78) [guard 2 true]
      refine VWalk.pickT _ _ _ rfl (want_tt 2 60 18 rfl (by kernel_rfl) rfl rfl rfl rfl) (opd_dep 11 69 9 rfl rfl rfl rfl) (opd_const _) ?_
      -- 22 law.go:79 t80 := pick (tmp 60) (tmp 79) (const (Value.bool false))
      refine VWalk.pickT _ _ _ rfl (want_none rfl) (opd_dep 2 60 19 rfl rfl rfl rfl) (opd_dep 21 79 0 rfl rfl rfl rfl) ?_
      -- 23 law.go:79 t81 := move (tmp 80)
      refine VWalk.move _ rfl (want_none rfl) (opd_dep 22 80 0 rfl rfl rfl rfl) ?_
      -- 24 law.go:79 t82 := call { callee := Callee.value (func 8), args := #[], argTypes := #[] } [guard 23 true]
      refine VWalk.call0 8 _ rfl (enters_of Try.func8 (by kernel_rfl) rfl) (want_tt 23 81 0 rfl (by kernel_rfl) rfl rfl rfl rfl) c_wakes ?_
      -- 25 law.go:79 t83 := pick (tmp 81) (tmp 82) (const (Value.bool false))
      refine VWalk.pickT _ _ _ rfl (want_none rfl) (opd_dep 23 81 1 rfl rfl rfl rfl) (opd_dep 24 82 0 rfl rfl rfl rfl) ?_
      refine ⟨rfl, rfl, rfl, fun W8 hE8 => ?_⟩
      exact Ret.mk (hE.tr ((ext_drew _).tr hE8)) rfl
  · have hs : rightB s.1 s.2 = false := by simpa using hs
    -- teasel/teasellaw02.SumBack, region 8: 27 operations, 26 ahead of the stores
    refine law_end (by assumption) 26 [] 8 83 _ (by kernel_rfl) (by kernel_rfl) (fun _ _ _ _ _ h => h) rfl rfl rfl rfl rfl (by kernel_rfl) rfl 25 rfl rfl ?_
    -- 0 law.go:79 t58 := move (tmp 15)
    refine VWalk.move _ rfl (want_none rfl) (opd_frame 15 rfl (by kernel_rfl)) ?_
    -- 1 law.go:79 t59 := binOp BinOp.eql 29 (tmp 58) (const (Value.int IntKind.i64 10)) 29
    refine VWalk.eqT _ _ _ _ rfl (want_none rfl) (opd_dep 0 58 0 rfl rfl rfl rfl) (opd_const _) (takeE_short x) ?_
    -- 2 law.go:79 t60 := move (tmp 59)
    refine VWalk.move _ rfl (want_none rfl) (opd_dep 1 59 0 rfl rfl rfl rfl) ?_
    -- 3 law.go:79 t61 := load 23 (tmp 6) [guard 2 true]
    refine VWalk.loadBox 23 _ rfl (want_tt 2 60 0 rfl (by kernel_rfl) rfl rfl rfl rfl) (opd_frame 6 rfl (by kernel_rfl)) Try.underlying23 rfl (by kernel_rfl) hS (ext_drew _) ?_
    -- 4 law.go:79 t62 := call { callee := Callee.value (func 19), args := #[tmp 61], argTypes := #[23] } [guard 2 true]
    refine VWalk.call1 19 _ _ rfl (enters_of Try.func19 (by kernel_rfl) rfl) (want_tt 2 60 1 rfl (by kernel_rfl) rfl rfl rfl rfl) (opd_dep 3 61 0 rfl rfl rfl rfl) (c_right s) ?_
    rw [hs]
    -- 5 law.go:79 t63 := unOp UnOp.not 4 (tmp 62) [guard 2 true]
    refine VWalk.notB _ _ rfl (want_tt 2 60 2 rfl (by kernel_rfl) rfl rfl rfl rfl) (opd_dep 4 62 0 rfl rfl rfl rfl) rfl ?_
    -- 6 law.go:79 t64 := move (tmp 63) [guard 2 true]
    refine VWalk.move _ rfl (want_tt 2 60 3 rfl (by kernel_rfl) rfl rfl rfl rfl) (opd_dep 5 63 0 rfl rfl rfl rfl) ?_
    -- 7 law.go:79 t65 := load 23 (tmp 7) [guard 6 false]
    refine VWalk.skip (want_tf 6 64 0 rfl (by kernel_rfl) rfl rfl rfl rfl) ?_
    -- 8 law.go:79 t66 := call { callee := Callee.value (func 19), args := #[tmp 65], argTypes := #[23] } [guard 6 false]
    refine VWalk.skip (want_tf 6 64 1 rfl (by kernel_rfl) rfl rfl rfl rfl) ?_
    -- 9 law.go:79 t67 := unOp UnOp.not 4 (tmp 66) [guard 6 false]
    refine VWalk.skip (want_tf 6 64 2 rfl (by kernel_rfl) rfl rfl rfl rfl) ?_
    -- 10 law.go:79 t68 := pick (tmp 64) (const (Value.bool true)) (tmp 67) [guard 2 true]
    refine VWalk.pickT _ _ _ rfl (want_tt 2 60 7 rfl (by kernel_rfl) rfl rfl rfl rfl) (opd_dep 6 64 3 rfl rfl rfl rfl) (opd_const _) ?_
    -- 11 law.go:79 t69 := move (tmp 68) [guard 2 true]
    refine VWalk.move _ rfl (want_tt 2 60 8 rfl (by kernel_rfl) rfl rfl rfl rfl) (opd_dep 10 68 0 rfl rfl rfl rfl) ?_
    -- 12 law.go:79 t70 := load 23 (tmp 6) [guard 11 false]
    refine VWalk.skip (want_tf 11 69 0 rfl (by kernel_rfl) rfl rfl rfl rfl) ?_
    -- 13 law.go:79 t71 := call { callee := Callee.value (func 15), args := #[tmp 70], argTypes := #[23] } [guard 11 false]
    refine VWalk.skip (want_tf 11 69 1 rfl (by kernel_rfl) rfl rfl rfl rfl) ?_
    -- 14 law.go:79 t72 := load 23 (tmp 7) [guard 11 false]
    refine VWalk.skip (want_tf 11 69 2 rfl (by kernel_rfl) rfl rfl rfl rfl) ?_
    -- 15 law.go:79 t73 := call { callee := Callee.value (func 15), args := #[tmp 72], argTypes := #[23] } [guard 11 false]
    refine VWalk.skip (want_tf 11 69 3 rfl (by kernel_rfl) rfl rfl rfl rfl) ?_
    -- 16 law.go:79 t74 := binOp BinOp.eql 25 (tmp 71) (tmp 73) 25 [guard 11 false]
    refine VWalk.skip (want_tf 11 69 4 rfl (by kernel_rfl) rfl rfl rfl rfl) ?_
    -- 17 law.go:79 t75 := load 23 (tmp 6) [guard 11 false]
    refine VWalk.skip (want_tf 11 69 5 rfl (by kernel_rfl) rfl rfl rfl rfl) ?_
    -- 18 law.go:79 t76 := load 23 (tmp 7) [guard 11 false]
    refine VWalk.skip (want_tf 11 69 6 rfl (by kernel_rfl) rfl rfl rfl rfl) ?_
    -- 19 law.go:79 t77 := binOp BinOp.eql 23 (tmp 75) (tmp 76) 23 [guard 11 false]
    refine VWalk.skip (want_tf 11 69 7 rfl (by kernel_rfl) rfl rfl rfl rfl) ?_
    -- 20 law.go:79 t78 := binOp BinOp.eql 4 (tmp 74) (tmp 77) 4 [guard 11 false]
    refine VWalk.skip (want_tf 11 69 8 rfl (by kernel_rfl) rfl rfl rfl rfl) ?_
    -- 21 law.go:79 t79 := pick (tmp 69) (const (Value.bool true)) (tmp 78) [guard 2 true]
    refine VWalk.pickT _ _ _ rfl (want_tt 2 60 18 rfl (by kernel_rfl) rfl rfl rfl rfl) (opd_dep 11 69 9 rfl rfl rfl rfl) (opd_const _) ?_
    -- 22 law.go:79 t80 := pick (tmp 60) (tmp 79) (const (Value.bool false))
    refine VWalk.pickT _ _ _ rfl (want_none rfl) (opd_dep 2 60 19 rfl rfl rfl rfl) (opd_dep 21 79 0 rfl rfl rfl rfl) ?_
    -- 23 law.go:79 t81 := move (tmp 80)
    refine VWalk.move _ rfl (want_none rfl) (opd_dep 22 80 0 rfl rfl rfl rfl) ?_
    -- 24 law.go:79 t82 := call { callee := Callee.value (func 8), args := #[], argTypes := #[] } [guard 23 true]
    refine VWalk.call0 8 _ rfl (enters_of Try.func8 (by kernel_rfl) rfl) (want_tt 23 81 0 rfl (by kernel_rfl) rfl rfl rfl rfl) c_wakes ?_
    -- 25 law.go:79 t83 := pick (tmp 81) (tmp 82) (const (Value.bool false))
    refine VWalk.pickT _ _ _ rfl (want_none rfl) (opd_dep 23 81 1 rfl rfl rfl rfl) (opd_dep 24 82 0 rfl rfl rfl rfl) ?_
    refine ⟨rfl, rfl, rfl, fun W8 hE8 => ?_⟩
    exact Ret.mk (hE.tr ((ext_drew _).tr hE8)) rfl
end Go.Proofs.Yteiebmonbjcgnaa
