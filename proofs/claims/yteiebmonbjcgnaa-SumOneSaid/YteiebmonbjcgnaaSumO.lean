/- SumOne, walked. -/
import Derived.Test.YteiebmonbjcgnaaSumF
import Derived.Test.YteiebmonbjcgnaaY
import Derived.Deep.Cut
import Derived.Laws.Bits64
namespace Go.Proofs.Yteiebmonbjcgnaa
open Go.RowKit Go.Shelf SumM

theorem bits_xor_u8 (x y : UInt8) : bits .xor .u8 (x.toNat : Int) (y.toNat : Int) = ((x ^^^ y).toNat : Int) := by
  have hx := x.toNat_lt
  have hy := y.toNat_lt
  have hz := (x ^^^ y).toNat_lt
  have h1 : (BitVec.ofInt IntKind.u8.bits (x.toNat : Int)).toNat = x.toNat := by
    show (BitVec.ofInt 8 (x.toNat : Int)).toNat = x.toNat
    rw [BitVec.toNat_ofInt]; omega
  have h2 : (BitVec.ofInt IntKind.u8.bits (y.toNat : Int)).toNat = y.toNat := by
    show (BitVec.ofInt 8 (y.toNat : Int)).toNat = y.toNat
    rw [BitVec.toNat_ofInt]; omega
  have h3 : (x ^^^ y).toNat = x.toNat ^^^ y.toNat := UInt8.toNat_xor x y
  unfold bits
  simp only []
  rw [BitVec.toNat_xor, h1, h2, ← h3]
  exact IntWalk.u8_in _ (by omega)
theorem xor_ne (x y : UInt8) (hy : ¬ (y.toNat : Int) = 0) : x ^^^ y ≠ x := by
  intro h
  apply hy
  have h1 : y = 0 := by
    have h2 : x ^^^ (x ^^^ y) = x ^^^ x := by rw [h]
    rwa [← UInt8.xor_assoc, UInt8.xor_self, UInt8.zero_xor] at h2
  rw [h1]; rfl

set_option maxRecDepth 100000 in
set_option maxHeartbeats 4000000 in
theorem sumOne_any (bs : List UInt8) (at_ : Int) (y : UInt8) (v : Value) (w : World) (hB : VBytes bs v w) : Calls Try.prog 5 #[v, .int .i64 at_, byteV y] w (Ret w (VEq (.bool true))) := by
  obtain ⟨A, c, rfl, hc1, hc2, -⟩ := VBytes.form hB
  obtain ⟨i0, hi, hz0, hz1, hz2⟩ := info_parts Try.infoB
  unfold maxLen at hc2
  go_enter Try.func5, Try.ntmps5
  unfold byteV
  by_cases hz : (bs.length : Int) = 0
  · go_upto_region 2 with (fail)
    -- teasel/teasellaw02.SumOne, region 2: 2 operations, 1 ahead of the stores (draws nothing)
    refine vregion0 1 [] (by kernel_rfl) (fun _ _ _ _ _ h => h) ?_
    -- 0 law.go:60 t20 := call { callee := Callee.value (func 8), args := #[], argTypes := #[] }
    refine VWalk.call0 8 _ rfl (enters_of Try.func8 (by kernel_rfl) rfl) (want_none rfl) c_wakes ?_
    refine ⟨rfl, fun W2 hE2 => ?_⟩
    first | refine VFin.eq ?_ | refine VFin.any fun v2_0 hv2_0 => ?_
    refine VFin.nil ?_
    simp only [Act.put, List.setIfInBounds_toArray, List.set_cons_zero, List.set_cons_succ]
    -- tail: assign (tmp 20)
    go_wp2
    go_ret
    exact Ret.mk hE2 rfl
  have ez : ((bs.length : Int) == 0) = false := by rw [beq_eq_false_iff_ne]; omega
  by_cases hlen : (3000 : Int) < bs.length
  · go_upto_region 2 with (fail)
    -- teasel/teasellaw02.SumOne, region 2: 2 operations, 1 ahead of the stores (draws nothing)
    refine vregion0 1 [] (by kernel_rfl) (fun _ _ _ _ _ h => h) ?_
    -- 0 law.go:60 t20 := call { callee := Callee.value (func 8), args := #[], argTypes := #[] }
    refine VWalk.call0 8 _ rfl (enters_of Try.func8 (by kernel_rfl) rfl) (want_none rfl) c_wakes ?_
    refine ⟨rfl, fun W2 hE2 => ?_⟩
    first | refine VFin.eq ?_ | refine VFin.any fun v2_0 hv2_0 => ?_
    refine VFin.nil ?_
    simp only [Act.put, List.setIfInBounds_toArray, List.set_cons_zero, List.set_cons_succ]
    -- tail: assign (tmp 20)
    go_wp2
    go_ret
    exact Ret.mk hE2 rfl
  by_cases hy : (y.toNat : Int) = 0
  · go_upto_region 2 with (fail)
    -- teasel/teasellaw02.SumOne, region 2: 2 operations, 1 ahead of the stores (draws nothing)
    refine vregion0 1 [] (by kernel_rfl) (fun _ _ _ _ _ h => h) ?_
    -- 0 law.go:60 t20 := call { callee := Callee.value (func 8), args := #[], argTypes := #[] }
    refine VWalk.call0 8 _ rfl (enters_of Try.func8 (by kernel_rfl) rfl) (want_none rfl) c_wakes ?_
    refine ⟨rfl, fun W2 hE2 => ?_⟩
    first | refine VFin.eq ?_ | refine VFin.any fun v2_0 hv2_0 => ?_
    refine VFin.nil ?_
    simp only [Act.put, List.setIfInBounds_toArray, List.set_cons_zero, List.set_cons_succ]
    -- tail: assign (tmp 20)
    go_wp2
    go_ret
    exact Ret.mk hE2 rfl
  have ey : ((y.toNat : Int) == 0) = false := by rw [beq_eq_false_iff_ne]; omega
  go_upto_region 4 with (fail)
  clear ez ey
  have hle : bs.length ≤ 3000 := by omega
  have hpos : 0 < bs.length := by omega
  obtain ⟨k, hk, hkl⟩ : ∃ k : Nat, (if (bs.length : Int) - 1 < (if at_ < 0 then 0 else at_) then (bs.length : Int) - 1 else if at_ < 0 then 0 else at_) = (k : Int) ∧ k < bs.length :=
    ⟨(if (bs.length : Int) - 1 < (if at_ < 0 then 0 else at_) then (bs.length : Int) - 1 else if at_ < 0 then 0 else at_).toNat, by split <;> split <;> omega, by split <;> split <;> omega⟩
  rw [hk]
  generalize (if at_ < 0 then (0 : Int) else at_) = mx at *
  clear hk hz hlen
  have hX0 : Ext w (w.alloc (.cells #[] 5)) := ext_alloc _ _
  go_upto_region 6 with (at_builtin; refine wpList_append_bytes rfl _ _ 26 rfl w.heap.size 5 i0 (.int .u8 0) Try.underlying26 hi hz0 hz1 hz2 rfl (.slice (some ⟨w.heap.size, 0, none⟩) 0 0) _ [] bs rfl (OwnB.made w _ _ (Nat.le_refl _)) rfl (VP.st _ _ _ _ hB (ext_alloc _ _)) (by simp; omega) (by simp) ?_; intro v4 w4 hown hgrow hat; have hX4 := hX0.grown hgrow (by simp) (fun k hk => by cases hk; exact Nat.le_refl _); rw [List.nil_append] at hown; obtain ⟨g, cap, cur, rfl, hbg, hx, hl, hm, hsz, htk⟩ := OwnB.row hown hpos; have hc : w4.cell? ⟨g, k, none⟩ = some (.int .u8 (bs[k].toNat : Int)) := hx.at_ k (by rw [nth_eq]; exact (Array.getElem?_toList ..).trans (row_at htk hkl)); have hfz := hx.frozen k; clear hown hgrow hat)
  rw [bits_xor_u8]
  have hO : VBytes (bs.set k (bs[k] ^^^ y)) (.slice (some ⟨g, 0, none⟩) bs.length cap) (w4.setCell ⟨g, k, none⟩ (byteV (bs[k] ^^^ y))) := OwnB.bytes (OwnB.put hbg hx hl hm hsz htk k (bs[k] ^^^ y))
  have hX := Below.setCell hX4 (p := ⟨g, k, none⟩) hbg (byteV (bs[k] ^^^ y))
  have hB := VP.st _ _ _ _ hB hX
  unfold byteV at hO hX hB
  have hne := xor_ne bs[k] y hy
  clear hX4 hX0 hc hfz hx htk
  -- teasel/teasellaw02.SumOne, region 6: 24 operations, 23 ahead of the stores (draws nothing)
  refine law_end0 (by assumption) 23 [] 6 61 _ (by kernel_rfl) (fun _ _ _ _ _ h => h) rfl rfl rfl rfl rfl (by kernel_rfl) rfl 22 rfl rfl ?_
  -- 0 law.go:65 t39 := move (tmp 7)
  refine VWalk.move _ rfl (want_none rfl) (opd_fr 7 rfl hO (Ext.rf _) (by kernel_rfl)) ?_
  -- 1 law.go:65 t40 := buildSlice 24 1 #[(0, tmp 39)]
  refine VWalk.lit (Fs := [_]) [Operand.tmp 39] 24 26 1 _ rfl rfl (by decide) (by decide) rfl Try.underlying24 (by kernel_rfl) (by kernel_rfl) ⟨oneCell_sl _, trivial⟩ (want_none rfl) ⟨(opd_dep 0 39 0 rfl rfl rfl rfl), trivial⟩ ?_
  -- 2 law.go:65 t41 := call { callee := Callee.value (func 17), args := #[tmp 40], argTypes := #[24] }
  refine VWalk.call1 17 _ _ rfl (enters_of Try.func17 (by kernel_rfl) rfl) (want_none rfl) (opd_dep 1 40 0 rfl rfl rfl rfl) (c_of1 (bs.set k (bs[k] ^^^ y))) ?_
  -- 3 law.go:65 t42 := move (tmp 0)
  refine VWalk.move _ rfl (want_none rfl) (opd_fr 0 rfl hB (Ext.rf _) (by kernel_rfl)) ?_
  -- 4 law.go:65 t43 := buildSlice 24 1 #[(0, tmp 42)]
  refine VWalk.lit (Fs := [_]) [Operand.tmp 42] 24 26 1 _ rfl rfl (by decide) (by decide) rfl Try.underlying24 (by kernel_rfl) (by kernel_rfl) ⟨oneCell_sl _, trivial⟩ (want_none rfl) ⟨(opd_dep 3 42 0 rfl rfl rfl rfl), trivial⟩ ?_
  -- 5 law.go:65 t44 := call { callee := Callee.value (func 17), args := #[tmp 43], argTypes := #[24] }
  refine VWalk.call1 17 _ _ rfl (enters_of Try.func17 (by kernel_rfl) rfl) (want_none rfl) (opd_dep 4 43 0 rfl rfl rfl rfl) (c_of1 bs) ?_
  -- 6 law.go:65 t45 := binOp BinOp.neq 25 (tmp 41) (tmp 44) 25
  refine VWalk.neT' _ _ _ _ rfl (want_none rfl) (opd_dep 2 41 3 rfl rfl rfl rfl) (opd_dep 5 44 0 rfl rfl rfl rfl) (ofB_differs bs k hkl _ hne) ?_
  -- 7 law.go:65 t46 := move (tmp 45)
  refine VWalk.move _ rfl (want_none rfl) (opd_dep 6 45 0 rfl rfl rfl rfl) ?_
  -- 8 law.go:65 t47 := call { callee := Callee.value (func 21), args := #[], argTypes := #[] } [guard 7 true]
  refine VWalk.call0 21 _ rfl (enters_of Try.func21 (by kernel_rfl) rfl) (want_tt 7 46 0 rfl (by kernel_rfl) rfl rfl rfl rfl) c_new ?_
  -- 9 law.go:65 t48 := move (tmp 7) [guard 7 true]
  refine VWalk.move _ rfl (want_tt 7 46 1 rfl (by kernel_rfl) rfl rfl rfl rfl) (opd_fr 7 rfl hO (Ext.rf _) (by kernel_rfl)) ?_
  -- 10 law.go:65 t49 := buildSlice 24 1 #[(0, tmp 48)] [guard 7 true]
  refine VWalk.lit (Fs := [_]) [Operand.tmp 48] 24 26 1 _ rfl rfl (by decide) (by decide) rfl Try.underlying24 (by kernel_rfl) (by kernel_rfl) ⟨oneCell_sl _, trivial⟩ (want_tt 7 46 2 rfl (by kernel_rfl) rfl rfl rfl rfl) ⟨(opd_dep 9 48 0 rfl rfl rfl rfl), trivial⟩ ?_
  -- 11 law.go:65 t50 := call { callee := Callee.value (func 13), args := #[tmp 47, tmp 49], argTypes := #[23, 24] } [guard 7 true]
  refine VWalk.call2 13 _ _ _ rfl (enters_of Try.func13 (by kernel_rfl) rfl) (want_tt 7 46 3 rfl (by kernel_rfl) rfl rfl rfl rfl) (opd_dep 8 47 2 rfl rfl rfl rfl) (opd_dep 10 49 0 rfl rfl rfl rfl) (c_feed1 (1, 0) (bs.set k (bs[k] ^^^ y))) ?_
  -- 12 law.go:65 t51 := field 23 (tmp 50) 0 [guard 7 true]
  refine VWalk.fieldA _ _ rfl rfl (want_tt 7 46 4 rfl (by kernel_rfl) rfl rfl rfl rfl) (opd_dep 11 50 0 rfl rfl rfl rfl) ?_
  -- 13 law.go:65 t52 := call { callee := Callee.value (func 21), args := #[], argTypes := #[] } [guard 7 true]
  refine VWalk.call0 21 _ rfl (enters_of Try.func21 (by kernel_rfl) rfl) (want_tt 7 46 5 rfl (by kernel_rfl) rfl rfl rfl rfl) c_new ?_
  -- 14 law.go:65 t53 := move (tmp 0) [guard 7 true]
  refine VWalk.move _ rfl (want_tt 7 46 6 rfl (by kernel_rfl) rfl rfl rfl rfl) (opd_fr 0 rfl hB (Ext.rf _) (by kernel_rfl)) ?_
  -- 15 law.go:65 t54 := buildSlice 24 1 #[(0, tmp 53)] [guard 7 true]
  refine VWalk.lit (Fs := [_]) [Operand.tmp 53] 24 26 1 _ rfl rfl (by decide) (by decide) rfl Try.underlying24 (by kernel_rfl) (by kernel_rfl) ⟨oneCell_sl _, trivial⟩ (want_tt 7 46 7 rfl (by kernel_rfl) rfl rfl rfl rfl) ⟨(opd_dep 14 53 0 rfl rfl rfl rfl), trivial⟩ ?_
  -- 16 law.go:65 t55 := call { callee := Callee.value (func 13), args := #[tmp 52, tmp 54], argTypes := #[23, 24] } [guard 7 true]
  refine VWalk.call2 13 _ _ _ rfl (enters_of Try.func13 (by kernel_rfl) rfl) (want_tt 7 46 8 rfl (by kernel_rfl) rfl rfl rfl rfl) (opd_dep 13 52 2 rfl rfl rfl rfl) (opd_dep 15 54 0 rfl rfl rfl rfl) (c_feed1 (1, 0) bs) ?_
  -- 17 law.go:65 t56 := field 23 (tmp 55) 0 [guard 7 true]
  refine VWalk.fieldA _ _ rfl rfl (want_tt 7 46 9 rfl (by kernel_rfl) rfl rfl rfl rfl) (opd_dep 16 55 0 rfl rfl rfl rfl) ?_
  -- 18 law.go:65 t57 := binOp BinOp.neq 3 (tmp 51) (tmp 56) 3 [guard 7 true]
  refine VWalk.neT' _ _ _ _ rfl (want_tt 7 46 10 rfl (by kernel_rfl) rfl rfl rfl rfl) (opd_dep 12 51 5 rfl rfl rfl rfl) (opd_dep 17 56 0 rfl rfl rfl rfl) (one_differs bs k hkl _ hne) ?_
  -- 19 law.go:65 t58 := pick (tmp 46) (tmp 57) (const (Value.bool false))
  refine VWalk.pickT _ _ _ rfl (want_none rfl) (opd_dep 7 46 11 rfl rfl rfl rfl) (opd_dep 18 57 0 rfl rfl rfl rfl) ?_
  -- 20 law.go:65 t59 := move (tmp 58)
  refine VWalk.move _ rfl (want_none rfl) (opd_dep 19 58 0 rfl rfl rfl rfl) ?_
  -- 21 law.go:65 t60 := call { callee := Callee.value (func 8), args := #[], argTypes := #[] } [guard 20 true]
  refine VWalk.call0 8 _ rfl (enters_of Try.func8 (by kernel_rfl) rfl) (want_tt 20 59 0 rfl (by kernel_rfl) rfl rfl rfl rfl) c_wakes ?_
  -- 22 law.go:65 t61 := pick (tmp 59) (tmp 60) (const (Value.bool false))
  refine VWalk.pickT _ _ _ rfl (want_none rfl) (opd_dep 20 59 1 rfl rfl rfl rfl) (opd_dep 21 60 0 rfl rfl rfl rfl) ?_
  refine ⟨rfl, rfl, rfl, fun W6 hE6 => ?_⟩
  exact Ret.mk (Ext.tr hX hE6) rfl
end Go.Proofs.Yteiebmonbjcgnaa
