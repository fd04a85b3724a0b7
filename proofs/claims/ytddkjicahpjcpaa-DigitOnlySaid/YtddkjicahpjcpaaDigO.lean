/- DigitOnly, walked. -/
import Derived.Test.YtddkjicahpjcpaaDigI
import Derived.Test.YtddkjicahpjcpaaDigLaw
import Derived.Deep.Cut
namespace Go.Proofs.Ytddkjicahpjcpaa
open Go.RowKit DigM
section
variable {P : Program} {Q : Exit → Act → World → Prop} {ops : Array Oper} {M m : Nat} {a0 : Act} {w0 : World} {K : List Oper → List VP → Prop} {o : Oper} {rest : List Oper} {env : List VP}
theorem VWalk.addS {a b : List UInt8} (t t' : TypeId) (x y : Operand) (ho : o.op = .binOp .add t x y t') (hw : Want ops M a0 w0 env o true) (hx : Opd ops M a0 w0 env o x (VEq (.string ⟨a.toArray⟩))) (hy : Opd ops M a0 w0 env o y (VEq (.string ⟨b.toArray⟩))) (hl : a.length + b.length ≤ 9223372036854775807)
    (hr : VWalk P Q ops M a0 w0 K m rest (VEq (.string ⟨(a ++ b).toArray⟩) :: env)) : VWalk P Q ops M a0 w0 K (m + 1) (o :: rest) env :=
  .det2 x y hw hx hy (fun ρ w _ h1 h2 => by
    have e : (⟨a.toArray⟩ : ByteArray) ++ ⟨b.toArray⟩ = ⟨(a ++ b).toArray⟩ := by
      apply ByteArray.ext
      simp
    unfold execOp
    simp [ho, h1, h2, go_sem, e, hl]) hr
end
set_option maxRecDepth 100000 in
set_option maxHeartbeats 4000000 in
theorem digitOnly_any (bs : List UInt8) (many : Int) (hm : many ≤ 9223372036854775807) (vb : Value) (w : World) (hB : VBytes bs vb w) : Calls Try.prog 5 #[vb, .int .i64 many] w (Ret w (VEq (.bool true))) := by
  obtain ⟨A2, c2, rfl, -⟩ := VBytes.form hB
  go_enter Try.func5, Try.ntmps5
  by_cases hlb : (400 : Int) < bs.length
  · skip
    go_upto_region 2 with (fail)
    refine vregion0 1 (by kernel_rfl) ?_
    refine VWalk.call0 7 _ rfl (enters_of Try.func7 (by kernel_rfl) rfl) (want_none rfl) c_wakes ?_
    refine ⟨rfl, fun W2 hE2 => ?_⟩
    refine VFin.eq ?_  -- 0
    refine VFin.nil ?_
    simp only [Act.put, List.setIfInBounds_toArray, List.set_cons_zero, List.set_cons_succ]
    have hB := VP.st _ _ _ _ hB hE2
    have hE := hE2
    go_wp2
    go_ret
    exact Ret.mk hE rfl
  have hlb' : bs.length ≤ 400 := by omega
  by_cases hla : (400 : Int) < many
  · skip
    go_upto_region 2 with (fail)
    refine vregion0 1 (by kernel_rfl) ?_
    refine VWalk.call0 7 _ rfl (enters_of Try.func7 (by kernel_rfl) rfl) (want_none rfl) c_wakes ?_
    refine ⟨rfl, fun W2 hE2 => ?_⟩
    refine VFin.eq ?_  -- 0
    refine VFin.nil ?_
    simp only [Act.put, List.setIfInBounds_toArray, List.set_cons_zero, List.set_cons_succ]
    have hB := VP.st _ _ _ _ hB hE2
    have hE := hE2
    go_wp2
    go_ret
    exact Ret.mk hE rfl
  clear hlb
  go_upto_region 3 with (fail)
  refine vregion0 7 (by kernel_rfl) ?_
  refine VWalk.move _ rfl (want_none rfl) (opd_fr 0 rfl hB (Ext.rf _) (by kernel_rfl)) ?_
  refine VWalk.move _ rfl (want_none rfl) (opd_frame 1 rfl (by kernel_rfl)) ?_
  refine VWalk.call2 16 _ _ _ rfl (enters_of Try.func16 (by kernel_rfl) rfl) (want_none rfl) (opd_dep 0 19 1 rfl rfl rfl rfl) (opd_dep 1 20 0 rfl rfl rfl rfl) (c_takes _ _ hm (by omega)) ?_
  refine VWalk.move _ rfl (want_none rfl) (opd_dep 2 21 0 rfl rfl rfl rfl) ?_
  refine VWalk.extract _ 0 rfl rfl (want_none rfl) (opd_dep 3 18 0 rfl rfl rfl rfl) ?_
  refine VWalk.extract _ 1 rfl rfl (want_none rfl) (opd_dep 3 18 1 rfl rfl rfl rfl) ?_
  refine VWalk.extract _ 2 rfl rfl (want_none rfl) (opd_dep 3 18 2 rfl rfl rfl rfl) ?_
  refine ⟨rfl, fun W3 hE3 => ?_⟩
  refine VFin.any fun v3_0 hv3_0 => ?_
  refine VFin.eq ?_  -- 1
  refine VFin.any fun v3_2 hv3_2 => ?_
  refine VFin.any fun v3_3 hv3_3 => ?_
  refine VFin.any fun v3_4 hv3_4 => ?_
  refine VFin.any fun v3_5 hv3_5 => ?_
  refine VFin.eq ?_  -- 6
  refine VFin.nil ?_
  simp only [Act.put, List.setIfInBounds_toArray, List.set_cons_zero, List.set_cons_succ]
  clear hv3_0 hv3_2 hv3_3
  have hB := VP.st _ _ _ _ hB hE3
  have hE := hE3
  by_cases he : (takes many bs).2.2 = 0
  · have hge : ¬ many < 0 := by
      intro h
      unfold takes at he
      rw [if_pos h] at he; cases he
    obtain ⟨j, rfl⟩ : ∃ j : Nat, many = (j : Int) := ⟨many.toNat, by omega⟩
    have hto : takes (j : Int) bs = takesF j bs := by unfold takes; rw [if_neg hge, Int.toNat_natCast]
    rw [hto] at he hv3_4 hv3_5 ⊢
    obtain ⟨h1, h2, h3⟩ := takes_only j bs he
    have hp := puts_all h2
    rw [he]
    go_upto_region 4 with (fail)
    refine vregion0 2 (by kernel_rfl) ?_
    refine VWalk.move _ rfl (want_none rfl) (opd_frame 7 rfl (by kernel_rfl)) ?_
    refine VWalk.neT _ _ _ _ rfl (want_none rfl) (opd_dep 0 25 0 rfl rfl rfl rfl) (opd_const _) rfl ?_
    refine ⟨rfl, fun W4 hE4 => ?_⟩
    refine VFin.eq ?_  -- 0
    refine VFin.eq ?_  -- 1
    refine VFin.nil ?_
    simp only [Act.put, List.setIfInBounds_toArray, List.set_cons_zero, List.set_cons_succ]
    have hB := VP.st _ _ _ _ hB hE4
    have hv3_4 := VP.st _ _ _ _ hv3_4 hE4
    have hv3_5 := VP.st _ _ _ _ hv3_5 hE4
    have hE := hE.tr hE4
    go_upto_region 6 with (fail)
    refine vregion0 5 (by kernel_rfl) ?_
    refine VWalk.move _ rfl (want_none rfl) (opd_fr 5 rfl hv3_4 (Ext.rf _) (by kernel_rfl)) ?_
    refine VWalk.call1 10 _ _ rfl (enters_of Try.func10 (by kernel_rfl) rfl) (want_none rfl) (opd_dep 0 46 0 rfl rfl rfl rfl) (c_puts _ (by rw [h1]; omega)) ?_
    rw [hp]
    refine VWalk.move _ rfl (want_none rfl) (opd_dep 1 47 0 rfl rfl rfl rfl) ?_
    refine VWalk.extract _ 0 rfl rfl (want_none rfl) (opd_dep 2 45 0 rfl rfl rfl rfl) ?_
    refine VWalk.extract _ 1 rfl rfl (want_none rfl) (opd_dep 2 45 1 rfl rfl rfl rfl) ?_
    refine ⟨rfl, fun W6 hE6 => ?_⟩
    refine VFin.any fun v6_0 hv6_0 => ?_
    refine VFin.any fun v6_1 hv6_1 => ?_
    refine VFin.any fun v6_2 hv6_2 => ?_
    refine VFin.any fun v6_3 hv6_3 => ?_
    refine VFin.eq ?_  -- 4
    refine VFin.nil ?_
    simp only [Act.put, List.setIfInBounds_toArray, List.set_cons_zero, List.set_cons_succ]
    clear hv6_0 hv6_1 hv6_2
    have hB := VP.st _ _ _ _ hB hE6
    have hv3_4 := VP.st _ _ _ _ hv3_4 hE6
    have hv3_5 := VP.st _ _ _ _ hv3_5 hE6
    have hE := hE.tr hE6
    go_upto_region 7 with (fail)
    refine law_end0 (r := .bool true) (by assumption) 21 4 70 _ (by kernel_rfl) rfl rfl rfl rfl rfl (by kernel_rfl) rfl 20 rfl rfl ?_
    refine VWalk.move _ rfl (want_none rfl) (opd_frame 9 rfl (by kernel_rfl)) ?_
    refine VWalk.eqT _ _ _ _ rfl (want_none rfl) (opd_dep 0 50 0 rfl rfl rfl rfl) (opd_const _) rfl ?_
    refine VWalk.move _ rfl (want_none rfl) (opd_dep 1 51 0 rfl rfl rfl rfl) ?_
    refine VWalk.move _ rfl (want_tt 2 52 0 rfl (by kernel_rfl) rfl rfl rfl rfl) (opd_fr 5 rfl hv3_4 (Ext.rf _) (by kernel_rfl)) ?_
    refine VWalk.lenS 22 3 _ rfl Try.underlying22 (want_tt 2 52 1 rfl (by kernel_rfl) rfl rfl rfl rfl) (opd_dep 3 53 0 rfl rfl rfl rfl) ?_
    refine VWalk.move _ rfl (want_tt 2 52 2 rfl (by kernel_rfl) rfl rfl rfl rfl) (opd_frame 1 rfl (by kernel_rfl)) ?_
    refine VWalk.eqT _ _ _ _ rfl (want_tt 2 52 3 rfl (by kernel_rfl) rfl rfl rfl rfl) (opd_dep 4 54 1 rfl rfl rfl rfl) (opd_dep 5 55 0 rfl rfl rfl rfl) (by rw [List.length_map, h1]) ?_
    refine VWalk.pickT _ _ _ rfl (want_none rfl) (opd_dep 2 52 4 rfl rfl rfl rfl) (opd_dep 6 56 0 rfl rfl rfl rfl) ?_
    refine VWalk.move _ rfl (want_none rfl) (opd_dep 7 57 0 rfl rfl rfl rfl) ?_
    refine VWalk.move _ rfl (want_tt 8 58 0 rfl (by kernel_rfl) rfl rfl rfl rfl) (opd_fr 8 rfl hv6_3 (Ext.rf _) (by kernel_rfl)) ?_
    refine VWalk.string 23 9 5 _ rfl Try.underlying23 Try.underlying5 Try.underlying9 (want_tt 8 58 1 rfl (by kernel_rfl) rfl rfl rfl rfl) (opd_dep 9 59 0 rfl rfl rfl rfl) ?_
    refine VWalk.move _ rfl (want_tt 8 58 2 rfl (by kernel_rfl) rfl rfl rfl rfl) (opd_fr 6 rfl hv3_5 (Ext.rf _) (by kernel_rfl)) ?_
    refine VWalk.string 23 9 5 _ rfl Try.underlying23 Try.underlying5 Try.underlying9 (want_tt 8 58 3 rfl (by kernel_rfl) rfl rfl rfl rfl) (opd_dep 11 61 0 rfl rfl rfl rfl) ?_
    refine VWalk.addS _ _ _ _ rfl (want_tt 8 58 4 rfl (by kernel_rfl) rfl rfl rfl rfl) (opd_dep 10 60 2 rfl rfl rfl rfl) (opd_dep 12 62 0 rfl rfl rfl rfl) (by have := congrArg List.length h3; rw [List.length_append] at this; show (putsF _).length + _ ≤ _; omega) ?_
    refine VWalk.move _ rfl (want_tt 8 58 5 rfl (by kernel_rfl) rfl rfl rfl rfl) (opd_fr 0 rfl hB (Ext.rf _) (by kernel_rfl)) ?_
    refine VWalk.string 23 9 5 _ rfl Try.underlying23 Try.underlying5 Try.underlying9 (want_tt 8 58 6 rfl (by kernel_rfl) rfl rfl rfl rfl) (opd_dep 14 64 0 rfl rfl rfl rfl) ?_
    refine VWalk.eqTs _ _ _ _ rfl (want_tt 8 58 7 rfl (by kernel_rfl) rfl rfl rfl rfl) (opd_dep 13 63 2 rfl rfl rfl rfl) (opd_dep 15 65 0 rfl rfl rfl rfl) (by rw [h3]) ?_
    refine VWalk.pickT _ _ _ rfl (want_none rfl) (opd_dep 8 58 8 rfl rfl rfl rfl) (opd_dep 16 66 0 rfl rfl rfl rfl) ?_
    refine VWalk.move _ rfl (want_none rfl) (opd_dep 17 67 0 rfl rfl rfl rfl) ?_
    refine VWalk.call0 7 _ rfl (enters_of Try.func7 (by kernel_rfl) rfl) (want_tt 18 68 0 rfl (by kernel_rfl) rfl rfl rfl rfl) c_wakes ?_
    refine VWalk.pickT _ _ _ rfl (want_none rfl) (opd_dep 18 68 1 rfl rfl rfl rfl) (opd_dep 19 69 0 rfl rfl rfl rfl) ?_
    refine ⟨rfl, rfl, rfl, fun W7 hE7 => ?_⟩
    exact Ret.mk (hE.tr hE7) rfl
  · have hne : (takes many bs).1 = [] ∧ (takes many bs).2.1 = [] ∧ decide (many < 0) = decide ((takes many bs).2.2 = 2) := by
      unfold takes at he ⊢
      by_cases h : many < 0
      · rw [if_pos h]; exact ⟨rfl, rfl, by simp [h]⟩
      · rw [if_neg h] at he ⊢
        obtain ⟨h1, h2⟩ := takesF_err _ _ he
        exact ⟨h1, h2, by simp [h, takesF_ne2]⟩
    obtain ⟨h1, h2, h3⟩ := hne
    rw [h1] at hv3_4
    rw [h2] at hv3_5
    generalize (takes many bs).2.2 = e at *
    go_upto_region 4 with (fail)
    refine vregion0 2 (by kernel_rfl) ?_
    refine VWalk.move _ rfl (want_none rfl) (opd_frame 7 rfl (by kernel_rfl)) ?_
    refine VWalk.neT' _ _ _ _ rfl (want_none rfl) (opd_dep 0 25 0 rfl rfl rfl rfl) (opd_const _) he ?_
    refine ⟨rfl, fun W4 hE4 => ?_⟩
    refine VFin.eq ?_  -- 0
    refine VFin.eq ?_  -- 1
    refine VFin.nil ?_
    simp only [Act.put, List.setIfInBounds_toArray, List.set_cons_zero, List.set_cons_succ]
    have hB := VP.st _ _ _ _ hB hE4
    have hv3_4 := VP.st _ _ _ _ hv3_4 hE4
    have hv3_5 := VP.st _ _ _ _ hv3_5 hE4
    have hE := hE.tr hE4
    by_cases hz : many < 0
    · have h2e : e = 2 := by simpa [hz] using h3
      subst h2e
      go_upto_region 5 with (fail)
      refine vregion0 18 (by kernel_rfl) ?_
      refine VWalk.move _ rfl (want_none rfl) (opd_fr 5 rfl hv3_4 (Ext.rf _) (by kernel_rfl)) ?_
      refine VWalk.lenS 22 3 _ rfl Try.underlying22 (want_none rfl) (opd_dep 0 27 0 rfl rfl rfl rfl) ?_
      refine VWalk.eqT _ _ _ _ rfl (want_none rfl) (opd_dep 1 28 0 rfl rfl rfl rfl) (opd_const _) rfl ?_
      refine VWalk.move _ rfl (want_none rfl) (opd_dep 2 29 0 rfl rfl rfl rfl) ?_
      refine VWalk.move _ rfl (want_tt 3 30 0 rfl (by kernel_rfl) rfl rfl rfl rfl) (opd_fr 6 rfl hv3_5 (Ext.rf _) (by kernel_rfl)) ?_
      refine VWalk.lenB 23 5 _ rfl Try.underlying23 (want_tt 3 30 1 rfl (by kernel_rfl) rfl rfl rfl rfl) (opd_dep 4 31 0 rfl rfl rfl rfl) ?_
      refine VWalk.eqT _ _ _ _ rfl (want_tt 3 30 2 rfl (by kernel_rfl) rfl rfl rfl rfl) (opd_dep 5 32 0 rfl rfl rfl rfl) (opd_const _) rfl ?_
      refine VWalk.pickT _ _ _ rfl (want_none rfl) (opd_dep 3 30 3 rfl rfl rfl rfl) (opd_dep 6 33 0 rfl rfl rfl rfl) ?_
      refine VWalk.move _ rfl (want_none rfl) (opd_dep 7 34 0 rfl rfl rfl rfl) ?_
      refine VWalk.move _ rfl (want_tt 8 35 0 rfl (by kernel_rfl) rfl rfl rfl rfl) (opd_frame 1 rfl (by kernel_rfl)) ?_
      refine VWalk.lssT _ _ _ _ rfl (want_tt 8 35 1 rfl (by kernel_rfl) rfl rfl rfl rfl) (opd_dep 9 36 0 rfl rfl rfl rfl) (opd_const _) (by omega) ?_
      refine VWalk.move _ rfl (want_tt 8 35 2 rfl (by kernel_rfl) rfl rfl rfl rfl) (opd_frame 7 rfl (by kernel_rfl)) ?_
      refine VWalk.eqT _ _ _ _ rfl (want_tt 8 35 3 rfl (by kernel_rfl) rfl rfl rfl rfl) (opd_dep 11 38 0 rfl rfl rfl rfl) (opd_const _) rfl ?_
      refine VWalk.eqTb _ _ _ _ rfl (want_tt 8 35 4 rfl (by kernel_rfl) rfl rfl rfl rfl) (opd_dep 10 37 2 rfl rfl rfl rfl) (opd_dep 12 39 0 rfl rfl rfl rfl) Try.underlying4 rfl ?_
      refine VWalk.pickT _ _ _ rfl (want_none rfl) (opd_dep 8 35 5 rfl rfl rfl rfl) (opd_dep 13 40 0 rfl rfl rfl rfl) ?_
      refine VWalk.move _ rfl (want_none rfl) (opd_dep 14 41 0 rfl rfl rfl rfl) ?_
      refine VWalk.call0 7 _ rfl (enters_of Try.func7 (by kernel_rfl) rfl) (want_tt 15 42 0 rfl (by kernel_rfl) rfl rfl rfl rfl) c_wakes ?_
      refine VWalk.pickT _ _ _ rfl (want_none rfl) (opd_dep 15 42 1 rfl rfl rfl rfl) (opd_dep 16 43 0 rfl rfl rfl rfl) ?_
      refine ⟨rfl, fun W5 hE5 => ?_⟩
      refine VFin.any fun v5_0 hv5_0 => ?_
      refine VFin.eq ?_  -- 1
      refine VFin.eq ?_  -- 2
      refine VFin.eq ?_  -- 3
      refine VFin.any fun v5_4 hv5_4 => ?_
      refine VFin.eq ?_  -- 5
      refine VFin.eq ?_  -- 6
      refine VFin.eq ?_  -- 7
      refine VFin.eq ?_  -- 8
      refine VFin.eq ?_  -- 9
      refine VFin.eq ?_  -- 10
      refine VFin.eq ?_  -- 11
      refine VFin.eq ?_  -- 12
      refine VFin.eq ?_  -- 13
      refine VFin.eq ?_  -- 14
      refine VFin.eq ?_  -- 15
      refine VFin.eq ?_  -- 16
      refine VFin.eq ?_  -- 17
      refine VFin.nil ?_
      simp only [Act.put, List.setIfInBounds_toArray, List.set_cons_zero, List.set_cons_succ]
      clear hv5_0 hv5_4
      have hB := VP.st _ _ _ _ hB hE5
      have hv3_4 := VP.st _ _ _ _ hv3_4 hE5
      have hv3_5 := VP.st _ _ _ _ hv3_5 hE5
      have hE := hE.tr hE5
      go_wp2
      go_ret
      exact Ret.mk hE rfl
    · have h2e : e ≠ 2 := by simpa [hz] using h3
      go_upto_region 5 with (fail)
      refine vregion0 18 (by kernel_rfl) ?_
      refine VWalk.move _ rfl (want_none rfl) (opd_fr 5 rfl hv3_4 (Ext.rf _) (by kernel_rfl)) ?_
      refine VWalk.lenS 22 3 _ rfl Try.underlying22 (want_none rfl) (opd_dep 0 27 0 rfl rfl rfl rfl) ?_
      refine VWalk.eqT _ _ _ _ rfl (want_none rfl) (opd_dep 1 28 0 rfl rfl rfl rfl) (opd_const _) rfl ?_
      refine VWalk.move _ rfl (want_none rfl) (opd_dep 2 29 0 rfl rfl rfl rfl) ?_
      refine VWalk.move _ rfl (want_tt 3 30 0 rfl (by kernel_rfl) rfl rfl rfl rfl) (opd_fr 6 rfl hv3_5 (Ext.rf _) (by kernel_rfl)) ?_
      refine VWalk.lenB 23 5 _ rfl Try.underlying23 (want_tt 3 30 1 rfl (by kernel_rfl) rfl rfl rfl rfl) (opd_dep 4 31 0 rfl rfl rfl rfl) ?_
      refine VWalk.eqT _ _ _ _ rfl (want_tt 3 30 2 rfl (by kernel_rfl) rfl rfl rfl rfl) (opd_dep 5 32 0 rfl rfl rfl rfl) (opd_const _) rfl ?_
      refine VWalk.pickT _ _ _ rfl (want_none rfl) (opd_dep 3 30 3 rfl rfl rfl rfl) (opd_dep 6 33 0 rfl rfl rfl rfl) ?_
      refine VWalk.move _ rfl (want_none rfl) (opd_dep 7 34 0 rfl rfl rfl rfl) ?_
      refine VWalk.move _ rfl (want_tt 8 35 0 rfl (by kernel_rfl) rfl rfl rfl rfl) (opd_frame 1 rfl (by kernel_rfl)) ?_
      refine VWalk.lssF _ _ _ _ rfl (want_tt 8 35 1 rfl (by kernel_rfl) rfl rfl rfl rfl) (opd_dep 9 36 0 rfl rfl rfl rfl) (opd_const _) (by omega) ?_
      refine VWalk.move _ rfl (want_tt 8 35 2 rfl (by kernel_rfl) rfl rfl rfl rfl) (opd_frame 7 rfl (by kernel_rfl)) ?_
      refine VWalk.eqT' _ _ _ _ rfl (want_tt 8 35 3 rfl (by kernel_rfl) rfl rfl rfl rfl) (opd_dep 11 38 0 rfl rfl rfl rfl) (opd_const _) h2e ?_
      refine VWalk.eqTb _ _ _ _ rfl (want_tt 8 35 4 rfl (by kernel_rfl) rfl rfl rfl rfl) (opd_dep 10 37 2 rfl rfl rfl rfl) (opd_dep 12 39 0 rfl rfl rfl rfl) Try.underlying4 rfl ?_
      refine VWalk.pickT _ _ _ rfl (want_none rfl) (opd_dep 8 35 5 rfl rfl rfl rfl) (opd_dep 13 40 0 rfl rfl rfl rfl) ?_
      refine VWalk.move _ rfl (want_none rfl) (opd_dep 14 41 0 rfl rfl rfl rfl) ?_
      refine VWalk.call0 7 _ rfl (enters_of Try.func7 (by kernel_rfl) rfl) (want_tt 15 42 0 rfl (by kernel_rfl) rfl rfl rfl rfl) c_wakes ?_
      refine VWalk.pickT _ _ _ rfl (want_none rfl) (opd_dep 15 42 1 rfl rfl rfl rfl) (opd_dep 16 43 0 rfl rfl rfl rfl) ?_
      refine ⟨rfl, fun W5 hE5 => ?_⟩
      refine VFin.any fun v5_0 hv5_0 => ?_
      refine VFin.eq ?_  -- 1
      refine VFin.eq ?_  -- 2
      refine VFin.eq ?_  -- 3
      refine VFin.any fun v5_4 hv5_4 => ?_
      refine VFin.eq ?_  -- 5
      refine VFin.eq ?_  -- 6
      refine VFin.eq ?_  -- 7
      refine VFin.eq ?_  -- 8
      refine VFin.eq ?_  -- 9
      refine VFin.eq ?_  -- 10
      refine VFin.eq ?_  -- 11
      refine VFin.eq ?_  -- 12
      refine VFin.eq ?_  -- 13
      refine VFin.eq ?_  -- 14
      refine VFin.eq ?_  -- 15
      refine VFin.eq ?_  -- 16
      refine VFin.eq ?_  -- 17
      refine VFin.nil ?_
      simp only [Act.put, List.setIfInBounds_toArray, List.set_cons_zero, List.set_cons_succ]
      clear hv5_0 hv5_4
      have hB := VP.st _ _ _ _ hB hE5
      have hv3_4 := VP.st _ _ _ _ hv3_4 hE5
      have hv3_5 := VP.st _ _ _ _ hv3_5 hE5
      have hE := hE.tr hE5
      go_wp2
      go_ret
      exact Ret.mk hE rfl
end Go.Proofs.Ytddkjicahpjcpaa
