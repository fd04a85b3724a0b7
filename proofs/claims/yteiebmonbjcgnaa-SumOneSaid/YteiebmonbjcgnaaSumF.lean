/- What the four laws share: structs compared, one part, the wakes. -/
import Derived.Test.YteiebmonbjcgnaaSumW
import Derived.Laws.StructEq
import Derived.Laws.Cover2
namespace Go.Proofs.Yteiebmonbjcgnaa
open Go.RowKit Go.Shelf SumM

section
variable {w0 : World}
theorem c_wakes : ∀ w, Ext w0 w → Calls Try.prog 8 #[] w (Ret w (VEq (.bool true))) := fun w _ => wakes_any w
theorem c_feed1 (s : Int × Int) (bs : List UInt8) : ∀ u v w, Ext w0 w → VEq (pairV s) u w → VSl [VBytes bs] v w → Calls Try.prog 13 #[u, v] w (Ret w (VEq (pairV (feed s bs)))) := fun u v w hE hu hv => by
  have := c_feed s [bs] u v w hE hu hv
  rwa [List.flatten_cons, List.flatten_nil, List.append_nil] at this
theorem c_of1 (bs : List UInt8) : ∀ v w, Ext w0 w → VSl [VBytes bs] v w → Calls Try.prog 17 #[v] w (Ret w (VEq (.int .u32 (ofB bs)))) := fun v w hE hv => by
  have := c_of [bs] v w hE hv
  rwa [List.flatten_cons, List.flatten_nil, List.append_nil] at this
theorem c_feed3 (s : Int × Int) (xs bs : List UInt8) : ∀ u v w, Ext w0 w → VEq (pairV s) u w → VSl [VBytes xs, VBytes [], VBytes bs] v w → Calls Try.prog 13 #[u, v] w (Ret w (VEq (pairV (feed s (xs ++ bs))))) := fun u v w hE hu hv => by
  have := c_feed s [xs, [], bs] u v w hE hu hv
  rwa [show [xs, [], bs].flatten = xs ++ bs by simp] at this
theorem c_great (ps : List (List UInt8)) : ∀ v w, Ext w0 w → VParts ps v w → Calls Try.prog 7 #[v] w (Ret w (VGreat ps)) := fun v w _ hv => great_any ps v w hv
end
section
variable {Q : Exit → Act → World → Prop} {ops : Array Oper} {M m : Nat} {a0 : Act} {w0 : World} {K : List Oper → List VP → Prop} {o : Oper} {rest : List Oper} {env : List VP}
theorem eq_sum (a b c d : Int) (w : World) : (Op.equalIn 10000 23 (.agg #[.int .i64 a, .int .i64 b]) (.agg #[.int .i64 c, .int .i64 d])).run Try.prog w = .ok (a == c && b == d) w := by
  have hS : Try.prog.underlying 23 = some (.struct (Try.prog.fieldsOf 23)) := by kernel_rfl
  have hp : Try.prog.stoodInHeld 23 = false := by kernel_rfl
  rw [show (10000 : Nat) = 9999 + 1 from rfl, run_equalIn_agg w 9999 23 _ _ hS hp]
  simp only [Program.fieldsOf, Try.underlying23]
  go_simp
  by_cases h1 : a = c <;> by_cases h2 : b = d <;> simp [h1, h2]
/-- x == y of sums that are alike. -/
theorem VWalk.eqS {s t : Int × Int} (ty ty' : TypeId) (x y : Operand) (hty : ty = 23) (ho : o.op = .binOp .eql ty x y ty') (hw : Want ops M a0 w0 env o true) (hx : Opd ops M a0 w0 env o x (VEq (pairV s))) (hy : Opd ops M a0 w0 env o y (VEq (pairV t)))
    (hab : s = t)
    (hr : VWalk Try.prog Q ops M a0 w0 K m rest (VEq (.bool true) :: env)) : VWalk Try.prog Q ops M a0 w0 K (m + 1) (o :: rest) env :=
  .det2 x y hw hx hy (fun ρ w _ h1 h2 => by
    subst hab
    subst hty
    have hg : Try.prog.eqGuardType Try.prog.depth 23 = false := by kernel_rfl
    unfold execOp
    simp [ho, h1, h2, pairV, run_eqGuard_agg, hg, run_eql_struct, eq_sum, go_sem]) hr
theorem VWalk.eqS' {s t : Int × Int} (ty ty' : TypeId) (x y : Operand) (hty : ty = 23) (ho : o.op = .binOp .eql ty x y ty') (hw : Want ops M a0 w0 env o true) (hx : Opd ops M a0 w0 env o x (VEq (pairV s))) (hy : Opd ops M a0 w0 env o y (VEq (pairV t)))
    (hab : s ≠ t)
    (hr : VWalk Try.prog Q ops M a0 w0 K m rest (VEq (.bool false) :: env)) : VWalk Try.prog Q ops M a0 w0 K (m + 1) (o :: rest) env :=
  .det2 x y hw hx hy (fun ρ w _ h1 h2 => by
    subst hty
    have hg : Try.prog.eqGuardType Try.prog.depth 23 = false := by kernel_rfl
    have hne : (s.1 == t.1 && s.2 == t.2) = false := by
      cases h : (s.1 == t.1 && s.2 == t.2) with
      | false => rfl
      | true =>
        simp only [Bool.and_eq_true, beq_iff_eq] at h
        exact absurd (Prod.ext h.1 h.2) hab
    unfold execOp
    simp [ho, h1, h2, pairV, run_eqGuard_agg, hg, run_eql_struct, eq_sum, hne, go_sem]) hr
theorem VWalk.fieldA {s : Int × Int} (ty : TypeId) (x : Operand) (hty : ty = 23) (ho : o.op = .field ty x 0) (hw : Want ops M a0 w0 env o true) (hx : Opd ops M a0 w0 env o x (VEq (pairV s)))
    (hr : VWalk Try.prog Q ops M a0 w0 K m rest (VEq (.int .i64 s.1) :: env)) : VWalk Try.prog Q ops M a0 w0 K (m + 1) (o :: rest) env :=
  .det1 x hw hx (fun ρ w _ h1 => by
    subst hty
    have hu := run_underlying (P := Try.prog) Try.underlying23
    unfold execOp
    simp [ho, h1, pairV, Instr.field, hu, asAgg, part, go_sem]) hr
/-- x != y of sums. -/
theorem VWalk.neS {s t : Int × Int} (ty ty' : TypeId) (x y : Operand) (hty : ty = 23) (ho : o.op = .binOp .neq ty x y ty') (hw : Want ops M a0 w0 env o true) (hx : Opd ops M a0 w0 env o x (VEq (pairV s))) (hy : Opd ops M a0 w0 env o y (VEq (pairV t)))
    (hab : s = t)
    (hr : VWalk Try.prog Q ops M a0 w0 K m rest (VEq (.bool false) :: env)) : VWalk Try.prog Q ops M a0 w0 K (m + 1) (o :: rest) env :=
  .det2 x y hw hx hy (fun ρ w _ h1 h2 => by
    subst hab
    subst hty
    have hg : Try.prog.eqGuardType Try.prog.depth 23 = false := by kernel_rfl
    unfold execOp
    simp [ho, h1, h2, pairV, run_eqGuard_agg, hg, run_neq_struct, eq_sum, go_sem]) hr
end
end Go.Proofs.Yteiebmonbjcgnaa
