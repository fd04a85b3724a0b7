/- Arrays, compared with themselves. -/
import Derived.Test.YtfbamdkalamliaaClX
import Derived.DeepKeys
import Derived.Laws.StructEq
namespace Go.Proofs.Ytfbamdkalamliaa
open Go.RowKit LetM SetM
theorem run_eqItems_self (f : Nat → Int) (d : Nat) (w : World) : ∀ is : List Nat, (∀ i ∈ is, i < 256) → (Op.eqItems (d + 1) 3 1 (iArr f) (iArr f) is).run Try.prog w = .ok true w
  | [], _ => by simp [Op.eqItems]
  | i :: is, h => by
    have hp := run_part_plain (P := Try.prog) w (e := 3) (by kernel_rfl) (iArr_get f (h i (by simp)))
    have hr := run_eqItems_self f d w is (fun j hj => h j (by simp [hj]))
    unfold Op.eqItems
    simp only [Nat.mul_one, Sem.run_bind, hp, Result.andThen_ok, run_equalIn_int (P := Try.prog) w d 3 .i64 .i64 (f i) (f i) Try.underlying3, beq_self_eq_true, Bool.not_true, Bool.false_eq_true, if_false, hr]
theorem run_equal_self (f : Nat → Int) (w : World) : (Op.equalIn 10000 29 (.agg (iArr f)) (.agg (iArr f))).run Try.prog w = .ok true w := by
  obtain ⟨i0, hi, hz0, hz1, hz2⟩ := info_parts Try.infoI
  have h := run_equalIn_array (P := Try.prog) w 9999 (iArr f) (iArr f) Try.underlying29 hi
  have hc : Try.prog.cellsOf 3 = 1 := by kernel_rfl
  rw [hc] at h
  exact h.trans (run_eqItems_self f 9998 w _ (fun i hi => List.mem_range.1 hi))
section
variable {ops : Array Oper} {rest : List Oper} {o : Oper} {a : Act} {Q : Exit → Act → World → Prop} {w : World}
theorem wpList_neq_self (hgd : o.guard = none) (x y : Operand) (t' : TypeId) (ho : o.op = .binOp .neq 29 x y t') (f : Nat → Int) (hx : a.eval x = .agg (iArr f)) (hy : a.eval y = .agg (iArr f))
    (h : wpList Try.prog ops Q rest (a.put o.dst (.bool false)) w) : wpList Try.prog ops Q (o :: rest) a w :=
  wpList_plain hgd fun K hK => by
    have hrun : (execOp a.eval o).run Try.prog w = .ok (.value (.bool false)) w := by
      unfold execOp
      simp only [ho, hx, hy, Sem.run_bind, run_eqGuard_agg (P := Try.prog) (w := w) .neq 29 x y (iArr f) (iArr f) (by kernel_rfl), run_neq_struct, run_equal_self f w, Result.andThen_ok, Sem.run_pure, Bool.not_true]
    unfold Oper.wp
    rw [hrun, Oper.upon_value]
    exact hK _ _ h
end
end Go.Proofs.Ytfbamdkalamliaa
