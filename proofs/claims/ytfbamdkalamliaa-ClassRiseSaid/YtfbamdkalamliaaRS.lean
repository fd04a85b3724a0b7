/- A set by value. -/
import Derived.Test.YtfbamdkalamliaaY
namespace Go.Proofs.Ytfbamdkalamliaa
open Go.RowKit
/-- A set. -/
def VSet (f : Bool) (ws : List (List UInt8)) : VP := ⟨fun u w => ∃ sl, u = .agg #[.bool f, sl] ∧ VParts ws sl w, fun _ _ _ ⟨sl, h1, h2⟩ hE => ⟨sl, h1, VP.wk _ _ _ _ h2 hE⟩⟩
section
variable {P : Program} {Q : Exit → Act → World → Prop} {ops : Array Oper} {M m : Nat} {a0 : Act} {w0 : World} {K : List Oper → List VP → Prop} {o : Oper} {rest : List Oper} {env : List VP}
/-- The load of a cell of which something is known. -/
theorem VWalk.load1F {F : VP} {v : Value} {p : Addr} {w : World} (t : TypeId) (x : Operand) (ho : o.op = .load t x) (hw : Want ops M a0 w0 env o true) (hx : Opd ops M a0 w0 env o x (VEq (.pointer (some p))))
    (hagg : ∀ w : World, (isAgg t).run P w = .ok false w) (hc : w.cell? p = some v) (hF : F v w) (hE : Ext w w0)
    (hr : VWalk P Q ops M a0 w0 K m rest (F :: env)) : VWalk P Q ops M a0 w0 K (m + 1) (o :: rest) env :=
  .loadV (G := VEq (.pointer (some p))) t x ho hw hx (fun q w1 hE1 hq => ⟨v, by
    subst hq
    have h1 : w1.cell? p = some v := ((hE.tr hE1).cell (World.block_lt_of_cell? w p hc)).trans hc
    simp [Instr.loadAt, Instr.sureAddr, loadVar, Sem.run_bind, hagg, h1], F.st _ _ _ hF (hE.tr hE1)⟩) hr
theorem VWalk.neTs' {a b : List UInt8} (t t' : TypeId) (x y : Operand) (ho : o.op = .binOp .neq t x y t') (hw : Want ops M a0 w0 env o true) (hx : Opd ops M a0 w0 env o x (VEq (.string ⟨a.toArray⟩))) (hy : Opd ops M a0 w0 env o y (VEq (.string ⟨b.toArray⟩)))
    (hab : a ≠ b)
    (hr : VWalk P Q ops M a0 w0 K m rest (VEq (.bool true) :: env)) : VWalk P Q ops M a0 w0 K (m + 1) (o :: rest) env :=
  .det2 x y hw hx hy (fun ρ w _ h1 h2 => by
    unfold execOp
    simp [ho, h1, h2, go_sem, hab]) hr
end
end Go.Proofs.Ytfbamdkalamliaa
