/- What the wakes ask, as numbers; contracts as a region takes them. -/
import Derived.Test.YtkbhkadienddmaaPatJ
namespace Go.Proofs.Ytkbhkadienddmaa
open Go.RowKit Go.Shelf LetM SetM
def lFour : List (List UInt8) := [[104, 101], [115, 104, 101], [72, 101], [104, 101, 114]]
def lThree : List (List UInt8) := [[104, 101], [115, 104, 101], [104, 101, 114]]
def lTwo : List (List UInt8) := [[104, 101], [72, 101]]
def wLong : List UInt8 := [48, 49, 50, 51, 52, 53, 54, 55, 56, 57, 48, 49, 50, 51, 52, 53, 54, 55, 56, 57, 48, 49, 50, 51, 52, 53, 54, 55, 56, 57, 48, 49, 50, 51]
def manyL (k : Nat) : List (List UInt8) := (List.range k).map fun i => [UInt8.ofNat i]
theorem wk_make4 : makeR true lFour = (true, lThree, 0) := by decide +kernel
theorem wk_make0 : makeR false [] = (false, [], 50) := by decide +kernel
theorem wk_make2 : makeR false lTwo = (false, lTwo, 0) := by decide +kernel
theorem wk_num1 : numberF true [83, 72, 69] lThree = (1, true) := by decide +kernel
theorem wk_num2 : numberF true [115, 104] lThree = (0, false) := by decide +kernel
theorem wk_nodes4 : nodesR true lFour = 7 := by decide +kernel
theorem wk_nodes0 : nodesR false [] = 1 := by decide +kernel
theorem wk_check1 : checkR false [wLong] = 53 := by decide +kernel
theorem wk_check2 : checkR false [wLong, []] = 52 := by decide +kernel
theorem wk_check65 : checkR false (manyL 65) = 51 := by decide +kernel
theorem wk_check64 : checkR false ((manyL 65).take 64) = 0 := by decide +kernel
theorem wk_right3 : rightS true lThree = true := by decide +kernel
theorem wk_right0 : rightS false [] = false := by decide +kernel
theorem wk_rightHe : rightS true [[72, 101]] = false := by decide +kernel
theorem wk_long3 : longN lThree = 3 := by decide +kernel
theorem wk_same : decide (true = false ∧ lThree = lTwo) = false := by decide +kernel
section
variable {w0 : World}
theorem c_pmake (fold : Bool) (ws : List (List UInt8)) (f' : Bool) (ws' : List (List UInt8)) (e : Int) (h : makeR fold ws = (f', ws', e)) (hl : ws.flatten.length ≤ 1000000) (hn : ws.length ≤ 1000000) : ∀ u v w, Ext w0 w → VEq (.bool fold) u w → VParts ws v w → Calls Try.prog 11 #[u, v] w (Ret w (VTup [VSet f' ws', VEq (.int .i64 e)])) := fun u v w _ hu hv => by
  rw [show u = _ from hu]
  refine (pmake_any fold ws v w hv hl hn).mono ?_
  rintro x w' ⟨r, h1, h2, sv, h3, h4⟩
  rw [h] at h3 h4
  subst h3
  exact ⟨_, h1, h2, VTup.two ⟨sv, rfl, OwnP.parts h4⟩ rfl⟩
theorem c_pown (f : Bool) (ws : List (List UInt8)) (hl : ∀ b ∈ ws, b.length ≤ 1000000) (hn : ws.length ≤ 1000000) : ∀ u w, Ext w0 w → VSet f ws u w → Calls Try.prog 25 #[u] w (Ret w (VSet f ws)) := fun u w _ hu => by
  refine (pown_any f ws u w hu hl hn).mono ?_
  rintro x w' ⟨r, h1, h2, sv, h3, h4⟩
  subst h3
  exact ⟨_, h1, h2, sv, rfl, OwnP.parts h4⟩
end
section
variable {Q : Exit → Act → World → Prop} {ops : Array Oper} {M m : Nat} {a0 : Act} {w0 : World} {K : List Oper → List VP → Prop} {o : Oper} {rest : List Oper} {env : List VP}
theorem VWalk.buildSet {ws : List (List UInt8)} (b : Bool) (x : Operand) (ho : o.op = .build 24 #[(0, .const (.bool b)), (1, x)]) (hw : Want ops M a0 w0 env o true) (hx : Opd ops M a0 w0 env o x (VParts ws))
    (hr : VWalk Try.prog Q ops M a0 w0 K m rest (VSet b ws :: env)) : VWalk Try.prog Q ops M a0 w0 K (m + 1) (o :: rest) env :=
  .val hw (fun a w hE hC hD => by
    have hX := hx a w hE hC hD
    refine ⟨.agg #[.bool b, a.eval x], ?_, a.eval x, rfl, hX⟩
    obtain ⟨A, c, hA, -⟩ := VParts.form hX
    have hcb : a.eval (.const (.bool b)) = .bool b := rfl
    revert hA hcb
    generalize a.eval = ρ
    intro hA hcb
    unfold execOp
    simp [ho, hA, hcb, go_sem]) hr
end
end Go.Proofs.Ytkbhkadienddmaa
