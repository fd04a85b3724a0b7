/- A region's walk inside a fence (the body of a range over a function): what holds of the region outside holds there. -/
import Derived.Test.YtggjkhldknppkaaX
import Derived.OrdersIn
import Derived.TacticsIn
import Derived.RangeFuncCalls
import Derived.Sort.CutIn
namespace Go.Proofs.Ytggjkhldknppkaa
open Go.RowKit

/-- A fence that lets all functions through. -/
structure FreeF (F : Fence) : Prop where
  fn : ∀ f, F.fn f
  depth : F.depth = none
  calls : ∀ {n : Nat} {P : Program} {f : FuncId} {args : Array Value} {w : World} {R : Ending → World → Prop}, Calls P f args w R → CallsIn F n P f args w R
  rows : ∀ {n : Nat} {P : Program} {row : String} {args : Array Value} {w : World} {R : Value → World → Prop}, Rows P row args w R → RowsIn F n P row args w R
theorem freeF_wide : FreeF Fence.wide := ⟨fun _ => trivial, rfl, fun h => callsIn_wide.2 h, fun h c cs _ => let ⟨v, w', r, s⟩ := h c cs; ⟨v, w', r, stepsIn_wide.2 s⟩⟩
theorem freeF_round (l : Nat) : FreeF (Fence.wide.inRound l) := ⟨fun _ => trivial, rfl, fun h => CallsIn.inRound l (callsIn_wide.2 h), fun h c cs _ => let ⟨v, w', r, s⟩ := h c cs; ⟨v, w', r, stepsIn_wide.2 s⟩⟩
section
variable {F : Fence} {n : Nat} {P : Program} {ops : Array Oper} {Q : Exit → Act → World → Prop}
def noDefer (l : List Oper) : Bool := l.all fun o => match o.op with | .defer _ => false | _ => true
theorem noDefer_spec {l : List Oper} (h : noDefer l = true) {o : Oper} (ho : o ∈ l) : ∀ c, o.op ≠ .defer c := by
  intro c e
  have := List.all_eq_true.1 h o ho
  rw [e] at this; cases this
theorem oper_in (hF : FreeF F) {o : Oper} (hd : ∀ c, o.op ≠ .defer c) {a : Act} {w : World} {K K' : Act → World → Prop} (hK : ∀ a w, K a w → K' a w) (h : o.wp P a w K Q) : o.wpIn F n P a w K' Q := by
  refine ⟨fun f _ => hF.fn f, ?_⟩
  rw [Oper.semAt_eq _ _ _ hd]
  unfold Oper.wp at h
  have hn : F.depth.isSome = true → 1 ≤ n := by rw [hF.depth]; intro h; cases h
  cases hr : (execOp a.eval o).run P w with
  | ok x w' =>
    rw [hr] at h
    cases x with
    | value v => exact hK _ _ h
    | skip => exact hK _ _ h
    | defer d => exact hK _ _ h
    | enter f args =>
      refine ⟨hn, hF.calls (Calls.mono h ?_)⟩
      rintro e w'' he
      cases e with
      | returned v => exact hK _ _ he
      | panicked ch => exact he
      | outgrown => exact he
    | row row args => exact ⟨hn, hF.rows (Rows.mono h fun _ _ he => hK _ _ he)⟩
    | _ => exact h.elim
  | halt x w' =>
    rw [hr] at h
    cases x with
    | panic v => exact h
    | _ => exact h.elim
theorem wpOp_in (hF : FreeF F) (hL : ¬ LetsOut Q) {l : List Oper} (hd : noDefer l = true) {i : Nat} {a : Act} {w : World} {K K' : Act → World → Prop} (hK : ∀ a w, K a w → K' a w) (h : wpOp P l.toArray Q i K a w) : wpOpIn F n P l.toArray Q i K' a w := by
  unfold wpOp at h
  unfold wpOpIn
  cases ho : l.toArray[i]? with
  | none => rw [ho] at h; exact hK _ _ h
  | some o =>
    rw [ho] at h
    simp only at h ⊢
    split
    · rename_i hw
      rw [if_pos hw] at h
      rcases h with h | ⟨_, h⟩
      · exact oper_in hF (noDefer_spec hd (by simpa using Array.mem_of_getElem? ho)) hK h
      · exact absurd h hL
    · rename_i hw
      rw [if_neg hw] at h
      exact ⟨fun f _ => hF.fn f, hK _ _ h⟩
theorem wpAny_in (hF : FreeF F) (hL : ¬ LetsOut Q) {l : List Oper} (hd : noDefer l = true) {md : Region.Mode} : ∀ (fuel : Nat) (listed : Array Bool) (a : Act) (w : World), wpAny P md l.toArray Q fuel listed a w → wpAnyIn F n P md l.toArray Q fuel listed a w
  | 0, _, _, _, h => h
  | fuel + 1, _, _, _, h => ⟨h.1, fun i hi => wpOp_in hF hL hd (fun a w => wpAny_in hF hL hd fuel _ a w) (h.2 i hi)⟩
theorem wpOps_in (hF : FreeF F) (hL : ¬ LetsOut Q) {l : List Oper} (hd : noDefer l = true) : ∀ (is : List Nat) (a : Act) (w : World), wpOps P l.toArray Q is a w → wpOpsIn F n P l.toArray Q is a w
  | [], _, _, h => h
  | i :: is, a, w, h => by
    rw [wpOps_cons] at h
    rw [wpOpsIn_cons]
    exact wpOp_in hF hL hd (fun a w => wpOps_in hF hL hd is a w) h
/-- A region that draws its order, inside. -/
theorem vregionI {id : Nat} {l : List Oper} {a0 : Act} {w : World} (hF : FreeF F) (hL : ¬ LetsOut Q) (hd : noDefer l = true) (m : Nat) (fl : List Nat) (hm : P.follows .mixedOrders = true) (hB : preB l.toArray m a0.tmps.size fl = true) (hQ : ∀ c a (d : Tmp) v w, Q (.panic c) { a with tmps := a.tmps.setIfInBounds d v } w → Q (.panic c) a w)
    (h : VWalk P Q l.toArray m a0 w.drew (fun tail env => decide (env.length = m) = true ∧ ∀ w', Ext w.drew w' → VFin P Q l.toArray tail (l.take m) env.reverse a0 w') m l []) : (Code.region id l.toArray true).wpIn F n P Q a0 w :=
  wpIn_region_any hm (wpAny_in hF hL hd _ _ _ _ (vregion_any m fl hB hQ (vwalk_fin m (preB_le hB) _ _ _ h)))
/-- .. where no operation floats: whatever a panic asks. -/
theorem vregionIN {id : Nat} {l : List Oper} {a0 : Act} {w : World} (hF : FreeF F) (hL : ¬ LetsOut Q) (hd : noDefer l = true) (m : Nat) (hm : P.follows .mixedOrders = true) (hB : preB l.toArray m a0.tmps.size [] = true)
    (h : VWalk P Q l.toArray m a0 w.drew (fun tail env => decide (env.length = m) = true ∧ ∀ w', Ext w.drew w' → VFin P Q l.toArray tail (l.take m) env.reverse a0 w') m l []) : (Code.region id l.toArray true).wpIn F n P Q a0 w :=
  wpIn_region_any hm (wpAny_in hF hL hd _ _ _ _ (vregion_anyN m [] hB (fun h => absurd rfl h) (vwalk_fin m (preB_le hB) _ _ _ h)))
theorem vregionI0 {id : Nat} {l : List Oper} {a0 : Act} {w : World} (hF : FreeF F) (hL : ¬ LetsOut Q) (hd : noDefer l = true) (m : Nat) (hB : preB0 l.toArray m a0.tmps.size = true)
    (h : VWalk P Q l.toArray m a0 w (fun tail env => decide (env.length = m) = true ∧ ∀ w', Ext w w' → VFin P Q l.toArray tail (l.take m) env.reverse a0 w') m l []) : (Code.region id l.toArray false).wpIn F n P Q a0 w :=
  wpIn_region (wpOps_in hF hL hd _ _ _ (vregion_ops m hB (vwalk_fin m (preB0_le hB) _ _ _ h)))
end
end Go.Proofs.Ytggjkhldknppkaa
