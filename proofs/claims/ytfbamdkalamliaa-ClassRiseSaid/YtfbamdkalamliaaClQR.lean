/- ClassRise: whatever comes in, the law returns true; all that came in reads behind the call as it did ahead of it. Conditions: none. -/
import Derived.Test.YtfbamdkalamliaaM
import Derived.Test.YtfbamdkalamliaaRO
import Derived.Test.YtfbamdkalamliaaClQ
namespace Go.Proofs.Ytfbamdkalamliaa
open Go.ChangeShapes Go.WideShapes Go.ChangeAt Go.RowKit

set_option maxRecDepth 100000 in
theorem classRise_lifted (os : Os) (started : os.Started) (H : Type) (enc : TypeId × Value → H) :
    ReturnsInHanded {} Try.checked os 6 .any (Rows.classRiseSpec.pre6 enc Try.prog Try.f6 Rows.classRiseRow.domain false) (Rows.classRiseSpec.post enc Try.prog Try.f6 false true false false) := by
  refine returnsInHanded_of_change (C := Try.checked) knob_none started (by kernel_rfl) Try.func6
    (ChangeSpec.witness6 (enc := enc) (C := Try.checked) false ⟨#[], #[.agg #[.bool false, .slice none 0 0]], []⟩ 8 (by kernel_rfl) (by kernel_rfl) (by kernel_rfl) (by kernel_rfl)) ?_
  intro W base args ds gs before hval0 hW _ _
  have hval : ∀ (j : Nat) t v, Try.f6.params[j]? = some t → args[j]? = some v → Value.okWide Try.prog W .any base t v := hval0
  have hW' := hW
  obtain ⟨p, q, hA0, hV, rfl, hfz, hnd⟩ := hW
  have hA : DataW.TrodAll enc Try.prog W 0 (fun _ => true) true Try.f6.params.toList args.toList ds p := hA0
  obtain ⟨rfl, rfl⟩ := trodVars_none hV
  rw [Try.params6] at hA hval
  have hA' := hA
  obtain ⟨v0, vs0, d0, ds0, p0, q0, hargs, rfl, rfl, h0, r0⟩ := trodAll_cons hA
  obtain ⟨rfl, rfl, rfl⟩ := trodAll_nil r0
  obtain rfl : args = #[v0] := by cases args; simp_all
  obtain ⟨f0, ws0, hS0⟩ := open_set (hval 0 24 v0 rfl rfl) h0
  refine (classRise_any f0 ws0 v0 W hS0).mono ?_
  rintro e W' ⟨v, rfl, hE, rfl⟩
  have hl : ∀ x ∈ (p0 ++ [] : List MemPlace), x.block < W.heap.size := fun x hx => hW'.lt x (List.mem_append_left _ hx)
  exact ⟨_, rfl, _, _, _, [], _, [], hW', trodAll_mk1 (shut_bool Try.underlying4 _), trodAll_below all_laid hE _ (by kernel_rfl) _ _ _ hA' hl, rfl, Below.frame hE _, fun h => by cases h⟩

theorem classRise_holds : Rows.ClassRiseSaid :=
  OpenClaim.holds_of_wide 6 Try.f6 rfl rfl rfl rfl rfl rfl rfl ⟨rfl, rfl, rfl, rfl, rfl⟩ rfl rfl rfl rfl rfl (by kernel_rfl) Try.func6 (by kernel_rfl)
    (of_decide_eq_true (by kernel_rfl)) (by unfold Func.isWrapper; first | (rw [if_pos (by decide +kernel)]; kernel_rfl) | (rw [if_neg (by decide +kernel)]; exact ⟨rfl, rfl⟩))
    (fun os started H enc _ => classRise_lifted os started H enc)
#print axioms classRise_holds
end Go.Proofs.Ytfbamdkalamliaa
