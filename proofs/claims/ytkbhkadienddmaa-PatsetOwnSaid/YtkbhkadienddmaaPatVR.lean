/- PatsetOwn: whatever comes in, the law returns true; all that came in reads behind the call as it did ahead of it. Conditions: none. -/
import Derived.Test.YtkbhkadienddmaaM
import Derived.Test.YtkbhkadienddmaaRO
import Derived.Test.YtkbhkadienddmaaPatV
namespace Go.Proofs.Ytkbhkadienddmaa
open Go.ChangeShapes Go.WideShapes Go.ChangeAt Go.RowKit

set_option maxRecDepth 100000 in
theorem patsetOwn_lifted (os : Os) (started : os.Started) (H : Type) (enc : TypeId × Value → H) :
    ReturnsInHanded {} Try.checked os 7 .any (Rows.patsetOwnSpec.pre6 enc Try.prog Try.f7 Rows.patsetOwnRow.domain false) (Rows.patsetOwnSpec.post enc Try.prog Try.f7 false true false false) := by
  refine returnsInHanded_of_change (C := Try.checked) knob_none started (by kernel_rfl) Try.func7
    (ChangeSpec.witness6 (enc := enc) (C := Try.checked) false ⟨#[], #[.bool false, .slice none 0 0], []⟩ 8 (by kernel_rfl) (by kernel_rfl) (by kernel_rfl) (by kernel_rfl)) ?_
  intro W base args ds gs before hval0 hW _ _
  have hval : ∀ (j : Nat) t v, Try.f7.params[j]? = some t → args[j]? = some v → Value.okWide Try.prog W .any base t v := hval0
  have hW' := hW
  obtain ⟨p, q, hA0, hV, rfl, hfz, hnd⟩ := hW
  have hA : DataW.TrodAll enc Try.prog W 0 (fun _ => true) true Try.f7.params.toList args.toList ds p := hA0
  obtain ⟨rfl, rfl⟩ := trodVars_none hV
  rw [Try.params7] at hA hval
  have hA' := hA
  obtain ⟨v0, vs0, d0, ds0, p0, q0, hargs, rfl, rfl, h0, r0⟩ := trodAll_cons hA
  obtain ⟨v1, vs1, d1, ds1, p1, q1, rfl, rfl, rfl, h1, r1⟩ := trodAll_cons r0
  obtain ⟨rfl, rfl, rfl⟩ := trodAll_nil r1
  obtain rfl : args = #[v0, v1] := by cases args; simp_all
  obtain ⟨b0, rfl, rfl, rfl⟩ := open_bool Try.underlying4 (hval 0 4 v0 rfl rfl) h0
  obtain ⟨ps1, hp1⟩ := open_parts Try.underlying22 (by kernel_rfl) Try.underlying25 Try.underlying5 (by kernel_rfl) (hval 1 22 v1 rfl rfl) h1
  refine (patsetOwn_any b0 ps1 v1 W hp1).mono ?_
  rintro e W' ⟨v, rfl, hE, rfl⟩
  have hl : ∀ x ∈ ([] ++ (p1 ++ []) : List MemPlace), x.block < W.heap.size := fun x hx => hW'.lt x (List.mem_append_left _ hx)
  exact ⟨_, rfl, _, _, _, [], _, [], hW', trodAll_mk1 (shut_bool Try.underlying4 _), trodAll_below all_laid hE _ (by kernel_rfl) _ _ _ hA' hl, rfl, Below.frame hE _, fun h => by cases h⟩

theorem patsetOwn_holds : Rows.PatsetOwnSaid :=
  OpenClaim.holds_of_wide 7 Try.f7 rfl rfl rfl rfl rfl rfl rfl ⟨rfl, rfl, rfl, rfl, rfl⟩ rfl rfl rfl rfl rfl (by kernel_rfl) Try.func7 (by kernel_rfl)
    (of_decide_eq_true (by kernel_rfl)) (by unfold Func.isWrapper; first | (rw [if_pos (by decide +kernel)]; kernel_rfl) | (rw [if_neg (by decide +kernel)]; exact ⟨rfl, rfl⟩))
    (fun os started H enc _ => patsetOwn_lifted os started H enc)
#print axioms patsetOwn_holds
end Go.Proofs.Ytkbhkadienddmaa
