/- A set that came in by value. -/
import Derived.Test.YtfbamdkalamliaaM
import Derived.Test.YtfbamdkalamliaaRS
namespace Go.Proofs.Ytfbamdkalamliaa
open Go.ChangeShapes Go.WideShapes Go.ChangeAt Go.RowKit Go.Joins

set_option maxRecDepth 100000 in
theorem open_set {H : Type} {enc : TypeId × Value → H} {w : World} {base : Nat} {spare : Nat → Bool} {held : Bool} {r : Reach} {b0 : Nat} {v : Value} {d : DataW H} {p : List MemPlace}
    (hv : Value.okWide Try.prog w r b0 24 v) (h : DataW.Trod enc Try.prog w base spare held 24 v d p) : ∃ f ws, VSet f ws v w := by
  obtain ⟨v0, v1, y0, y1, n, rfl, _, _, h0, h1⟩ := open_agg2 Try.underlying24 (by kernel_rfl) (by kernel_rfl) hv h
  obtain ⟨a, ha, _, _⟩ := DataW.trod_bool Try.underlying4 h0
  obtain ⟨ps, u, hu, hb⟩ := parts_of_trod Try.underlying22 (by kernel_rfl) Try.underlying26 Try.underlying5 (by kernel_rfl) h1
  simp only [List.cons.injEq, and_true] at ha hu
  subst ha; subst hu
  exact ⟨a, ps, _, rfl, hb⟩
end Go.Proofs.Ytfbamdkalamliaa
