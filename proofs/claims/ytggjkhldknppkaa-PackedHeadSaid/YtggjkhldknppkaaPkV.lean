/- Four bytes that came in as an array, by value. -/
import Derived.Test.YtggjkhldknppkaaM
import Derived.Laws.IdiomArrays
import Derived.Lib.SmallJoins
namespace Go.Proofs.Ytggjkhldknppkaa
open Go.ChangeShapes Go.WideShapes Go.ChangeAt Go.RowKit Go.Joins
theorem u8_of {n : Int} (h : (Lit.int .u8 n).wf = true) : ∃ b : UInt8, n = (b.toNat : Int) := by
  have h1 : 0 ≤ n ∧ n < 256 := by
    simp [Lit.wf, IntKind.min, IntKind.max, IntKind.bits, IntKind.signed] at h
    omega
  exact ⟨UInt8.ofNat n.toNat, by simp; omega⟩
theorem u32_of {n : Int} (h : (Lit.int .u32 n).wf = true) : 0 ≤ n ∧ n < 4294967296 := by
  simp [Lit.wf, IntKind.min, IntKind.max, IntKind.bits, IntKind.signed] at h
  omega
theorem open_a4 {H : Type} {enc : TypeId × Value → H} {w : World} {base : Nat} {spare : Nat → Bool} {held : Bool} {r : Reach} {b0 : Nat} {v : Value} {d : DataW H} {p : List MemPlace}
    (hv : Value.okWide Try.prog w r b0 40 v) (h : DataW.Trod enc Try.prog w base spare held 40 v d p) : ∃ a b c d : UInt8, v = .agg #[.int .u8 (a.toNat : Int), .int .u8 (b.toNat : Int), .int .u8 (c.toNat : Int), .int .u8 (d.toNat : Int)] := by
  simp only [Value.okWide, Try.underlying40] at hv
  obtain ⟨cs, rfl, hsz, _⟩ := hv
  have hC : cs.size = 4 := hsz.trans (by kernel_rfl)
  obtain ⟨c0, c1, c2, c3, rfl⟩ := array4 hC
  obtain ⟨fuel, hf⟩ := h
  obtain ⟨y0, y1, y2, y3, n, _, h0, h1, h2, h3⟩ := trod_array4 Try.underlying40 (by kernel_rfl) hf
  obtain ⟨n0, e0, _, w0⟩ := DataW.trod_int Try.underlying5 h0
  obtain ⟨n1, e1, _, w1⟩ := DataW.trod_int Try.underlying5 h1
  obtain ⟨n2, e2, _, w2⟩ := DataW.trod_int Try.underlying5 h2
  obtain ⟨n3, e3, _, w3⟩ := DataW.trod_int Try.underlying5 h3
  obtain ⟨a, rfl⟩ := u8_of w0
  obtain ⟨b, rfl⟩ := u8_of w1
  obtain ⟨c, rfl⟩ := u8_of w2
  obtain ⟨d, rfl⟩ := u8_of w3
  simp only [List.cons.injEq, and_true] at e0 e1 e2 e3
  subst e0; subst e1; subst e2; subst e3
  exact ⟨a, b, c, d, rfl⟩
end Go.Proofs.Ytggjkhldknppkaa
