/-
  No cell of these rows narrows 'for every input' (looked for: loops, veiled, ifaces, maps, wideKeys, modest, calm, conditions, laid).
  DERIVED. THE GIVEN ROWS OF THIS SEAT. 4 by the template 'for every input the law returns true; each argument reads behind the call as it read before'; 0 by the template 'total and deterministic' (their statements: YtddkjicahpjcpaaTotals.lean).
  GIVEN WITH THE SEED: the statements are not yours to turn. If you find one false, say at which input.
  Laid BY PROGRAM, IN A SANDBOX (cutbox-rows.mjs): the forced cells as the released guide's own fill.sh prints them over the translation 051bfda96a8809c0… (all of the seat's roots in one cut). By AI agents, Wed Nov 11 2026. No macro, syntax, notation, axiom, sorry.
-/
import Derived.Test.YtddkjicahpjcpaaChecked
import GoSem.Claim
import GoSem.ClaimJoined
import GoSem.ClaimMapViews
import Derived.JoinedTies
import Derived.KernelRfl
namespace Go.Proofs.Ytddkjicahpjcpaa
/- THE CELL 'sum', in the pinned program and in every row, IS THE sha256 OF THE DUMP (.gsa) THAT YtddkjicahpjcpaaProg.lean LOADS. Nothing in Lean hashes anything: it is a label: what it is worth is what the hold of that sum in a sandbox is worth. -/
noncomputable def Try.pinned : Pinned := { name := "ytddkjicahpjcpaa", sum := "051bfda96a8809c0289f39af22b338d5dc6aba14e6ad05e108abef781e2ba826", checked := Try.checked }
namespace Rows
def none {H : Type} : Left H := { results := [], args := [] }

/-- 'teasellaw01.DigitTells': WHATEVER THE INPUT: true; the input reads as it did. -/
def digitTellsSpec : ChangeSpec := { name := "digitTells", fn := fun _ => fun
  | [d1, d2, d3, d4] => { results := [.lit (.bool true)], args := [d1, d2, d3, d4] }
  | _ => none }
def digitTellsRow : OpenClaim := { program := "ytddkjicahpjcpaa", sum := "051bfda96a8809c0289f39af22b338d5dc6aba14e6ad05e108abef781e2ba826", func := "teasel/teasellaw01.DigitTells", spec := "digitTells", unfollowed := true, recurses := true, apart := false }
def DigitTellsSaid : Prop := digitTellsRow.holds Try.pinned (OpenSpec.ofChange digitTellsSpec)

/-- ITS FALSE NEIGHBOUR: 'it returns false'. Refute it at one input. -/
def digitTellsWrong : ChangeSpec := { name := "digitTells", fn := fun _ => fun
  | [d1, d2, d3, d4] => { results := [.lit (.bool false)], args := [d1, d2, d3, d4] }
  | _ => none }
def DigitTellsWrongFalsely : Prop := digitTellsRow.holds Try.pinned (OpenSpec.ofChange digitTellsWrong)

/-- 'teasellaw01.DigitBack': WHATEVER THE INPUT: true; the input reads as it did. -/
def digitBackSpec : ChangeSpec := { name := "digitBack", fn := fun _ => fun
  | [d1, d2] => { results := [.lit (.bool true)], args := [d1, d2] }
  | _ => none }
def digitBackRow : OpenClaim := { program := "ytddkjicahpjcpaa", sum := "051bfda96a8809c0289f39af22b338d5dc6aba14e6ad05e108abef781e2ba826", func := "teasel/teasellaw01.DigitBack", spec := "digitBack", unfollowed := true, recurses := true, apart := false }
def DigitBackSaid : Prop := digitBackRow.holds Try.pinned (OpenSpec.ofChange digitBackSpec)

/-- ITS FALSE NEIGHBOUR: 'it returns false'. Refute it at one input. -/
def digitBackWrong : ChangeSpec := { name := "digitBack", fn := fun _ => fun
  | [d1, d2] => { results := [.lit (.bool false)], args := [d1, d2] }
  | _ => none }
def DigitBackWrongFalsely : Prop := digitBackRow.holds Try.pinned (OpenSpec.ofChange digitBackWrong)

/-- 'teasellaw01.DigitOnly': WHATEVER THE INPUT: true; the input reads as it did. -/
def digitOnlySpec : ChangeSpec := { name := "digitOnly", fn := fun _ => fun
  | [d1, d2] => { results := [.lit (.bool true)], args := [d1, d2] }
  | _ => none }
def digitOnlyRow : OpenClaim := { program := "ytddkjicahpjcpaa", sum := "051bfda96a8809c0289f39af22b338d5dc6aba14e6ad05e108abef781e2ba826", func := "teasel/teasellaw01.DigitOnly", spec := "digitOnly", unfollowed := true, recurses := true, apart := false }
def DigitOnlySaid : Prop := digitOnlyRow.holds Try.pinned (OpenSpec.ofChange digitOnlySpec)

/-- ITS FALSE NEIGHBOUR: 'it returns false'. Refute it at one input. -/
def digitOnlyWrong : ChangeSpec := { name := "digitOnly", fn := fun _ => fun
  | [d1, d2] => { results := [.lit (.bool false)], args := [d1, d2] }
  | _ => none }
def DigitOnlyWrongFalsely : Prop := digitOnlyRow.holds Try.pinned (OpenSpec.ofChange digitOnlyWrong)

/-- 'teasellaw01.DigitSize': WHATEVER THE INPUT: true; the input reads as it did. -/
def digitSizeSpec : ChangeSpec := { name := "digitSize", fn := fun _ => fun
  | [d] => { results := [.lit (.bool true)], args := [d] }
  | _ => none }
def digitSizeRow : OpenClaim := { program := "ytddkjicahpjcpaa", sum := "051bfda96a8809c0289f39af22b338d5dc6aba14e6ad05e108abef781e2ba826", func := "teasel/teasellaw01.DigitSize", spec := "digitSize", unfollowed := true, recurses := true, apart := false }
def DigitSizeSaid : Prop := digitSizeRow.holds Try.pinned (OpenSpec.ofChange digitSizeSpec)

/-- ITS FALSE NEIGHBOUR: 'it returns false'. Refute it at one input. -/
def digitSizeWrong : ChangeSpec := { name := "digitSize", fn := fun _ => fun
  | [d] => { results := [.lit (.bool false)], args := [d] }
  | _ => none }
def DigitSizeWrongFalsely : Prop := digitSizeRow.holds Try.pinned (OpenSpec.ofChange digitSizeWrong)

/- THE SECOND FORM. 'bulk': how many values and letters a reading holds, each counted each time it is reached (what is shared counts as often as it is met; a slice's spare places count too). A statement '..UptoSaid' is the law's where the arguments, and the package variables that the reading takes, are together of bulk at most 1048576: NARROWER than '..Said'. Prove '..Said' where nothing that the law and all that it calls make is longer than what came in: it says more and counts as full. Else prove '..UptoSaid'. A law counts once. -/
mutual
def uptoBulk {H : Type} : DataW H → Nat
  | .lit (.string bytes) => bytes.length + 1
  | .lit _ => 1
  | .nil => 1
  | .ptr d => uptoBulk d + 1
  | .slice elems spare => uptoBulkAll elems + uptoBulkAll spare + 1
  | .agg parts => uptoBulkAll parts + 1
  | .iface _ d => uptoBulk d + 1
  | .map entries => uptoBulkEntries entries + 1
  | .held _ => 1
def uptoBulkAll {H : Type} : List (DataW H) → Nat
  | [] => 0
  | d :: r => uptoBulk d + uptoBulkAll r
def uptoBulkEntries {H : Type} : List (Lit × DataW H) → Nat
  | [] => 0
  | x :: r => uptoBulkEntry x + uptoBulkEntries r
def uptoBulkEntry {H : Type} : Lit × DataW H → Nat
  | (.string bytes, d) => bytes.length + uptoBulk d + 1
  | (_, d) => uptoBulk d + 1
 end
def uptoSmall : (H : Type) → List (DataW H) → Bool := fun _ ds => decide (uptoBulkAll ds ≤ 1048576)
def OpenSpec.upto (s : _root_.Go.ChangeSpec) : _root_.Go.OpenSpec := { _root_.Go.OpenSpec.ofChange s with cond := some uptoSmall }

/-- 'teasellaw01.DigitTells', WHERE WHAT IT READS IS OF BULK AT MOST 1048576: true; the input reads as it did. -/
def digitTellsUptoRow : OpenClaim := { program := "ytddkjicahpjcpaa", sum := "051bfda96a8809c0289f39af22b338d5dc6aba14e6ad05e108abef781e2ba826", func := "teasel/teasellaw01.DigitTells", spec := "digitTells", unfollowed := true, recurses := true, apart := false, narrowed := true }
def DigitTellsUptoSaid : Prop := digitTellsUptoRow.holds Try.pinned (OpenSpec.upto digitTellsSpec)

/-- 'teasellaw01.DigitBack', WHERE WHAT IT READS IS OF BULK AT MOST 1048576: true; the input reads as it did. -/
def digitBackUptoRow : OpenClaim := { program := "ytddkjicahpjcpaa", sum := "051bfda96a8809c0289f39af22b338d5dc6aba14e6ad05e108abef781e2ba826", func := "teasel/teasellaw01.DigitBack", spec := "digitBack", unfollowed := true, recurses := true, apart := false, narrowed := true }
def DigitBackUptoSaid : Prop := digitBackUptoRow.holds Try.pinned (OpenSpec.upto digitBackSpec)

/-- 'teasellaw01.DigitOnly', WHERE WHAT IT READS IS OF BULK AT MOST 1048576: true; the input reads as it did. -/
def digitOnlyUptoRow : OpenClaim := { program := "ytddkjicahpjcpaa", sum := "051bfda96a8809c0289f39af22b338d5dc6aba14e6ad05e108abef781e2ba826", func := "teasel/teasellaw01.DigitOnly", spec := "digitOnly", unfollowed := true, recurses := true, apart := false, narrowed := true }
def DigitOnlyUptoSaid : Prop := digitOnlyUptoRow.holds Try.pinned (OpenSpec.upto digitOnlySpec)

/-- 'teasellaw01.DigitSize', WHERE WHAT IT READS IS OF BULK AT MOST 1048576: true; the input reads as it did. -/
def digitSizeUptoRow : OpenClaim := { program := "ytddkjicahpjcpaa", sum := "051bfda96a8809c0289f39af22b338d5dc6aba14e6ad05e108abef781e2ba826", func := "teasel/teasellaw01.DigitSize", spec := "digitSize", unfollowed := true, recurses := true, apart := false, narrowed := true }
def DigitSizeUptoSaid : Prop := digitSizeUptoRow.holds Try.pinned (OpenSpec.upto digitSizeSpec)

end Rows
end Go.Proofs.Ytddkjicahpjcpaa
