/-
  No cell of these rows narrows 'for every input' (looked for: loops, veiled, ifaces, maps, wideKeys, modest, calm, conditions, laid).
  DERIVED. THE GIVEN ROWS OF THIS SEAT. 5 by the template 'for every input the law returns true; each argument reads behind the call as it read before'; 0 by the template 'total and deterministic' (their statements: YtnkagcaipndljaaTotals.lean).
  GIVEN WITH THE SEED: the statements are not yours to turn. If you find one false, say at which input.
  Laid BY PROGRAM, IN A SANDBOX (cutbox-rows.mjs): the forced cells as the released guide's own fill.sh prints them over the translation 9c18ca31bfbd4ac6… (all of the seat's roots in one cut). By AI agents, Wed Nov 11 2026. No macro, syntax, notation, axiom, sorry.
-/
import Derived.Test.YtnkagcaipndljaaChecked
import GoSem.Claim
import GoSem.ClaimJoined
import GoSem.ClaimMapViews
import Derived.JoinedTies
import Derived.KernelRfl
namespace Go.Proofs.Ytnkagcaipndljaa
/- THE CELL 'sum', in the pinned program and in every row, IS THE sha256 OF THE DUMP (.gsa) THAT YtnkagcaipndljaaProg.lean LOADS. Nothing in Lean hashes anything: it is a label: what it is worth is what the hold of that sum in a sandbox is worth. -/
noncomputable def Try.pinned : Pinned := { name := "ytnkagcaipndljaa", sum := "9c18ca31bfbd4ac65bb293f2ddff8382c7df4550486edbd86c6d1f7879463f6f", checked := Try.checked }
namespace Rows
def none {H : Type} : Left H := { results := [], args := [] }

/-- 'teasellaw03.LetterTells': WHATEVER THE INPUT: true; the input reads as it did. -/
def letterTellsSpec : ChangeSpec := { name := "letterTells", fn := fun _ => fun
  | [d1, d2, d3, d4, d5, d6] => { results := [.lit (.bool true)], args := [d1, d2, d3, d4, d5, d6] }
  | _ => none }
def letterTellsRow : OpenClaim := { program := "ytnkagcaipndljaa", sum := "9c18ca31bfbd4ac65bb293f2ddff8382c7df4550486edbd86c6d1f7879463f6f", func := "teasel/teasellaw03.LetterTells", spec := "letterTells", unfollowed := true, recurses := true, apart := false }
def LetterTellsSaid : Prop := letterTellsRow.holds Try.pinned (OpenSpec.ofChange letterTellsSpec)

/-- ITS FALSE NEIGHBOUR: 'it returns false'. Refute it at one input. -/
def letterTellsWrong : ChangeSpec := { name := "letterTells", fn := fun _ => fun
  | [d1, d2, d3, d4, d5, d6] => { results := [.lit (.bool false)], args := [d1, d2, d3, d4, d5, d6] }
  | _ => none }
def LetterTellsWrongFalsely : Prop := letterTellsRow.holds Try.pinned (OpenSpec.ofChange letterTellsWrong)

/-- 'teasellaw03.LetterFolds': WHATEVER THE INPUT: true; the input reads as it did. -/
def letterFoldsSpec : ChangeSpec := { name := "letterFolds", fn := fun _ => fun
  | [d1, d2, d3] => { results := [.lit (.bool true)], args := [d1, d2, d3] }
  | _ => none }
def letterFoldsRow : OpenClaim := { program := "ytnkagcaipndljaa", sum := "9c18ca31bfbd4ac65bb293f2ddff8382c7df4550486edbd86c6d1f7879463f6f", func := "teasel/teasellaw03.LetterFolds", spec := "letterFolds", unfollowed := true, recurses := true, apart := false }
def LetterFoldsSaid : Prop := letterFoldsRow.holds Try.pinned (OpenSpec.ofChange letterFoldsSpec)

/-- ITS FALSE NEIGHBOUR: 'it returns false'. Refute it at one input. -/
def letterFoldsWrong : ChangeSpec := { name := "letterFolds", fn := fun _ => fun
  | [d1, d2, d3] => { results := [.lit (.bool false)], args := [d1, d2, d3] }
  | _ => none }
def LetterFoldsWrongFalsely : Prop := letterFoldsRow.holds Try.pinned (OpenSpec.ofChange letterFoldsWrong)

/-- 'teasellaw03.LetterStands': WHATEVER THE INPUT: true; the input reads as it did. -/
def letterStandsSpec : ChangeSpec := { name := "letterStands", fn := fun _ => fun
  | [d1, d2, d3, d4] => { results := [.lit (.bool true)], args := [d1, d2, d3, d4] }
  | _ => none }
def letterStandsRow : OpenClaim := { program := "ytnkagcaipndljaa", sum := "9c18ca31bfbd4ac65bb293f2ddff8382c7df4550486edbd86c6d1f7879463f6f", func := "teasel/teasellaw03.LetterStands", spec := "letterStands", unfollowed := true, recurses := true, apart := false }
def LetterStandsSaid : Prop := letterStandsRow.holds Try.pinned (OpenSpec.ofChange letterStandsSpec)

/-- ITS FALSE NEIGHBOUR: 'it returns false'. Refute it at one input. -/
def letterStandsWrong : ChangeSpec := { name := "letterStands", fn := fun _ => fun
  | [d1, d2, d3, d4] => { results := [.lit (.bool false)], args := [d1, d2, d3, d4] }
  | _ => none }
def LetterStandsWrongFalsely : Prop := letterStandsRow.holds Try.pinned (OpenSpec.ofChange letterStandsWrong)

/-- 'teasellaw03.LetterWhich': WHATEVER THE INPUT: true; the input reads as it did. -/
def letterWhichSpec : ChangeSpec := { name := "letterWhich", fn := fun _ => fun
  | [d1, d2, d3] => { results := [.lit (.bool true)], args := [d1, d2, d3] }
  | _ => none }
def letterWhichRow : OpenClaim := { program := "ytnkagcaipndljaa", sum := "9c18ca31bfbd4ac65bb293f2ddff8382c7df4550486edbd86c6d1f7879463f6f", func := "teasel/teasellaw03.LetterWhich", spec := "letterWhich", unfollowed := true, recurses := true, apart := false }
def LetterWhichSaid : Prop := letterWhichRow.holds Try.pinned (OpenSpec.ofChange letterWhichSpec)

/-- ITS FALSE NEIGHBOUR: 'it returns false'. Refute it at one input. -/
def letterWhichWrong : ChangeSpec := { name := "letterWhich", fn := fun _ => fun
  | [d1, d2, d3] => { results := [.lit (.bool false)], args := [d1, d2, d3] }
  | _ => none }
def LetterWhichWrongFalsely : Prop := letterWhichRow.holds Try.pinned (OpenSpec.ofChange letterWhichWrong)

/-- 'teasellaw03.LetterOwn': WHATEVER THE INPUT: true; the input reads as it did. -/
def letterOwnSpec : ChangeSpec := { name := "letterOwn", fn := fun _ => fun
  | [d] => { results := [.lit (.bool true)], args := [d] }
  | _ => none }
def letterOwnRow : OpenClaim := { program := "ytnkagcaipndljaa", sum := "9c18ca31bfbd4ac65bb293f2ddff8382c7df4550486edbd86c6d1f7879463f6f", func := "teasel/teasellaw03.LetterOwn", spec := "letterOwn", unfollowed := true, recurses := true, apart := false }
def LetterOwnSaid : Prop := letterOwnRow.holds Try.pinned (OpenSpec.ofChange letterOwnSpec)

/-- ITS FALSE NEIGHBOUR: 'it returns false'. Refute it at one input. -/
def letterOwnWrong : ChangeSpec := { name := "letterOwn", fn := fun _ => fun
  | [d] => { results := [.lit (.bool false)], args := [d] }
  | _ => none }
def LetterOwnWrongFalsely : Prop := letterOwnRow.holds Try.pinned (OpenSpec.ofChange letterOwnWrong)

/- THE SECOND FORM. 'bulk': how many values and letters a reading holds, each counted each time it is reached (what is shared counts as often as it is met; a slice's spare places count too). A statement '..UptoSaid' is the law's where the arguments, and the package variables that the reading takes, are together of bulk at most 1048576: NARROWER than '..Said'. Prove '..Said' where nothing that the law and all that it calls make is longer than what came in: it says more and counts as full. Else prove '..UptoSaid'. A law counts once. -/
mutual
def uptoBulk {H : Type} : DataW H → Nat
  | .lit (.string bytes) => bytes.length + 1
  | .lit _ => 1
  | .nil => 1
  | .ptr d => uptoBulk d + 1
  | .slice elems spare => uptoBulkAll elems + uptoBulkAll spare + 1
  | .agg parts => uptoBulkAll parts + 1
  | .iface _ d => uptoBulk d + 1
  | .map entries => uptoBulkEntries entries + 1
  | .held _ => 1
def uptoBulkAll {H : Type} : List (DataW H) → Nat
  | [] => 0
  | d :: r => uptoBulk d + uptoBulkAll r
def uptoBulkEntries {H : Type} : List (Lit × DataW H) → Nat
  | [] => 0
  | x :: r => uptoBulkEntry x + uptoBulkEntries r
def uptoBulkEntry {H : Type} : Lit × DataW H → Nat
  | (.string bytes, d) => bytes.length + uptoBulk d + 1
  | (_, d) => uptoBulk d + 1
 end
def uptoSmall : (H : Type) → List (DataW H) → Bool := fun _ ds => decide (uptoBulkAll ds ≤ 1048576)
def OpenSpec.upto (s : _root_.Go.ChangeSpec) : _root_.Go.OpenSpec := { _root_.Go.OpenSpec.ofChange s with cond := some uptoSmall }

/-- 'teasellaw03.LetterTells', WHERE WHAT IT READS IS OF BULK AT MOST 1048576: true; the input reads as it did. -/
def letterTellsUptoRow : OpenClaim := { program := "ytnkagcaipndljaa", sum := "9c18ca31bfbd4ac65bb293f2ddff8382c7df4550486edbd86c6d1f7879463f6f", func := "teasel/teasellaw03.LetterTells", spec := "letterTells", unfollowed := true, recurses := true, apart := false, narrowed := true }
def LetterTellsUptoSaid : Prop := letterTellsUptoRow.holds Try.pinned (OpenSpec.upto letterTellsSpec)

/-- 'teasellaw03.LetterFolds', WHERE WHAT IT READS IS OF BULK AT MOST 1048576: true; the input reads as it did. -/
def letterFoldsUptoRow : OpenClaim := { program := "ytnkagcaipndljaa", sum := "9c18ca31bfbd4ac65bb293f2ddff8382c7df4550486edbd86c6d1f7879463f6f", func := "teasel/teasellaw03.LetterFolds", spec := "letterFolds", unfollowed := true, recurses := true, apart := false, narrowed := true }
def LetterFoldsUptoSaid : Prop := letterFoldsUptoRow.holds Try.pinned (OpenSpec.upto letterFoldsSpec)

/-- 'teasellaw03.LetterStands', WHERE WHAT IT READS IS OF BULK AT MOST 1048576: true; the input reads as it did. -/
def letterStandsUptoRow : OpenClaim := { program := "ytnkagcaipndljaa", sum := "9c18ca31bfbd4ac65bb293f2ddff8382c7df4550486edbd86c6d1f7879463f6f", func := "teasel/teasellaw03.LetterStands", spec := "letterStands", unfollowed := true, recurses := true, apart := false, narrowed := true }
def LetterStandsUptoSaid : Prop := letterStandsUptoRow.holds Try.pinned (OpenSpec.upto letterStandsSpec)

/-- 'teasellaw03.LetterWhich', WHERE WHAT IT READS IS OF BULK AT MOST 1048576: true; the input reads as it did. -/
def letterWhichUptoRow : OpenClaim := { program := "ytnkagcaipndljaa", sum := "9c18ca31bfbd4ac65bb293f2ddff8382c7df4550486edbd86c6d1f7879463f6f", func := "teasel/teasellaw03.LetterWhich", spec := "letterWhich", unfollowed := true, recurses := true, apart := false, narrowed := true }
def LetterWhichUptoSaid : Prop := letterWhichUptoRow.holds Try.pinned (OpenSpec.upto letterWhichSpec)

/-- 'teasellaw03.LetterOwn', WHERE WHAT IT READS IS OF BULK AT MOST 1048576: true; the input reads as it did. -/
def letterOwnUptoRow : OpenClaim := { program := "ytnkagcaipndljaa", sum := "9c18ca31bfbd4ac65bb293f2ddff8382c7df4550486edbd86c6d1f7879463f6f", func := "teasel/teasellaw03.LetterOwn", spec := "letterOwn", unfollowed := true, recurses := true, apart := false, narrowed := true }
def LetterOwnUptoSaid : Prop := letterOwnUptoRow.holds Try.pinned (OpenSpec.upto letterOwnSpec)

end Rows
end Go.Proofs.Ytnkagcaipndljaa
