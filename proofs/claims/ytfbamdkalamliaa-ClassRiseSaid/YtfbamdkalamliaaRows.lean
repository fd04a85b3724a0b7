/-
  No cell of these rows narrows 'for every input' (looked for: loops, veiled, ifaces, maps, wideKeys, modest, calm, conditions, laid).
  DERIVED. THE GIVEN ROWS OF THIS SEAT. 4 by the template 'for every input the law returns true; each argument reads behind the call as it read before'; 0 by the template 'total and deterministic' (their statements: YtfbamdkalamliaaTotals.lean).
  GIVEN WITH THE SEED: the statements are not yours to turn. If you find one false, say at which input.
  Laid BY PROGRAM, IN A SANDBOX (cutbox-rows.mjs): the forced cells as the released guide's own fill.sh prints them over the translation e936aa2eb234d87f… (all of the seat's roots in one cut). By AI agents, Wed Nov 11 2026. No macro, syntax, notation, axiom, sorry.
-/
import Derived.Test.YtfbamdkalamliaaChecked
import GoSem.Claim
import GoSem.ClaimJoined
import GoSem.ClaimMapViews
import Derived.JoinedTies
import Derived.KernelRfl
namespace Go.Proofs.Ytfbamdkalamliaa
/- THE CELL 'sum', in the pinned program and in every row, IS THE sha256 OF THE DUMP (.gsa) THAT YtfbamdkalamliaaProg.lean LOADS. Nothing in Lean hashes anything: it is a label: what it is worth is what the hold of that sum in a sandbox is worth. -/
noncomputable def Try.pinned : Pinned := { name := "ytfbamdkalamliaa", sum := "e936aa2eb234d87f24989600c0b989279418e0ae99a58915a66feb7e5991bf8a", checked := Try.checked }
namespace Rows
def none {H : Type} : Left H := { results := [], args := [] }

/-- 'teasellaw10.ClassTells': WHATEVER THE INPUT: true; the input reads as it did. -/
def classTellsSpec : ChangeSpec := { name := "classTells", fn := fun _ => fun
  | [d1, d2, d3, d4] => { results := [.lit (.bool true)], args := [d1, d2, d3, d4] }
  | _ => none }
def classTellsRow : OpenClaim := { program := "ytfbamdkalamliaa", sum := "e936aa2eb234d87f24989600c0b989279418e0ae99a58915a66feb7e5991bf8a", func := "teasel/teasellaw10.ClassTells", spec := "classTells", unfollowed := true, recurses := true, plainKeys := false, apart := false }
def ClassTellsSaid : Prop := classTellsRow.holds Try.pinned (OpenSpec.ofChange classTellsSpec)

/-- ITS FALSE NEIGHBOUR: 'it returns false'. Refute it at one input. -/
def classTellsWrong : ChangeSpec := { name := "classTells", fn := fun _ => fun
  | [d1, d2, d3, d4] => { results := [.lit (.bool false)], args := [d1, d2, d3, d4] }
  | _ => none }
def ClassTellsWrongFalsely : Prop := classTellsRow.holds Try.pinned (OpenSpec.ofChange classTellsWrong)

/-- 'teasellaw10.ClassSame': WHATEVER THE INPUT: true; the input reads as it did. -/
def classSameSpec : ChangeSpec := { name := "classSame", fn := fun _ => fun
  | [d1, d2, d3, d4] => { results := [.lit (.bool true)], args := [d1, d2, d3, d4] }
  | _ => none }
def classSameRow : OpenClaim := { program := "ytfbamdkalamliaa", sum := "e936aa2eb234d87f24989600c0b989279418e0ae99a58915a66feb7e5991bf8a", func := "teasel/teasellaw10.ClassSame", spec := "classSame", unfollowed := true, recurses := true, plainKeys := false, apart := false }
def ClassSameSaid : Prop := classSameRow.holds Try.pinned (OpenSpec.ofChange classSameSpec)

/-- ITS FALSE NEIGHBOUR: 'it returns false'. Refute it at one input. -/
def classSameWrong : ChangeSpec := { name := "classSame", fn := fun _ => fun
  | [d1, d2, d3, d4] => { results := [.lit (.bool false)], args := [d1, d2, d3, d4] }
  | _ => none }
def ClassSameWrongFalsely : Prop := classSameRow.holds Try.pinned (OpenSpec.ofChange classSameWrong)

/-- 'teasellaw10.ClassNone': WHATEVER THE INPUT: true; the input reads as it did. -/
def classNoneSpec : ChangeSpec := { name := "classNone", fn := fun _ => fun
  | [d] => { results := [.lit (.bool true)], args := [d] }
  | _ => none }
def classNoneRow : OpenClaim := { program := "ytfbamdkalamliaa", sum := "e936aa2eb234d87f24989600c0b989279418e0ae99a58915a66feb7e5991bf8a", func := "teasel/teasellaw10.ClassNone", spec := "classNone", unfollowed := true, recurses := true, plainKeys := false, apart := false }
def ClassNoneSaid : Prop := classNoneRow.holds Try.pinned (OpenSpec.ofChange classNoneSpec)

/-- ITS FALSE NEIGHBOUR: 'it returns false'. Refute it at one input. -/
def classNoneWrong : ChangeSpec := { name := "classNone", fn := fun _ => fun
  | [d] => { results := [.lit (.bool false)], args := [d] }
  | _ => none }
def ClassNoneWrongFalsely : Prop := classNoneRow.holds Try.pinned (OpenSpec.ofChange classNoneWrong)

/-- 'teasellaw10.ClassRise': WHATEVER THE INPUT: true; the input reads as it did. -/
def classRiseSpec : ChangeSpec := { name := "classRise", fn := fun _ => fun
  | [d] => { results := [.lit (.bool true)], args := [d] }
  | _ => none }
def classRiseRow : OpenClaim := { program := "ytfbamdkalamliaa", sum := "e936aa2eb234d87f24989600c0b989279418e0ae99a58915a66feb7e5991bf8a", func := "teasel/teasellaw10.ClassRise", spec := "classRise", unfollowed := true, recurses := true, plainKeys := false, apart := false }
def ClassRiseSaid : Prop := classRiseRow.holds Try.pinned (OpenSpec.ofChange classRiseSpec)

/-- ITS FALSE NEIGHBOUR: 'it returns false'. Refute it at one input. -/
def classRiseWrong : ChangeSpec := { name := "classRise", fn := fun _ => fun
  | [d] => { results := [.lit (.bool false)], args := [d] }
  | _ => none }
def ClassRiseWrongFalsely : Prop := classRiseRow.holds Try.pinned (OpenSpec.ofChange classRiseWrong)

/- THE SECOND FORM. 'bulk': how many values and letters a reading holds, each counted each time it is reached (what is shared counts as often as it is met; a slice's spare places count too). A statement '..UptoSaid' is the law's where the arguments, and the package variables that the reading takes, are together of bulk at most 1048576: NARROWER than '..Said'. Prove '..Said' where nothing that the law and all that it calls make is longer than what came in: it says more and counts as full. Else prove '..UptoSaid'. A law counts once. -/
mutual
def uptoBulk {H : Type} : DataW H → Nat
  | .lit (.string bytes) => bytes.length + 1
  | .lit _ => 1
  | .nil => 1
  | .ptr d => uptoBulk d + 1
  | .slice elems spare => uptoBulkAll elems + uptoBulkAll spare + 1
  | .agg parts => uptoBulkAll parts + 1
  | .iface _ d => uptoBulk d + 1
  | .map entries => uptoBulkEntries entries + 1
  | .held _ => 1
def uptoBulkAll {H : Type} : List (DataW H) → Nat
  | [] => 0
  | d :: r => uptoBulk d + uptoBulkAll r
def uptoBulkEntries {H : Type} : List (Lit × DataW H) → Nat
  | [] => 0
  | x :: r => uptoBulkEntry x + uptoBulkEntries r
def uptoBulkEntry {H : Type} : Lit × DataW H → Nat
  | (.string bytes, d) => bytes.length + uptoBulk d + 1
  | (_, d) => uptoBulk d + 1
 end
def uptoSmall : (H : Type) → List (DataW H) → Bool := fun _ ds => decide (uptoBulkAll ds ≤ 1048576)
def OpenSpec.upto (s : _root_.Go.ChangeSpec) : _root_.Go.OpenSpec := { _root_.Go.OpenSpec.ofChange s with cond := some uptoSmall }

/-- 'teasellaw10.ClassTells', WHERE WHAT IT READS IS OF BULK AT MOST 1048576: true; the input reads as it did. -/
def classTellsUptoRow : OpenClaim := { program := "ytfbamdkalamliaa", sum := "e936aa2eb234d87f24989600c0b989279418e0ae99a58915a66feb7e5991bf8a", func := "teasel/teasellaw10.ClassTells", spec := "classTells", unfollowed := true, recurses := true, plainKeys := false, apart := false, narrowed := true }
def ClassTellsUptoSaid : Prop := classTellsUptoRow.holds Try.pinned (OpenSpec.upto classTellsSpec)

/-- 'teasellaw10.ClassSame', WHERE WHAT IT READS IS OF BULK AT MOST 1048576: true; the input reads as it did. -/
def classSameUptoRow : OpenClaim := { program := "ytfbamdkalamliaa", sum := "e936aa2eb234d87f24989600c0b989279418e0ae99a58915a66feb7e5991bf8a", func := "teasel/teasellaw10.ClassSame", spec := "classSame", unfollowed := true, recurses := true, plainKeys := false, apart := false, narrowed := true }
def ClassSameUptoSaid : Prop := classSameUptoRow.holds Try.pinned (OpenSpec.upto classSameSpec)

/-- 'teasellaw10.ClassNone', WHERE WHAT IT READS IS OF BULK AT MOST 1048576: true; the input reads as it did. -/
def classNoneUptoRow : OpenClaim := { program := "ytfbamdkalamliaa", sum := "e936aa2eb234d87f24989600c0b989279418e0ae99a58915a66feb7e5991bf8a", func := "teasel/teasellaw10.ClassNone", spec := "classNone", unfollowed := true, recurses := true, plainKeys := false, apart := false, narrowed := true }
def ClassNoneUptoSaid : Prop := classNoneUptoRow.holds Try.pinned (OpenSpec.upto classNoneSpec)

/-- 'teasellaw10.ClassRise', WHERE WHAT IT READS IS OF BULK AT MOST 1048576: true; the input reads as it did. -/
def classRiseUptoRow : OpenClaim := { program := "ytfbamdkalamliaa", sum := "e936aa2eb234d87f24989600c0b989279418e0ae99a58915a66feb7e5991bf8a", func := "teasel/teasellaw10.ClassRise", spec := "classRise", unfollowed := true, recurses := true, plainKeys := false, apart := false, narrowed := true }
def ClassRiseUptoSaid : Prop := classRiseUptoRow.holds Try.pinned (OpenSpec.upto classRiseSpec)

end Rows
end Go.Proofs.Ytfbamdkalamliaa
