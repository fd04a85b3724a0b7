/-
  No cell of these rows narrows 'for every input' (looked for: loops, veiled, ifaces, maps, wideKeys, modest, calm, conditions, laid).
  DERIVED. THE GIVEN ROWS OF THIS SEAT. 5 by the template 'for every input the law returns true; each argument reads behind the call as it read before'; 0 by the template 'total and deterministic' (their statements: YtggjkhldknppkaaTotals.lean).
  GIVEN WITH THE SEED: the statements are not yours to turn. If you find one false, say at which input.
  Laid BY PROGRAM, IN A SANDBOX (cutbox-rows.mjs): the forced cells as the released guide's own fill.sh prints them over the translation 91fbcd23031efcad… (all of the seat's roots in one cut). By AI agents, Wed Nov 11 2026. No macro, syntax, notation, axiom, sorry.
-/
import Derived.Test.YtggjkhldknppkaaChecked
import GoSem.Claim
import GoSem.ClaimJoined
import GoSem.ClaimMapViews
import Derived.JoinedTies
import Derived.KernelRfl
namespace Go.Proofs.Ytggjkhldknppkaa
/- THE CELL 'sum', in the pinned program and in every row, IS THE sha256 OF THE DUMP (.gsa) THAT YtggjkhldknppkaaProg.lean LOADS. Nothing in Lean hashes anything: it is a label: what it is worth is what the hold of that sum in a sandbox is worth. -/
noncomputable def Try.pinned : Pinned := { name := "ytggjkhldknppkaa", sum := "91fbcd23031efcad2497347da6ecf8a63ae3098ec40417ab5af6fcf3fac897f6", checked := Try.checked }
namespace Rows
def none {H : Type} : Left H := { results := [], args := [] }

/-- 'teasellaw04.PackedTells': WHATEVER THE INPUT: true; the input reads as it did. -/
def packedTellsSpec : ChangeSpec := { name := "packedTells", fn := fun _ => fun
  | [d1, d2, d3, d4] => { results := [.lit (.bool true)], args := [d1, d2, d3, d4] }
  | _ => none }
def packedTellsRow : OpenClaim := { program := "ytggjkhldknppkaa", sum := "91fbcd23031efcad2497347da6ecf8a63ae3098ec40417ab5af6fcf3fac897f6", func := "teasel/teasellaw04.PackedTells", spec := "packedTells", unfollowed := true, recurses := true, apart := false }
def PackedTellsSaid : Prop := packedTellsRow.holds Try.pinned (OpenSpec.ofChange packedTellsSpec)

/-- ITS FALSE NEIGHBOUR: 'it returns false'. Refute it at one input. -/
def packedTellsWrong : ChangeSpec := { name := "packedTells", fn := fun _ => fun
  | [d1, d2, d3, d4] => { results := [.lit (.bool false)], args := [d1, d2, d3, d4] }
  | _ => none }
def PackedTellsWrongFalsely : Prop := packedTellsRow.holds Try.pinned (OpenSpec.ofChange packedTellsWrong)

/-- 'teasellaw04.PackedBack': WHATEVER THE INPUT: true; the input reads as it did. -/
def packedBackSpec : ChangeSpec := { name := "packedBack", fn := fun _ => fun
  | [d1, d2, d3] => { results := [.lit (.bool true)], args := [d1, d2, d3] }
  | _ => none }
def packedBackRow : OpenClaim := { program := "ytggjkhldknppkaa", sum := "91fbcd23031efcad2497347da6ecf8a63ae3098ec40417ab5af6fcf3fac897f6", func := "teasel/teasellaw04.PackedBack", spec := "packedBack", unfollowed := true, recurses := true, apart := false }
def PackedBackSaid : Prop := packedBackRow.holds Try.pinned (OpenSpec.ofChange packedBackSpec)

/-- ITS FALSE NEIGHBOUR: 'it returns false'. Refute it at one input. -/
def packedBackWrong : ChangeSpec := { name := "packedBack", fn := fun _ => fun
  | [d1, d2, d3] => { results := [.lit (.bool false)], args := [d1, d2, d3] }
  | _ => none }
def PackedBackWrongFalsely : Prop := packedBackRow.holds Try.pinned (OpenSpec.ofChange packedBackWrong)

/-- 'teasellaw04.PackedOne': WHATEVER THE INPUT: true; the input reads as it did. -/
def packedOneSpec : ChangeSpec := { name := "packedOne", fn := fun _ => fun
  | [d1, d2, d3, d4] => { results := [.lit (.bool true)], args := [d1, d2, d3, d4] }
  | _ => none }
def packedOneRow : OpenClaim := { program := "ytggjkhldknppkaa", sum := "91fbcd23031efcad2497347da6ecf8a63ae3098ec40417ab5af6fcf3fac897f6", func := "teasel/teasellaw04.PackedOne", spec := "packedOne", unfollowed := true, recurses := true, apart := false }
def PackedOneSaid : Prop := packedOneRow.holds Try.pinned (OpenSpec.ofChange packedOneSpec)

/-- ITS FALSE NEIGHBOUR: 'it returns false'. Refute it at one input. -/
def packedOneWrong : ChangeSpec := { name := "packedOne", fn := fun _ => fun
  | [d1, d2, d3, d4] => { results := [.lit (.bool false)], args := [d1, d2, d3, d4] }
  | _ => none }
def PackedOneWrongFalsely : Prop := packedOneRow.holds Try.pinned (OpenSpec.ofChange packedOneWrong)

/-- 'teasellaw04.PackedForm': WHATEVER THE INPUT: true; the input reads as it did. -/
def packedFormSpec : ChangeSpec := { name := "packedForm", fn := fun _ => fun
  | [d1, d2, d3, d4, d5] => { results := [.lit (.bool true)], args := [d1, d2, d3, d4, d5] }
  | _ => none }
def packedFormRow : OpenClaim := { program := "ytggjkhldknppkaa", sum := "91fbcd23031efcad2497347da6ecf8a63ae3098ec40417ab5af6fcf3fac897f6", func := "teasel/teasellaw04.PackedForm", spec := "packedForm", unfollowed := true, recurses := true, apart := false }
def PackedFormSaid : Prop := packedFormRow.holds Try.pinned (OpenSpec.ofChange packedFormSpec)

/-- ITS FALSE NEIGHBOUR: 'it returns false'. Refute it at one input. -/
def packedFormWrong : ChangeSpec := { name := "packedForm", fn := fun _ => fun
  | [d1, d2, d3, d4, d5] => { results := [.lit (.bool false)], args := [d1, d2, d3, d4, d5] }
  | _ => none }
def PackedFormWrongFalsely : Prop := packedFormRow.holds Try.pinned (OpenSpec.ofChange packedFormWrong)

/-- 'teasellaw04.PackedHead': WHATEVER THE INPUT: true; the input reads as it did. -/
def packedHeadSpec : ChangeSpec := { name := "packedHead", fn := fun _ => fun
  | [d1, d2, d3, d4] => { results := [.lit (.bool true)], args := [d1, d2, d3, d4] }
  | _ => none }
def packedHeadRow : OpenClaim := { program := "ytggjkhldknppkaa", sum := "91fbcd23031efcad2497347da6ecf8a63ae3098ec40417ab5af6fcf3fac897f6", func := "teasel/teasellaw04.PackedHead", spec := "packedHead", unfollowed := true, recurses := true, apart := false }
def PackedHeadSaid : Prop := packedHeadRow.holds Try.pinned (OpenSpec.ofChange packedHeadSpec)

/-- ITS FALSE NEIGHBOUR: 'it returns false'. Refute it at one input. -/
def packedHeadWrong : ChangeSpec := { name := "packedHead", fn := fun _ => fun
  | [d1, d2, d3, d4] => { results := [.lit (.bool false)], args := [d1, d2, d3, d4] }
  | _ => none }
def PackedHeadWrongFalsely : Prop := packedHeadRow.holds Try.pinned (OpenSpec.ofChange packedHeadWrong)

/- THE SECOND FORM. 'bulk': how many values and letters a reading holds, each counted each time it is reached (what is shared counts as often as it is met; a slice's spare places count too). A statement '..UptoSaid' is the law's where the arguments, and the package variables that the reading takes, are together of bulk at most 1048576: NARROWER than '..Said'. Prove '..Said' where nothing that the law and all that it calls make is longer than what came in: it says more and counts as full. Else prove '..UptoSaid'. A law counts once. -/
mutual
def uptoBulk {H : Type} : DataW H → Nat
  | .lit (.string bytes) => bytes.length + 1
  | .lit _ => 1
  | .nil => 1
  | .ptr d => uptoBulk d + 1
  | .slice elems spare => uptoBulkAll elems + uptoBulkAll spare + 1
  | .agg parts => uptoBulkAll parts + 1
  | .iface _ d => uptoBulk d + 1
  | .map entries => uptoBulkEntries entries + 1
  | .held _ => 1
def uptoBulkAll {H : Type} : List (DataW H) → Nat
  | [] => 0
  | d :: r => uptoBulk d + uptoBulkAll r
def uptoBulkEntries {H : Type} : List (Lit × DataW H) → Nat
  | [] => 0
  | x :: r => uptoBulkEntry x + uptoBulkEntries r
def uptoBulkEntry {H : Type} : Lit × DataW H → Nat
  | (.string bytes, d) => bytes.length + uptoBulk d + 1
  | (_, d) => uptoBulk d + 1
 end
def uptoSmall : (H : Type) → List (DataW H) → Bool := fun _ ds => decide (uptoBulkAll ds ≤ 1048576)
def OpenSpec.upto (s : _root_.Go.ChangeSpec) : _root_.Go.OpenSpec := { _root_.Go.OpenSpec.ofChange s with cond := some uptoSmall }

/-- 'teasellaw04.PackedTells', WHERE WHAT IT READS IS OF BULK AT MOST 1048576: true; the input reads as it did. -/
def packedTellsUptoRow : OpenClaim := { program := "ytggjkhldknppkaa", sum := "91fbcd23031efcad2497347da6ecf8a63ae3098ec40417ab5af6fcf3fac897f6", func := "teasel/teasellaw04.PackedTells", spec := "packedTells", unfollowed := true, recurses := true, apart := false, narrowed := true }
def PackedTellsUptoSaid : Prop := packedTellsUptoRow.holds Try.pinned (OpenSpec.upto packedTellsSpec)

/-- 'teasellaw04.PackedBack', WHERE WHAT IT READS IS OF BULK AT MOST 1048576: true; the input reads as it did. -/
def packedBackUptoRow : OpenClaim := { program := "ytggjkhldknppkaa", sum := "91fbcd23031efcad2497347da6ecf8a63ae3098ec40417ab5af6fcf3fac897f6", func := "teasel/teasellaw04.PackedBack", spec := "packedBack", unfollowed := true, recurses := true, apart := false, narrowed := true }
def PackedBackUptoSaid : Prop := packedBackUptoRow.holds Try.pinned (OpenSpec.upto packedBackSpec)

/-- 'teasellaw04.PackedOne', WHERE WHAT IT READS IS OF BULK AT MOST 1048576: true; the input reads as it did. -/
def packedOneUptoRow : OpenClaim := { program := "ytggjkhldknppkaa", sum := "91fbcd23031efcad2497347da6ecf8a63ae3098ec40417ab5af6fcf3fac897f6", func := "teasel/teasellaw04.PackedOne", spec := "packedOne", unfollowed := true, recurses := true, apart := false, narrowed := true }
def PackedOneUptoSaid : Prop := packedOneUptoRow.holds Try.pinned (OpenSpec.upto packedOneSpec)

/-- 'teasellaw04.PackedForm', WHERE WHAT IT READS IS OF BULK AT MOST 1048576: true; the input reads as it did. -/
def packedFormUptoRow : OpenClaim := { program := "ytggjkhldknppkaa", sum := "91fbcd23031efcad2497347da6ecf8a63ae3098ec40417ab5af6fcf3fac897f6", func := "teasel/teasellaw04.PackedForm", spec := "packedForm", unfollowed := true, recurses := true, apart := false, narrowed := true }
def PackedFormUptoSaid : Prop := packedFormUptoRow.holds Try.pinned (OpenSpec.upto packedFormSpec)

/-- 'teasellaw04.PackedHead', WHERE WHAT IT READS IS OF BULK AT MOST 1048576: true; the input reads as it did. -/
def packedHeadUptoRow : OpenClaim := { program := "ytggjkhldknppkaa", sum := "91fbcd23031efcad2497347da6ecf8a63ae3098ec40417ab5af6fcf3fac897f6", func := "teasel/teasellaw04.PackedHead", spec := "packedHead", unfollowed := true, recurses := true, apart := false, narrowed := true }
def PackedHeadUptoSaid : Prop := packedHeadUptoRow.holds Try.pinned (OpenSpec.upto packedHeadSpec)

end Rows
end Go.Proofs.Ytggjkhldknppkaa
