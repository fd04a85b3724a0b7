/-
  No cell of these rows narrows 'for every input' (looked for: loops, veiled, ifaces, maps, wideKeys, modest, calm, conditions, laid).
  DERIVED. THE GIVEN ROWS OF THIS SEAT. 5 by the template 'for every input the law returns true; each argument reads behind the call as it read before'; 0 by the template 'total and deterministic' (their statements: YtkbhkadienddmaaTotals.lean).
  GIVEN WITH THE SEED: the statements are not yours to turn. If you find one false, say at which input.
  Laid BY PROGRAM, IN A SANDBOX (cutbox-rows.mjs): the forced cells as the released guide's own fill.sh prints them over the translation 6e2b2eae9a66d9c0… (all of the seat's roots in one cut). By AI agents, Wed Nov 11 2026. No macro, syntax, notation, axiom, sorry.
-/
import Derived.Test.YtkbhkadienddmaaChecked
import GoSem.Claim
import GoSem.ClaimJoined
import GoSem.ClaimMapViews
import Derived.JoinedTies
import Derived.KernelRfl
namespace Go.Proofs.Ytkbhkadienddmaa
/- THE CELL 'sum', in the pinned program and in every row, IS THE sha256 OF THE DUMP (.gsa) THAT YtkbhkadienddmaaProg.lean LOADS. Nothing in Lean hashes anything: it is a label: what it is worth is what the hold of that sum in a sandbox is worth. -/
noncomputable def Try.pinned : Pinned := { name := "ytkbhkadienddmaa", sum := "6e2b2eae9a66d9c0553e96b0b5deee6741aa1fbbb8d1822d54e803de3bf9bcb4", checked := Try.checked }
namespace Rows
def none {H : Type} : Left H := { results := [], args := [] }

/-- 'teasellaw05.PatsetTells': WHATEVER THE INPUT: true; the input reads as it did. -/
def patsetTellsSpec : ChangeSpec := { name := "patsetTells", fn := fun _ => fun
  | [d1, d2, d3, d4, d5] => { results := [.lit (.bool true)], args := [d1, d2, d3, d4, d5] }
  | _ => none }
def patsetTellsRow : OpenClaim := { program := "ytkbhkadienddmaa", sum := "6e2b2eae9a66d9c0553e96b0b5deee6741aa1fbbb8d1822d54e803de3bf9bcb4", func := "teasel/teasellaw05.PatsetTells", spec := "patsetTells", unfollowed := true, recurses := true, plainKeys := false, apart := false }
def PatsetTellsSaid : Prop := patsetTellsRow.holds Try.pinned (OpenSpec.ofChange patsetTellsSpec)

/-- ITS FALSE NEIGHBOUR: 'it returns false'. Refute it at one input. -/
def patsetTellsWrong : ChangeSpec := { name := "patsetTells", fn := fun _ => fun
  | [d1, d2, d3, d4, d5] => { results := [.lit (.bool false)], args := [d1, d2, d3, d4, d5] }
  | _ => none }
def PatsetTellsWrongFalsely : Prop := patsetTellsRow.holds Try.pinned (OpenSpec.ofChange patsetTellsWrong)

/-- 'teasellaw05.PatsetMakes': WHATEVER THE INPUT: true; the input reads as it did. -/
def patsetMakesSpec : ChangeSpec := { name := "patsetMakes", fn := fun _ => fun
  | [d1, d2] => { results := [.lit (.bool true)], args := [d1, d2] }
  | _ => none }
def patsetMakesRow : OpenClaim := { program := "ytkbhkadienddmaa", sum := "6e2b2eae9a66d9c0553e96b0b5deee6741aa1fbbb8d1822d54e803de3bf9bcb4", func := "teasel/teasellaw05.PatsetMakes", spec := "patsetMakes", unfollowed := true, recurses := true, plainKeys := false, apart := false }
def PatsetMakesSaid : Prop := patsetMakesRow.holds Try.pinned (OpenSpec.ofChange patsetMakesSpec)

/-- ITS FALSE NEIGHBOUR: 'it returns false'. Refute it at one input. -/
def patsetMakesWrong : ChangeSpec := { name := "patsetMakes", fn := fun _ => fun
  | [d1, d2] => { results := [.lit (.bool false)], args := [d1, d2] }
  | _ => none }
def PatsetMakesWrongFalsely : Prop := patsetMakesRow.holds Try.pinned (OpenSpec.ofChange patsetMakesWrong)

/-- 'teasellaw05.PatsetOrder': WHATEVER THE INPUT: true; the input reads as it did. -/
def patsetOrderSpec : ChangeSpec := { name := "patsetOrder", fn := fun _ => fun
  | [d1, d2, d3, d4] => { results := [.lit (.bool true)], args := [d1, d2, d3, d4] }
  | _ => none }
def patsetOrderRow : OpenClaim := { program := "ytkbhkadienddmaa", sum := "6e2b2eae9a66d9c0553e96b0b5deee6741aa1fbbb8d1822d54e803de3bf9bcb4", func := "teasel/teasellaw05.PatsetOrder", spec := "patsetOrder", unfollowed := true, recurses := true, plainKeys := false, apart := false }
def PatsetOrderSaid : Prop := patsetOrderRow.holds Try.pinned (OpenSpec.ofChange patsetOrderSpec)

/-- ITS FALSE NEIGHBOUR: 'it returns false'. Refute it at one input. -/
def patsetOrderWrong : ChangeSpec := { name := "patsetOrder", fn := fun _ => fun
  | [d1, d2, d3, d4] => { results := [.lit (.bool false)], args := [d1, d2, d3, d4] }
  | _ => none }
def PatsetOrderWrongFalsely : Prop := patsetOrderRow.holds Try.pinned (OpenSpec.ofChange patsetOrderWrong)

/-- 'teasellaw05.PatsetNodes': WHATEVER THE INPUT: true; the input reads as it did. -/
def patsetNodesSpec : ChangeSpec := { name := "patsetNodes", fn := fun _ => fun
  | [d1, d2, d3, d4, d5] => { results := [.lit (.bool true)], args := [d1, d2, d3, d4, d5] }
  | _ => none }
def patsetNodesRow : OpenClaim := { program := "ytkbhkadienddmaa", sum := "6e2b2eae9a66d9c0553e96b0b5deee6741aa1fbbb8d1822d54e803de3bf9bcb4", func := "teasel/teasellaw05.PatsetNodes", spec := "patsetNodes", unfollowed := true, recurses := true, plainKeys := false, apart := false }
def PatsetNodesSaid : Prop := patsetNodesRow.holds Try.pinned (OpenSpec.ofChange patsetNodesSpec)

/-- ITS FALSE NEIGHBOUR: 'it returns false'. Refute it at one input. -/
def patsetNodesWrong : ChangeSpec := { name := "patsetNodes", fn := fun _ => fun
  | [d1, d2, d3, d4, d5] => { results := [.lit (.bool false)], args := [d1, d2, d3, d4, d5] }
  | _ => none }
def PatsetNodesWrongFalsely : Prop := patsetNodesRow.holds Try.pinned (OpenSpec.ofChange patsetNodesWrong)

/-- 'teasellaw05.PatsetOwn': WHATEVER THE INPUT: true; the input reads as it did. -/
def patsetOwnSpec : ChangeSpec := { name := "patsetOwn", fn := fun _ => fun
  | [d1, d2] => { results := [.lit (.bool true)], args := [d1, d2] }
  | _ => none }
def patsetOwnRow : OpenClaim := { program := "ytkbhkadienddmaa", sum := "6e2b2eae9a66d9c0553e96b0b5deee6741aa1fbbb8d1822d54e803de3bf9bcb4", func := "teasel/teasellaw05.PatsetOwn", spec := "patsetOwn", unfollowed := true, recurses := true, plainKeys := false, apart := false }
def PatsetOwnSaid : Prop := patsetOwnRow.holds Try.pinned (OpenSpec.ofChange patsetOwnSpec)

/-- ITS FALSE NEIGHBOUR: 'it returns false'. Refute it at one input. -/
def patsetOwnWrong : ChangeSpec := { name := "patsetOwn", fn := fun _ => fun
  | [d1, d2] => { results := [.lit (.bool false)], args := [d1, d2] }
  | _ => none }
def PatsetOwnWrongFalsely : Prop := patsetOwnRow.holds Try.pinned (OpenSpec.ofChange patsetOwnWrong)

/- THE SECOND FORM. 'bulk': how many values and letters a reading holds, each counted each time it is reached (what is shared counts as often as it is met; a slice's spare places count too). A statement '..UptoSaid' is the law's where the arguments, and the package variables that the reading takes, are together of bulk at most 1048576: NARROWER than '..Said'. Prove '..Said' where nothing that the law and all that it calls make is longer than what came in: it says more and counts as full. Else prove '..UptoSaid'. A law counts once. -/
mutual
def uptoBulk {H : Type} : DataW H → Nat
  | .lit (.string bytes) => bytes.length + 1
  | .lit _ => 1
  | .nil => 1
  | .ptr d => uptoBulk d + 1
  | .slice elems spare => uptoBulkAll elems + uptoBulkAll spare + 1
  | .agg parts => uptoBulkAll parts + 1
  | .iface _ d => uptoBulk d + 1
  | .map entries => uptoBulkEntries entries + 1
  | .held _ => 1
def uptoBulkAll {H : Type} : List (DataW H) → Nat
  | [] => 0
  | d :: r => uptoBulk d + uptoBulkAll r
def uptoBulkEntries {H : Type} : List (Lit × DataW H) → Nat
  | [] => 0
  | x :: r => uptoBulkEntry x + uptoBulkEntries r
def uptoBulkEntry {H : Type} : Lit × DataW H → Nat
  | (.string bytes, d) => bytes.length + uptoBulk d + 1
  | (_, d) => uptoBulk d + 1
 end
def uptoSmall : (H : Type) → List (DataW H) → Bool := fun _ ds => decide (uptoBulkAll ds ≤ 1048576)
def OpenSpec.upto (s : _root_.Go.ChangeSpec) : _root_.Go.OpenSpec := { _root_.Go.OpenSpec.ofChange s with cond := some uptoSmall }

/-- 'teasellaw05.PatsetTells', WHERE WHAT IT READS IS OF BULK AT MOST 1048576: true; the input reads as it did. -/
def patsetTellsUptoRow : OpenClaim := { program := "ytkbhkadienddmaa", sum := "6e2b2eae9a66d9c0553e96b0b5deee6741aa1fbbb8d1822d54e803de3bf9bcb4", func := "teasel/teasellaw05.PatsetTells", spec := "patsetTells", unfollowed := true, recurses := true, plainKeys := false, apart := false, narrowed := true }
def PatsetTellsUptoSaid : Prop := patsetTellsUptoRow.holds Try.pinned (OpenSpec.upto patsetTellsSpec)

/-- 'teasellaw05.PatsetMakes', WHERE WHAT IT READS IS OF BULK AT MOST 1048576: true; the input reads as it did. -/
def patsetMakesUptoRow : OpenClaim := { program := "ytkbhkadienddmaa", sum := "6e2b2eae9a66d9c0553e96b0b5deee6741aa1fbbb8d1822d54e803de3bf9bcb4", func := "teasel/teasellaw05.PatsetMakes", spec := "patsetMakes", unfollowed := true, recurses := true, plainKeys := false, apart := false, narrowed := true }
def PatsetMakesUptoSaid : Prop := patsetMakesUptoRow.holds Try.pinned (OpenSpec.upto patsetMakesSpec)

/-- 'teasellaw05.PatsetOrder', WHERE WHAT IT READS IS OF BULK AT MOST 1048576: true; the input reads as it did. -/
def patsetOrderUptoRow : OpenClaim := { program := "ytkbhkadienddmaa", sum := "6e2b2eae9a66d9c0553e96b0b5deee6741aa1fbbb8d1822d54e803de3bf9bcb4", func := "teasel/teasellaw05.PatsetOrder", spec := "patsetOrder", unfollowed := true, recurses := true, plainKeys := false, apart := false, narrowed := true }
def PatsetOrderUptoSaid : Prop := patsetOrderUptoRow.holds Try.pinned (OpenSpec.upto patsetOrderSpec)

/-- 'teasellaw05.PatsetNodes', WHERE WHAT IT READS IS OF BULK AT MOST 1048576: true; the input reads as it did. -/
def patsetNodesUptoRow : OpenClaim := { program := "ytkbhkadienddmaa", sum := "6e2b2eae9a66d9c0553e96b0b5deee6741aa1fbbb8d1822d54e803de3bf9bcb4", func := "teasel/teasellaw05.PatsetNodes", spec := "patsetNodes", unfollowed := true, recurses := true, plainKeys := false, apart := false, narrowed := true }
def PatsetNodesUptoSaid : Prop := patsetNodesUptoRow.holds Try.pinned (OpenSpec.upto patsetNodesSpec)

/-- 'teasellaw05.PatsetOwn', WHERE WHAT IT READS IS OF BULK AT MOST 1048576: true; the input reads as it did. -/
def patsetOwnUptoRow : OpenClaim := { program := "ytkbhkadienddmaa", sum := "6e2b2eae9a66d9c0553e96b0b5deee6741aa1fbbb8d1822d54e803de3bf9bcb4", func := "teasel/teasellaw05.PatsetOwn", spec := "patsetOwn", unfollowed := true, recurses := true, plainKeys := false, apart := false, narrowed := true }
def PatsetOwnUptoSaid : Prop := patsetOwnUptoRow.holds Try.pinned (OpenSpec.upto patsetOwnSpec)

end Rows
end Go.Proofs.Ytkbhkadienddmaa
