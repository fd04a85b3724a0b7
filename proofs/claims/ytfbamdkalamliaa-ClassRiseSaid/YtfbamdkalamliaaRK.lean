/- Slices of bytes in blocks that stay. -/
import Derived.Test.YtfbamdkalamliaaY
import Derived.RangeFuncNested
import Derived.RangeFuncBound
import Derived.RangeFuncCalls
import Derived.RangeFuncLeaves
import Derived.RangeFuncBox
import Derived.Shelf.RegionOpen
import Derived.OwnWalkIn
import Derived.TacticsInMore
import Derived.LoopNIn
import Derived.LoopIn
namespace Go.Proofs.Ytfbamdkalamliaa
open Go.RowKit Go.Shelf
theorem takeF_succ {α : Type} (ps : List (List α)) (k : Nat) (h : k < ps.length) : (ps.take (k + 1)).flatten = (ps.take k).flatten ++ ps[k] := by
  rw [List.take_succ_eq_append_getElem h, List.flatten_append]; simp
theorem takeF_snoc {α : Type} (l : List α) (k : Nat) (h : k < l.length) : l.take (k + 1) = l.take k ++ [l[k]] := List.take_succ_eq_append_getElem h
theorem flatF_prefix {α : Type} (ps : List (List α)) (k j : Nat) (h : k < ps.length) : (ps.take k).flatten ++ ps[k].take j <+: ps.flatten := by
  have e : ps.flatten = (ps.take k).flatten ++ (ps[k] ++ (ps.drop (k + 1)).flatten) := by
    conv => lhs; rw [← List.take_append_drop k ps, List.flatten_append, List.drop_eq_getElem_cons h, List.flatten_cons]
  rw [e]
  exact List.prefix_append_right_inj _ |>.2 ((List.take_prefix _ _).trans (List.prefix_append _ _))
/-- The blocks that K names lie as they lay. -/
def KeepK (K : Nat → Prop) (W W' : World) : Prop := W.heap.size ≤ W'.heap.size ∧ ∀ k, K k → W'.heap[k]? = W.heap[k]?
theorem KeepK.rf (K : Nat → Prop) (W : World) : KeepK K W W := ⟨Nat.le_refl _, fun _ _ => rfl⟩
theorem KeepK.t {K : Nat → Prop} {A B C : World} (h : KeepK K A B) (k : KeepK K B C) : KeepK K A C := ⟨Nat.le_trans h.1 k.1, fun j hj => (k.2 j hj).trans (h.2 j hj)⟩
theorem KeepK.cell {K : Nat → Prop} {A B : World} (h : KeepK K A B) {b : Nat} (hb : K b) (o : Nat) : B.cell? ⟨b, o, none⟩ = A.cell? ⟨b, o, none⟩ := by unfold World.cell?; rw [h.2 b hb]
theorem KeepK.of_ext {K : Nat → Prop} {A B : World} (h : Ext A B) (hK : ∀ k, K k → k < A.heap.size) : KeepK K A B := ⟨h.size, fun k hk => h.block k (hK k hk)⟩
/-- Slices of bytes, in blocks that K names. -/
def PartsK (K : Nat → Prop) (ps : List (List UInt8)) (v : Value) (w : World) : Prop := ∃ A c, v = .slice A ps.length c ∧ ps.length ≤ c ∧ c ≤ maxLen ∧
  (0 < ps.length → ∃ b off, A = some ⟨b, off, none⟩ ∧ K b ∧ ∀ j (hj : j < ps.length), ∃ A2 c2, w.cell? ⟨b, off + j, none⟩ = some (.slice A2 ps[j].length c2) ∧ ps[j].length ≤ c2 ∧ c2 ≤ maxLen ∧
    (0 < ps[j].length → ∃ b2 off2, A2 = some ⟨b2, off2, none⟩ ∧ K b2 ∧ ∀ i (hi : i < ps[j].length), w.cell? ⟨b2, off2 + i, none⟩ = some (.int .u8 (ps[j][i].toNat : Int))))
theorem partsK_keep {K : Nat → Prop} {ps : List (List UInt8)} {v : Value} {w w' : World} (h : PartsK K ps v w) (hk : KeepK K w w') : PartsK K ps v w' := by
  obtain ⟨A, c, h1, h2, h3, h4⟩ := h
  refine ⟨A, c, h1, h2, h3, fun hp => ?_⟩
  obtain ⟨b, off, rfl, hb, hcell⟩ := h4 hp
  refine ⟨b, off, rfl, hb, fun j hj => ?_⟩
  obtain ⟨A2, c2, h5, h6, h7, h8⟩ := hcell j hj
  refine ⟨A2, c2, (hk.cell hb _).trans h5, h6, h7, fun hq => ?_⟩
  obtain ⟨b2, off2, rfl, hb2, hc2⟩ := h8 hq
  exact ⟨b2, off2, rfl, hb2, fun i hi => (hk.cell hb2 _).trans (hc2 i hi)⟩
theorem partsK_ext {K : Nat → Prop} {ps : List (List UInt8)} {v : Value} {w w' : World} (h : PartsK K ps v w) (hE : Ext w w') (hK : ∀ k, K k → k < w.heap.size) : PartsK K ps v w' := partsK_keep h (KeepK.of_ext hE hK)
theorem PartsK.of {K : Nat → Prop} {ps : List (List UInt8)} {v : Value} {w : World} (h : VParts ps v w) (hK : ∀ k, k < w.heap.size → K k) : PartsK K ps v w := by
  obtain ⟨A, c, h1, h2, h3, h4⟩ := VParts.form h
  refine ⟨A, c, h1, h2, h3, fun hp => ?_⟩
  obtain ⟨b, off, rfl, hb, hcell⟩ := h4 hp
  refine ⟨b, off, rfl, hK b hb, fun j hj => ?_⟩
  obtain ⟨x, hx1, hx2⟩ := hcell j hj
  obtain ⟨A2, c2, rfl, h5, h6, h7⟩ := VBytes.form hx2
  refine ⟨A2, c2, hx1, h5, h6, fun hq => ?_⟩
  obtain ⟨b2, off2, rfl, hb2, hc2⟩ := h7 hq
  exact ⟨b2, off2, rfl, hK b2 hb2, hc2⟩
theorem keepK_b {K : Nat → Prop} {w : World} (hK : ∀ k, K k → k < w.heap.size) (W : World) (l : Nat) (o o' : Obj) (hl : w.heap.size ≤ l) (_ : W.heap[l]? = some o) (_ : o.isCells = false) (_ : o.isWalk = false) : KeepK K W (W.putObj l o') :=
  ⟨by simp, fun k hk => World.putObj_heap_other (by have := hK k hk; omega)⟩
end Go.Proofs.Ytfbamdkalamliaa
