/- A row of one's own whose elements are rows of bytes of one's own. -/
import Derived.Test.YtfbamdkalamliaaY
import Derived.Test.YtfbamdkalamliaaProg
namespace Go.Proofs.Ytfbamdkalamliaa
open Go.RowKit
/-- What is grown at a block of one kind leaves a row of another kind as it was. -/
theorem own_apart {w w' : World} {base base' : Nat} {e e' : TypeId} {size size' n n' : Nat} {v u : Value} {xs ys : List Value} (h : w.ownsRow base e size v n xs) (hr : w.ownsRow base' e' size' u n' ys) (he : e ≠ e') (hg : w.grownBy w' u.ownBlock) : w'.ownsRow base e size v n xs := by
  refine ⟨h.1, ?_⟩
  rcases h.2 with h2 | ⟨g, cap, cur, rfl, hb, hgc, r⟩
  · exact .inl h2
  · refine .inr ⟨g, cap, cur, rfl, hb, (hg.block g (Array.getElem?_eq_some_iff.1 hgc).1 fun e0 => ?_).trans hgc, r⟩
    rcases hr.2 with ⟨rfl, _⟩ | ⟨g', cap', cur', rfl, _, hgc', _⟩
    · cases e0
    · have e1 : g = g' := by cases e0; rfl
      subst e1
      have := hgc.symm.trans hgc'
      cases this
      exact he rfl
theorem own_mono {w : World} {base base' : Nat} {e : TypeId} {size n : Nat} {v : Value} {xs : List Value} (h : w.ownsRow base e size v n xs) (hb : base' ≤ base) : w.ownsRow base' e size v n xs := by
  obtain ⟨h0, h1 | ⟨g, cap, cur, h2, h3, h4⟩⟩ := h
  · exact ⟨h0, .inl h1⟩
  · exact ⟨h0, .inr ⟨g, cap, cur, h2, Nat.le_trans hb h3, h4⟩⟩
/-- Bytes in a block of bytes of its own, from base on. -/
def VOwn (base : Nat) (e1 : TypeId) (bs : List UInt8) : VP := ⟨fun u w => VBytes bs u w ∧ ∀ g, u.ownBlock = some g → base ≤ g ∧ ∃ cs m, w.heap[g]? = some (.cells cs e1 m) ∧ (m = (0, 0) ∨ m = (cs.size, cs.size + 1)), fun u w w' ⟨h1, h2⟩ hW => ⟨VP.wk _ _ _ _ h1 hW, fun g hg => by
  obtain ⟨h3, cs, m, h4, h5⟩ := h2 g hg
  rcases hW.block g (Array.getElem?_eq_some_iff.1 h4).1 with e | ⟨cs', e', e1', e2', _⟩
  · exact ⟨h3, cs, m, e.trans h4, h5⟩
  · rw [h4] at e1'
    cases e1'
    exact ⟨h3, cs, _, e2', .inr rfl⟩⟩⟩
theorem OwnB.vown {w : World} {base : Nat} {e1 : TypeId} {u : Value} {bs : List UInt8} (h : OwnB w base e1 u bs) : VOwn base e1 bs u w := ⟨OwnB.bytes h, fun g hg => ⟨OwnB.ge h g hg, by
  rcases h.2 with ⟨rfl, _⟩ | ⟨g', cap, cur, rfl, hb, hgc, _⟩
  · cases hg
  · cases hg
    exact ⟨cur, _, hgc, .inl rfl⟩⟩⟩
theorem VOwn.low {base base' : Nat} {e1 : TypeId} {bs : List UInt8} {u : Value} {w : World} (h : VOwn base e1 bs u w) (hb : base' ≤ base) : VOwn base' e1 bs u w := ⟨h.1, fun g hg => ⟨Nat.le_trans hb (h.2 g hg).1, (h.2 g hg).2⟩⟩
theorem VOwn.keep {base : Nat} {e1 : TypeId} {bs : List UInt8} {u : Value} {w w' : World} (h : VOwn base e1 bs u w) (hs : w.heap.size ≤ w'.heap.size) (hb : ∀ g, u.ownBlock = some g → w'.heap[g]? = w.heap[g]?) : VOwn base e1 bs u w' := by
  obtain ⟨h1, h2⟩ := h
  obtain ⟨A, c, rfl, hl, hm, hx⟩ := VBytes.form h1
  refine ⟨VBytes.of hl hm fun hp => ?_, fun g hg => ?_⟩
  · obtain ⟨b, off, rfl, hlt, hc⟩ := hx hp
    refine ⟨b, off, rfl, by omega, fun j hj => ?_⟩
    have e := hb b rfl
    have e2 : w'.cell? ⟨b, off + j, none⟩ = w.cell? ⟨b, off + j, none⟩ := by unfold World.cell?; simp only [e]
    exact e2.trans (hc j hj)
  · obtain ⟨h3, cs, m, h4, h5⟩ := h2 g hg
    exact ⟨h3, cs, m, (hb g hg).trans h4, h5⟩
/-- What is grown at a row of another kind leaves these bytes as they were. -/
theorem VOwn.apart {base base' : Nat} {e e1 : TypeId} {bs : List UInt8} {u v : Value} {w w' : World} {size n : Nat} {ys : List Value} (h : VOwn base e1 bs u w) (hr : w.ownsRow base' e size v n ys) (he : e1 ≠ e) (hg : w.grownBy w' v.ownBlock) : VOwn base e1 bs u w' :=
  VOwn.keep h hg.size fun g hg2 => by
    obtain ⟨h3, cs, m, h4, -⟩ := h.2 g hg2
    refine hg.block g (Array.getElem?_eq_some_iff.1 h4).1 fun e0 => ?_
    rcases hr.2 with ⟨rfl, _⟩ | ⟨g', cap', cur', rfl, _, hgc', _⟩
    · cases e0
    · have e2 : g = g' := by cases e0; rfl
      subst e2
      have := h4.symm.trans hgc'
      cases this
      exact he rfl
theorem Box.grows {w w' : World} {g : Nat} {t : TypeId} {cs : Array Value} {row : Option Nat} (h : Box w g t cs) (hg : w.grownBy w' row) (hne : row ≠ some g) : Box w' g t cs := (hg.block g h.lt (fun e => hne e.symm)).trans h
theorem oneCell_own (base : Nat) (e1 : TypeId) (bs : List UInt8) : OneCell (VOwn base e1 bs) := fun v _ hv => by obtain ⟨A, c, rfl, _⟩ := hv.1; rfl
/-- What a literal of one element appends. -/
theorem Src.one {F : VP} {u : Value} {w : World} (h : VSl [F] u w) : ∃ x, Src w u 1 [x] ∧ F x w := by
  obtain ⟨A, c, rfl, _, _, h4⟩ := h
  obtain ⟨b, off, rfl, _, hc⟩ := h4 (by simp)
  obtain ⟨x, h5, h6⟩ := hc 0 F rfl
  refine ⟨x, ⟨_, _, rfl, fun _ => ⟨b, off, rfl, fun j y hj => ?_⟩⟩, h6⟩
  cases j with
  | zero => cases hj; exact h5
  | succ j => cases hj
theorem VOwn.cell1 {base : Nat} {e1 : TypeId} {bs : List UInt8} {u : Value} {w : World} (h : VOwn base e1 bs u w) : u.oneCell' = true := by obtain ⟨A, c, rfl, _⟩ := h.1; rfl
/-- e: the type of the rows; e1: of a byte. -/
def OwnP (w : World) (base : Nat) (e e1 : TypeId) (v : Value) (ps : List (List UInt8)) : Prop := ∃ xs : List Value, w.ownsRow base e 1 v ps.length xs ∧ xs.length = ps.length ∧ ∀ (i : Nat) (h1 : i < xs.length) (h2 : i < ps.length), VOwn base e1 ps[i] xs[i] w
theorem OwnP.nil (w : World) (base : Nat) (e e1 : TypeId) : OwnP w base e e1 (.slice none 0 0) [] := ⟨[], World.ownsRow_nil w base e 1, rfl, fun i h => by simp at h⟩
theorem OwnP.st {w w' : World} {base : Nat} {e e1 : TypeId} {v : Value} {ps : List (List UInt8)} (h : OwnP w base e e1 v ps) (hE : Ext w w') : OwnP w' base e e1 v ps := by
  obtain ⟨xs, h1, h2, h3⟩ := h
  exact ⟨xs, own_st h1 hE, h2, fun i p q => VP.st _ _ _ _ (h3 i p q) hE⟩
theorem OwnP.low {w : World} {base base' : Nat} {e e1 : TypeId} {v : Value} {ps : List (List UInt8)} (h : OwnP w base e e1 v ps) (hb : base' ≤ base) : OwnP w base' e e1 v ps := by
  obtain ⟨xs, h1, h2, h3⟩ := h
  exact ⟨xs, own_mono h1 hb, h2, fun i p q => VOwn.low (h3 i p q) hb⟩
theorem OwnP.ge {w : World} {base : Nat} {e e1 : TypeId} {v : Value} {ps : List (List UInt8)} (h : OwnP w base e e1 v ps) (k : Nat) (hk : v.ownBlock = some k) : base ≤ k := by
  obtain ⟨xs, h1, _⟩ := h; exact own_ge h1 k hk
theorem OwnP.form {w : World} {base : Nat} {e e1 : TypeId} {v : Value} {ps : List (List UInt8)} (h : OwnP w base e e1 v ps) : ∃ A c, v = .slice A ps.length c := by
  obtain ⟨xs, h1, _⟩ := h; exact own_form h1
/-- A block that is none of these (a box below, or of another kind) is written: the rows stay. -/
theorem OwnP.set {w : World} {base : Nat} {e e1 : TypeId} {v : Value} {ps : List (List UInt8)} (h : OwnP w base e e1 v ps) (p : Addr) (hp : p.block < base) (u : Value) : OwnP (w.setCell p u) base e e1 v ps := by
  obtain ⟨xs, h1, h2, h3⟩ := h
  refine ⟨xs, ?_, h2, fun i p1 p2 => VOwn.keep (h3 i p1 p2) (by simp) fun g hg => Below.heap_setCell w p u g fun e0 => by have := ((h3 i p1 p2).2 g hg).1; omega⟩
  refine ⟨h1.1, ?_⟩
  rcases h1.2 with h4 | ⟨g, cap, cur, rfl, hb, hg, r⟩
  · exact .inl h4
  · exact .inr ⟨g, cap, cur, rfl, hb, (Below.heap_setCell w p u g (fun e0 => by omega)).trans hg, r⟩
theorem OwnP.parts {w : World} {base : Nat} {e e1 : TypeId} {v : Value} {ps : List (List UInt8)} (h : OwnP w base e e1 v ps) : VParts ps v w := by
  obtain ⟨xs, h1, h2, h3⟩ := h
  unfold VParts
  rcases h1.2 with ⟨rfl, h0⟩ | ⟨g, cap, cur, rfl, hb, hcells, hl, hm, hsz, htk⟩
  · obtain rfl : ps = [] := List.eq_nil_of_length_eq_zero h0
    exact ⟨none, 0, rfl, Nat.le_refl _, by decide, fun h => by simp at h⟩
  · rw [Nat.mul_one] at hsz htk
    refine ⟨_, _, by rw [List.length_map], by rw [List.length_map]; exact hl, hm, fun hp => ⟨g, 0, rfl, (Array.getElem?_eq_some_iff.1 hcells).1, fun j F hj => ?_⟩⟩
    rw [List.getElem?_map] at hj
    cases hq : ps[j]? with
    | none => rw [hq] at hj; cases hj
    | some p =>
      rw [hq] at hj
      obtain rfl : VBytes p = F := by simpa using hj
      obtain ⟨hj1, hj2⟩ := List.getElem?_eq_some_iff.1 hq
      have hx : j < xs.length := by omega
      refine ⟨xs[j], ?_, ?_⟩
      · have h4 : (cur.toList.take ps.length)[j]? = some xs[j] := by rw [htk]; exact List.getElem?_eq_getElem hx
        rw [List.getElem?_take, if_pos hj1, Array.getElem?_toList] at h4
        rw [Nat.zero_add]
        exact (Box.cell (t := e) (cs := cur) hcells j).trans h4
      · have := h3 j hx hj1
        rw [hj2] at this
        exact this.1
/-- One more element. -/
theorem OwnP.snoc {w w' : World} {base : Nat} {e e1 : TypeId} {v v' : Value} {ps : List (List UInt8)} {xs : List Value} {x : Value} {p : List UInt8} (he : e1 ≠ e) (h1 : w.ownsRow base e 1 v ps.length xs) (h2 : xs.length = ps.length) (h3 : ∀ (i : Nat) (h1 : i < xs.length) (h2 : i < ps.length), VOwn base e1 ps[i] xs[i] w)
    (hx : VOwn base e1 p x w) (hown : w'.ownsRow base e 1 v' (ps.length + 1) (xs ++ [x])) (hg : w.grownBy w' v.ownBlock) : OwnP w' base e e1 v' (ps ++ [p]) := by
  refine ⟨xs ++ [x], by rw [List.length_append]; exact hown, by simp [h2], fun i p1 p2 => ?_⟩
  simp only [List.getElem_append]
  by_cases hi : i < xs.length
  · rw [dif_pos hi, dif_pos (by omega)]
    exact VOwn.apart (h3 i hi (by omega)) h1 he hg
  · rw [dif_neg hi, dif_neg (by omega)]
    have e2 : i - xs.length = 0 := by simp at p1; omega
    have e3 : i - ps.length = 0 := by omega
    simp only [e2, e3, List.getElem_cons_zero]
    exact VOwn.apart hx h1 he hg
end Go.Proofs.Ytfbamdkalamliaa
