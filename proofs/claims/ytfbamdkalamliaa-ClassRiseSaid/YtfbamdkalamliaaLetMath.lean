/- Bytes folded, texts that are the same, as plain mathematics: no program in sight. -/
namespace Go.Proofs.Ytfbamdkalamliaa.LetM

def foldC (c : UInt8) : UInt8 := if 65 ≤ c.toNat ∧ c.toNat ≤ 90 then UInt8.ofNat (c.toNat + 32) else c
def folds (bs : List UInt8) : List UInt8 := bs.map foldC
def sameB (fold : Bool) (a b : List UInt8) : Bool := if fold then decide (folds a = folds b) else decide (a = b)
def standsB (fold : Bool) (text : List UInt8) (place : Int) (word : List UInt8) : Bool :=
  decide ((word.length : Int) ≤ place) && decide (place ≤ text.length) && sameB fold ((text.take place.toNat).drop (place.toNat - word.length)) word
def whichFrom (fold : Bool) (text : List UInt8) : Nat → List (List UInt8) → Int
  | _, [] => -1
  | i, w :: ws => if sameB fold text w then i else whichFrom fold text (i + 1) ws
def which (fold : Bool) (text : List UInt8) (ws : List (List UInt8)) : Int := whichFrom fold text 0 ws

theorem foldC_idem (c : UInt8) : foldC (foldC c) = foldC c := by
  unfold foldC
  split
  · rename_i h
    have h1 : (UInt8.ofNat (c.toNat + 32)).toNat = c.toNat + 32 := by rw [UInt8.toNat_ofNat']; omega
    rw [h1, if_neg (by omega)]
  · rfl
theorem folds_idem (bs : List UInt8) : folds (folds bs) = folds bs := by
  unfold folds
  rw [List.map_map]
  exact List.map_congr_left fun c _ => foldC_idem c
theorem folds_length (bs : List UInt8) : (folds bs).length = bs.length := by simp [folds]
theorem sameB_symm (fold : Bool) (a b : List UInt8) : sameB fold a b = sameB fold b a := by
  unfold sameB
  split <;> simp [eq_comm]
theorem sameB_length {fold : Bool} {a b : List UInt8} (h : sameB fold a b = true) : a.length = b.length := by
  unfold sameB at h
  split at h
  · have := congrArg List.length (of_decide_eq_true h)
    rwa [folds_length, folds_length] at this
  · rw [of_decide_eq_true h]
theorem sameB_refl (fold : Bool) (a : List UInt8) : sameB fold a a = true := by unfold sameB; split <;> simp
theorem sameB_folds (a b : List UInt8) : sameB true a b = sameB false (folds a) (folds b) := rfl
theorem same_of_eq (fold : Bool) {a b : List UInt8} (h : a = b) : sameB fold a b = true := by subst h; exact sameB_refl fold a

/-- The same byte by byte: what a walk sees. -/
def eqC (fold : Bool) (x y : UInt8) : Bool := if fold then decide (foldC x = foldC y) else decide (x = y)
theorem sameB_cons (fold : Bool) (x y : UInt8) (a b : List UInt8) : sameB fold (x :: a) (y :: b) = (eqC fold x y && sameB fold a b) := by
  unfold sameB eqC folds
  cases fold <;> simp
theorem sameB_nil (fold : Bool) : sameB fold [] [] = true := by unfold sameB; cases fold <;> rfl
theorem sameB_ge (fold : Bool) (a b : List UInt8) (h : a.length = b.length) : sameB fold a b = true ↔ ∀ (i : Nat) (hi : i < a.length), eqC fold a[i] (b[i]'(h ▸ hi)) = true := by
  induction a generalizing b with
  | nil =>
    cases b with
    | nil => simp [sameB_nil]
    | cons y b => simp at h
  | cons x a ih =>
    cases b with
    | nil => simp at h
    | cons y b =>
      rw [sameB_cons, Bool.and_eq_true, ih b (by simpa using h)]
      constructor
      · rintro ⟨h1, h2⟩ i hi
        cases i with
        | zero => exact h1
        | succ i => exact h2 i (by simpa using hi)
      · intro hall
        exact ⟨hall 0 (by simp), fun i hi => hall (i + 1) (by simpa using hi)⟩

theorem whichFrom_ge (fold : Bool) (text : List UInt8) : ∀ (ws : List (List UInt8)) (i : Nat), whichFrom fold text i ws = -1 ∧ (∀ w ∈ ws, sameB fold text w = false) ∨
    ∃ (k : Nat) (hk : k < ws.length), whichFrom fold text i ws = ((i + k : Nat) : Int) ∧ sameB fold text ws[k] = true ∧ ∀ (j : Nat) (hj : j < k), sameB fold text (ws[j]'(by omega)) = false
  | [], i => .inl ⟨rfl, fun w hw => by simp at hw⟩
  | w :: ws, i => by
    unfold whichFrom
    by_cases h : sameB fold text w = true
    · rw [if_pos h]
      exact .inr ⟨0, by simp, by simp, h, fun j hj => by omega⟩
    · rw [if_neg h]
      have h0 : sameB fold text w = false := by simpa using h
      rcases whichFrom_ge fold text ws (i + 1) with ⟨h1, h2⟩ | ⟨k, hk, h1, h2, h3⟩
      · exact .inl ⟨h1, fun u hu => by
          rcases List.mem_cons.1 hu with rfl | hu
          · exact h0
          · exact h2 u hu⟩
      · refine .inr ⟨k + 1, by simpa using hk, by rw [h1]; omega, by simpa using h2, fun j hj => ?_⟩
        cases j with
        | zero => exact h0
        | succ j => exact h3 j (by omega)

end Go.Proofs.Ytfbamdkalamliaa.LetM
