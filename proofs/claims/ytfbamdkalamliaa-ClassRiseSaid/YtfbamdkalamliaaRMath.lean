/- Sets of words, as plain mathematics: no program in sight. -/
import Derived.Test.YtfbamdkalamliaaLetMath
namespace Go.Proofs.Ytfbamdkalamliaa.SetM
open LetM
def textF (fold : Bool) (w : List UInt8) : List UInt8 := if fold then folds w else w
theorem textF_length (fold : Bool) (w : List UInt8) : (textF fold w).length = w.length := by unfold textF; split <;> simp [folds_length]
theorem textF_idem (fold : Bool) (w : List UInt8) : textF fold (textF fold w) = textF fold w := by unfold textF; split <;> simp [folds_idem]
theorem sameB_textF (fold : Bool) (a b : List UInt8) : sameB fold a b = decide (textF fold a = textF fold b) := by unfold sameB textF; cases fold <;> rfl
def commonN : List UInt8 → List UInt8 → Nat
  | x :: a, y :: b => if x = y then commonN a b + 1 else 0
  | [], _ => 0
  | _ :: _, [] => 0
theorem commonN_le : ∀ a b : List UInt8, commonN a b ≤ a.length ∧ commonN a b ≤ b.length
  | [], b => by simp [commonN]
  | x :: a, [] => by simp [commonN]
  | x :: a, y :: b => by
    have h := commonN_le a b
    unfold commonN
    split <;> simp <;> omega
/-- As a walk finds it: n bytes are the same, and then there is an end, or another byte. -/
theorem commonN_of : ∀ (a b : List UInt8) (n : Nat), (∀ (i : Nat) (h1 : i < a.length) (h2 : i < b.length), i < n → a[i] = b[i]) → n ≤ a.length → n ≤ b.length → (∀ (h1 : n < a.length) (h2 : n < b.length), a[n] ≠ b[n]) → commonN a b = n
  | [], b, n, _, h1, _, _ => by simp at h1; simp [commonN, h1]
  | x :: a, [], n, _, _, h2, _ => by simp at h2; simp [commonN, h2]
  | x :: a, y :: b, 0, _, _, _, h3 => by
    have := h3 (by simp) (by simp)
    unfold commonN
    rw [if_neg (by simpa using this)]
  | x :: a, y :: b, n + 1, h0, h1, h2, h3 => by
    have e := h0 0 (by simp) (by simp) (by omega)
    unfold commonN
    rw [if_pos (by simpa using e), commonN_of a b n (fun i p q r => by have := h0 (i + 1) (by simpa using p) (by simpa using q) (by omega); rwa [List.getElem_cons_succ, List.getElem_cons_succ] at this) (by simpa using h1) (by simpa using h2) (fun p q => by have := h3 (by simpa using p) (by simpa using q); rwa [List.getElem_cons_succ, List.getElem_cons_succ] at this)]
/-- The longest beginning that some earlier word has, too. -/
def oldOf (fold : Bool) (w : List UInt8) : List (List UInt8) → Nat
  | [] => 0
  | u :: us => max (commonN (textF fold w) (textF fold u)) (oldOf fold w us)
def oldFrom (fold : Bool) (w : List UInt8) : Nat → List (List UInt8) → Nat
  | n, [] => n
  | n, u :: us => oldFrom fold w (max n (commonN (textF fold w) (textF fold u))) us
theorem oldFrom_max (fold : Bool) (w : List UInt8) : ∀ (us : List (List UInt8)) (n : Nat), oldFrom fold w n us = max n (oldOf fold w us)
  | [], n => by simp [oldFrom, oldOf]
  | u :: us, n => by
    unfold oldFrom oldOf
    rw [oldFrom_max fold w us]
    omega
theorem oldOf_le (fold : Bool) (w : List UInt8) : ∀ us : List (List UInt8), oldOf fold w us ≤ w.length
  | [] => by simp [oldOf]
  | u :: us => by
    have h1 := oldOf_le fold w us
    have h2 := (commonN_le (textF fold w) (textF fold u)).1
    rw [textF_length] at h2
    unfold oldOf
    omega
theorem oldFrom_le (fold : Bool) (w : List UInt8) (us : List (List UInt8)) (n : Nat) (h : n ≤ w.length) : oldFrom fold w n us ≤ w.length := by
  rw [oldFrom_max]; have := oldOf_le fold w us; omega
def nodesFrom (fold : Bool) : Nat → List (List UInt8) → List (List UInt8) → Nat
  | n, _, [] => n
  | n, pre, w :: ws => nodesFrom fold (n + (w.length - oldOf fold w pre)) (pre ++ [w]) ws
def nodesR (fold : Bool) (ws : List (List UInt8)) : Nat := nodesFrom fold 1 [] ws
theorem nodesFrom_le (fold : Bool) : ∀ (ws pre : List (List UInt8)) (n : Nat), nodesFrom fold n pre ws ≤ n + ws.flatten.length
  | [], pre, n => by simp [nodesFrom]
  | w :: ws, pre, n => by
    unfold nodesFrom
    have := nodesFrom_le fold ws (pre ++ [w]) (n + (w.length - oldOf fold w pre))
    rw [List.flatten_cons, List.length_append]
    omega
theorem nodesFrom_ge (fold : Bool) : ∀ (ws pre : List (List UInt8)) (n : Nat), n ≤ nodesFrom fold n pre ws
  | [], pre, n => by simp [nodesFrom]
  | w :: ws, pre, n => by
    unfold nodesFrom
    have := nodesFrom_ge fold ws (pre ++ [w]) (n + (w.length - oldOf fold w pre))
    omega
/-- What is wrong with a list: its error's number, 0 if nothing is. -/
def longF : Nat → List (List UInt8) → Nat ⊕ Unit
  | n, [] => .inl n
  | n, w :: ws => if 32 < w.length then .inr () else longF (n + w.length) ws
def checkR (fold : Bool) (ws : List (List UInt8)) : Int :=
  if ws.length = 0 then 50 else if 64 < ws.length then 51 else if ∃ w ∈ ws, w = [] then 52 else if ∃ w ∈ ws, 32 < w.length then 53 else if 600 < ws.flatten.length then 54 else if 400 < nodesR fold ws then 55 else 0
def makeFrom (fold : Bool) : List (List UInt8) → List (List UInt8) → List (List UInt8)
  | acc, [] => acc
  | acc, w :: ws => makeFrom fold (if which fold w acc < 0 then acc ++ [textF fold w] else acc) ws
def makeR (fold : Bool) (ws : List (List UInt8)) : Bool × List (List UInt8) × Int :=
  if checkR fold ws = 0 then (fold, makeFrom fold [] ws, 0) else (false, [], checkR fold ws)
def rightS (fold : Bool) (ws : List (List UInt8)) : Bool := decide (checkR fold ws = 0) && decide (makeFrom fold [] ws = ws)
theorem makeFrom_len (fold : Bool) : ∀ (ws acc : List (List UInt8)), (makeFrom fold acc ws).length ≤ acc.length + ws.length
  | [], acc => by simp [makeFrom]
  | w :: ws, acc => by
    unfold makeFrom
    have := makeFrom_len fold ws (if which fold w acc < 0 then acc ++ [textF fold w] else acc)
    split at this <;> (try split) <;> simp_all <;> omega
theorem rightS_check {fold : Bool} {ws : List (List UInt8)} (h : rightS fold ws = true) : checkR fold ws = 0 := by
  unfold rightS at h
  rw [Bool.and_eq_true] at h
  exact of_decide_eq_true h.1
theorem checkR_ok {fold : Bool} {ws : List (List UInt8)} (h : checkR fold ws = 0) : ws.length ≠ 0 ∧ ws.length ≤ 64 ∧ (∀ w ∈ ws, w ≠ []) ∧ (∀ w ∈ ws, w.length ≤ 32) ∧ ws.flatten.length ≤ 600 ∧ nodesR fold ws ≤ 400 := by
  unfold checkR at h
  split at h
  · omega
  split at h
  · omega
  split at h
  · omega
  split at h
  · omega
  split at h
  · omega
  split at h
  · omega
  rename_i h1 h2 h3 h4 h5 h6
  refine ⟨h1, by omega, fun w hw e => h3 ⟨w, hw, e⟩, fun w hw => ?_, by omega, by omega⟩
  refine Nat.le_of_not_lt fun hl => h4 ⟨w, hw, hl⟩
end Go.Proofs.Ytfbamdkalamliaa.SetM
