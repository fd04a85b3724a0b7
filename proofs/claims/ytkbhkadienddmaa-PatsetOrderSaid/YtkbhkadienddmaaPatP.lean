/- Nodes of a list with a word more, and of a list whose words stand elsewhere, as plain mathematics. -/
import Derived.Test.YtkbhkadienddmaaPatMath
namespace Go.Proofs.Ytkbhkadienddmaa.SetM
open LetM
theorem pinv_word (fold : Bool) (us : List (List UInt8)) (w : List UInt8) (P P' : List (List UInt8)) (hP : PInv fold us P) (h5 : ∀ x, x ∈ P' ↔ x ∈ P ∨ ∃ i, 1 ≤ i ∧ i ≤ w.length ∧ x = (textF fold w).take i) : PInv fold (us ++ [w]) P' := fun x => by
  rw [h5, hP]
  constructor
  · rintro ((h6 | ⟨u, hu, h6⟩) | ⟨i, _, _, h8⟩)
    · exact .inl h6
    · exact .inr ⟨u, List.mem_append_left _ hu, h6⟩
    · exact .inr ⟨w, by simp, h8 ▸ List.take_prefix _ _⟩
  · rintro (h6 | ⟨u, hu, h6⟩)
    · exact .inl (.inl h6)
    · rcases List.mem_append.1 hu with hu | hu
      · exact .inl (.inr ⟨u, hu, h6⟩)
      · rw [List.mem_singleton] at hu
        subst hu
        by_cases hx : x = []
        · exact .inl (.inl hx)
        · right
          have hl := h6.length_le
          rw [textF_length] at hl
          exact ⟨x.length, List.length_pos_iff.2 hx, hl, List.prefix_iff_eq_take.1 h6⟩
theorem nrun_inv (fold : Bool) : ∀ (ws us P : List (List UInt8)) (st : NSt), TInv P st.2.2 → PInv fold us P → st.1 = P.length → ∃ P', TInv P' (nrun st (begs fold ws)).2.2 ∧ PInv fold (us ++ ws) P' ∧ (nrun st (begs fold ws)).1 = P'.length
  | [], us, P, st, hT, hP, hn => ⟨P, by simpa [begs, nrun] using hT, by simpa using hP, by simpa [begs, nrun] using hn⟩
  | w :: ws, us, P, st, hT, hP, hn => by
    obtain ⟨P', h1, h2, h3, _, h5⟩ := word_run fold w us P st hT hP hn w.length (Nat.le_refl _)
    rw [List.take_of_length_le (by rw [begsW_length]; exact Nat.le_refl _)] at h1 h2
    have e : begs fold (w :: ws) = begsW fold w ++ begs fold ws := by simp [begs]
    rw [e, nrun_append]
    obtain ⟨P2, q1, q2, q3⟩ := nrun_inv fold ws (us ++ [w]) P' _ h1 (pinv_word fold us w P P' hP h5) h2
    exact ⟨P2, q1, by simpa using q2, q3⟩
theorem nodes_set (fold : Bool) (ws : List (List UInt8)) : ∃ P : List (List UInt8), P.Nodup ∧ P.length = nodesR fold ws ∧ PInv fold ws P := by
  obtain ⟨P, h1, h2, h3⟩ := nrun_inv fold ws [] [[]] (1, 0, []) ⟨rfl, by simp, fun i c j h => by simp at h, fun j x h hx => by
    cases j with
    | zero => cases h; exact absurd rfl hx
    | succ j => simp at h⟩ (fun x => by simp) rfl
  exact ⟨P, h1.nd, by rw [← h3, nrun_nodesR], by simpa using h2⟩
theorem nodes_mem (fold : Bool) (a b : List (List UInt8)) (h : ∀ u, u ∈ a ↔ u ∈ b) : nodesR fold a = nodesR fold b := by
  obtain ⟨P, p1, p2, p3⟩ := nodes_set fold a
  obtain ⟨Q, q1, q2, q3⟩ := nodes_set fold b
  have hm : ∀ x, x ∈ P ↔ x ∈ Q := fun x => by
    rw [p3, q3]
    constructor
    · rintro (h1 | ⟨u, hu, h1⟩)
      · exact .inl h1
      · exact .inr ⟨u, (h u).1 hu, h1⟩
    · rintro (h1 | ⟨u, hu, h1⟩)
      · exact .inl h1
      · exact .inr ⟨u, (h u).2 hu, h1⟩
  rw [← p2, ← q2]
  exact ((List.perm_ext_iff_of_nodup p1 q1).2 hm).length_eq
theorem nodesFrom_snoc (fold : Bool) (w : List UInt8) : ∀ (ws pre : List (List UInt8)) (n : Nat), nodesFrom fold n pre (ws ++ [w]) = nodesFrom fold n pre ws + (w.length - oldOf fold w (pre ++ ws))
  | [], pre, n => by simp [nodesFrom]
  | u :: ws, pre, n => by
    rw [List.cons_append]
    conv => lhs; unfold nodesFrom
    conv => rhs; arg 1; unfold nodesFrom
    rw [nodesFrom_snoc fold w ws]
    simp
theorem nodes_snoc (fold : Bool) (w : List UInt8) (ws : List (List UInt8)) : nodesR fold (ws ++ [w]) = nodesR fold ws + (w.length - oldOf fold w ws) := by
  unfold nodesR
  rw [nodesFrom_snoc, List.nil_append]
theorem mem_swap {α : Type} (l : List α) (i k : Nat) (hi : i < l.length) (hk : k < l.length) (u : α) : u ∈ (l.set i l[k]).set k l[i] ↔ u ∈ l := by
  constructor
  · intro h
    rcases List.mem_or_eq_of_mem_set h with h | h
    · rcases List.mem_or_eq_of_mem_set h with h | h
      · exact h
      · rw [h]; exact List.getElem_mem hk
    · rw [h]; exact List.getElem_mem hi
  · intro h
    obtain ⟨j, hj, rfl⟩ := List.mem_iff_getElem.1 h
    by_cases e1 : j = i
    · subst e1
      exact List.mem_iff_getElem.2 ⟨k, by simpa using hk, by simp⟩
    · by_cases e2 : j = k
      · subst e2
        refine List.mem_iff_getElem.2 ⟨i, by simpa using hi, ?_⟩
        rw [List.getElem_set_ne (fun e => e1 e), List.getElem_set_self]
      · refine List.mem_iff_getElem.2 ⟨j, by simpa using hj, ?_⟩
        rw [List.getElem_set_ne (fun e => e2 e.symm), List.getElem_set_ne (fun e => e1 e.symm)]
theorem take_same (fold : Bool) (a b : List UInt8) (n : Nat) : sameB fold (a.take n) (b.take n) = true ↔ (textF fold a).take n = (textF fold b).take n := by
  rw [sameB_textF, decide_eq_true_iff, textF_map, textF_map, textF_map, textF_map, List.map_take, List.map_take]
theorem common_stop (fold : Bool) (a b : List UInt8) (n : Nat) (h0 : (textF fold a).take n = (textF fold b).take n) (h1 : n ≤ a.length) (h2 : n ≤ b.length) (h3 : n < a.length → n < b.length → sameB fold (a.take (n + 1)) (b.take (n + 1)) = false) : commonN (textF fold a) (textF fold b) = n := by
  refine commonN_of _ _ n (fun i p q r => ?_) (by rw [textF_length]; exact h1) (by rw [textF_length]; exact h2) (fun p q e => ?_)
  · have e1 : ((textF fold a).take n)[i]? = ((textF fold b).take n)[i]? := by rw [h0]
    rw [List.getElem?_take, List.getElem?_take, if_pos r, if_pos r, List.getElem?_eq_getElem p, List.getElem?_eq_getElem q] at e1
    exact Option.some.inj e1
  · rw [textF_length] at p q
    have := h3 p q
    have h4 : sameB fold (a.take (n + 1)) (b.take (n + 1)) = true := by
      rw [take_same, List.take_succ_eq_append_getElem (by rw [textF_length]; exact p), List.take_succ_eq_append_getElem (by rw [textF_length]; exact q), h0, e]
    rw [h4] at this
    cases this
end Go.Proofs.Ytkbhkadienddmaa.SetM
