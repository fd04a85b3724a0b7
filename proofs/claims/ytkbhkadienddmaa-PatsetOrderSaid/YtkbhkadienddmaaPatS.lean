/- Which error is told of a list with a word more: plain mathematics. -/
import Derived.Test.YtkbhkadienddmaaPatP
namespace Go.Proofs.Ytkbhkadienddmaa.SetM
open LetM
theorem nodes_more (fold : Bool) (a b : List (List UInt8)) (w : List UInt8) : nodesR fold (a ++ b) ≤ nodesR fold (a ++ w :: b) := by
  rw [nodes_mem fold (a ++ w :: b) ((a ++ b) ++ [w]) (fun u => by simp only [List.mem_append, List.mem_cons, List.not_mem_nil, or_false]; exact ⟨fun h => h.elim (fun h => .inl (.inl h)) (fun h => h.elim .inr (fun h => .inl (.inr h))), fun h => h.elim (fun h => h.elim .inl (fun h => .inr (.inr h))) (fun h => .inr (.inl h))⟩), nodes_snoc]
  omega
/-- n: the list's length; wd: the word; e, f: what is told of the list, of the list with the word. -/
def OrderC (n : Nat) (wd : List UInt8) (e f : Int) (nd : Nat) : Prop :=
  (63 < n ∧ f = 51) ∨ (n = 0 ∧ e = 50 ∧ wd.length = 0 ∧ f = 52) ∨ (n = 0 ∧ e = 50 ∧ 0 < wd.length ∧ f ≠ 52) ∨ (0 < n ∧ n ≤ 63 ∧ wd.length = 0 ∧ f = 52) ∨ (0 < n ∧ n ≤ 63 ∧ 0 < wd.length ∧ e = 52 ∧ f = 52) ∨
  (0 < n ∧ n ≤ 63 ∧ 0 < wd.length ∧ e ≠ 52 ∧ 32 < wd.length ∧ f = 53) ∨ (0 < n ∧ n ≤ 63 ∧ 0 < wd.length ∧ wd.length ≤ 32 ∧ e = 53 ∧ f = 53) ∨ (0 < n ∧ n ≤ 63 ∧ 0 < wd.length ∧ wd.length ≤ 32 ∧ e = 54 ∧ f = 54) ∨
  (0 < n ∧ n ≤ 63 ∧ 0 < wd.length ∧ wd.length ≤ 32 ∧ e = 55 ∧ (f = 54 ∨ f = 55)) ∨ (0 < n ∧ n ≤ 63 ∧ 0 < wd.length ∧ wd.length ≤ 32 ∧ e = 0 ∧ (f = 54 ∨ f = 55 ∨ (f = 0 ∧ nd ≤ 400)))
theorem order_cases (fold : Bool) (a b : List (List UInt8)) (w : List UInt8) : OrderC (a ++ b).length w (checkR fold (a ++ b)) (checkR fold (a ++ w :: b)) (nodesR fold (a ++ w :: b)) := by
  have q1 : (∃ x ∈ a ++ w :: b, x = []) ↔ (w.length = 0 ∨ ∃ x ∈ a ++ b, x = []) := by
    constructor
    · rintro ⟨x, hx, rfl⟩
      simp only [List.mem_append, List.mem_cons] at hx
      rcases hx with h | h | h
      · exact .inr ⟨[], List.mem_append_left _ h, rfl⟩
      · exact .inl (by rw [← h]; rfl)
      · exact .inr ⟨[], List.mem_append_right _ h, rfl⟩
    · rintro (h | ⟨x, hx, rfl⟩)
      · exact ⟨w, by simp, List.eq_nil_of_length_eq_zero h⟩
      · rcases List.mem_append.1 hx with h | h
        · exact ⟨[], List.mem_append_left _ h, rfl⟩
        · exact ⟨[], List.mem_append_right _ (List.mem_cons_of_mem _ h), rfl⟩
  have q2 : (∃ x ∈ a ++ w :: b, 32 < x.length) ↔ (32 < w.length ∨ ∃ x ∈ a ++ b, 32 < x.length) := by
    constructor
    · rintro ⟨x, hx, hl⟩
      simp only [List.mem_append, List.mem_cons] at hx
      rcases hx with h | h | h
      · exact .inr ⟨x, List.mem_append_left _ h, hl⟩
      · exact .inl (by rw [← h]; exact hl)
      · exact .inr ⟨x, List.mem_append_right _ h, hl⟩
    · rintro (h | ⟨x, hx, hl⟩)
      · exact ⟨w, by simp, h⟩
      · rcases List.mem_append.1 hx with h | h
        · exact ⟨x, List.mem_append_left _ h, hl⟩
        · exact ⟨x, List.mem_append_right _ (List.mem_cons_of_mem _ h), hl⟩
  have q3 : (a ++ w :: b).length = (a ++ b).length + 1 := by simp only [List.length_append, List.length_cons]; omega
  have q4 : (a ++ w :: b).flatten.length = (a ++ b).flatten.length + w.length := by simp only [List.flatten_append, List.flatten_cons, List.length_append]; omega
  have q5 := nodes_more fold a b w
  have q6 : (a ++ b).length = 0 → ¬ ∃ x ∈ a ++ b, x = [] := fun h => by rw [List.eq_nil_of_length_eq_zero h]; simp
  unfold checkR
  rw [q3, q4]
  simp only [q1, q2]
  generalize nodesR fold (a ++ w :: b) = n2 at *
  generalize nodesR fold (a ++ b) = n1 at *
  generalize (a ++ b).flatten.length = s at *
  generalize (a ++ b).length = n at *
  unfold OrderC
  by_cases h1 : 63 < n
  · exact .inl ⟨h1, by rw [if_neg (by omega), if_pos (by omega)]⟩
  refine .inr ?_
  rw [if_neg (show ¬ n + 1 = 0 by omega), if_neg (show ¬ 64 < n + 1 by omega), if_neg (show ¬ 64 < n by omega)]
  by_cases h2 : n = 0
  · rw [if_pos h2]
    by_cases h3 : w.length = 0
    · exact .inl ⟨h2, rfl, h3, by rw [if_pos (.inl h3)]⟩
    · refine .inr (.inl ⟨h2, rfl, by omega, ?_⟩)
      rw [if_neg (fun h => h.elim h3 (q6 h2))]
      (repeat' split) <;> omega
  refine .inr (.inr ?_)
  rw [if_neg h2]
  by_cases h3 : w.length = 0
  · exact .inl ⟨by omega, by omega, h3, by rw [if_pos (.inl h3)]⟩
  refine .inr ?_
  by_cases h4 : ∃ x ∈ a ++ b, x = []
  · exact .inl ⟨by omega, by omega, by omega, by rw [if_pos h4], by rw [if_pos (.inr h4)]⟩
  refine .inr ?_
  rw [if_neg h4, if_neg (show ¬ (w.length = 0 ∨ ∃ x ∈ a ++ b, x = []) from fun h => h.elim h3 h4)]
  by_cases h5 : 32 < w.length
  · exact .inl ⟨by omega, by omega, by omega, by (repeat' split) <;> omega, h5, by rw [if_pos (.inl h5)]⟩
  refine .inr ?_
  by_cases h6 : ∃ x ∈ a ++ b, 32 < x.length
  · exact .inl ⟨by omega, by omega, by omega, by omega, by rw [if_pos h6], by rw [if_pos (.inr h6)]⟩
  refine .inr ?_
  rw [if_neg h6, if_neg (show ¬ (32 < w.length ∨ ∃ x ∈ a ++ b, 32 < x.length) from fun h => h.elim h5 h6)]
  by_cases h7 : 600 < s
  · exact .inl ⟨by omega, by omega, by omega, by omega, by rw [if_pos h7], by rw [if_pos (by omega)]⟩
  refine .inr ?_
  rw [if_neg h7]
  by_cases h8 : 400 < n1
  · refine .inl ⟨by omega, by omega, by omega, by omega, by rw [if_pos h8], ?_⟩
    by_cases h9 : 600 < s + w.length
    · exact .inl (by rw [if_pos h9])
    · exact .inr (by rw [if_neg h9, if_pos (by omega)])
  refine .inr ⟨by omega, by omega, by omega, by omega, by rw [if_neg h8], ?_⟩
  by_cases h9 : 600 < s + w.length
  · exact .inl (by rw [if_pos h9])
  refine .inr ?_
  by_cases h10 : 400 < n2
  · exact .inl (by rw [if_neg h9, if_pos h10])
  · exact .inr ⟨by rw [if_neg h9, if_neg h10], by omega⟩
end Go.Proofs.Ytkbhkadienddmaa.SetM
