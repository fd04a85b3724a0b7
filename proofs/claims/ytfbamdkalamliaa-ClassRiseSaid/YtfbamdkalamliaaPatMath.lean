/- Beginnings counted by a table of edges, as plain mathematics: as many as the document's nodes. -/
import Derived.Test.YtfbamdkalamliaaRMath
namespace Go.Proofs.Ytfbamdkalamliaa.SetM
open LetM
def foldF (fold : Bool) (c : UInt8) : UInt8 := if fold then foldC c else c
theorem textF_map (fold : Bool) (w : List UInt8) : textF fold w = w.map (foldF fold) := by
  unfold textF foldF folds
  cases fold <;> simp
/-- What the beginnings' iterator yields of one word; of all. -/
def begsW (fold : Bool) (w : List UInt8) : List (Bool × UInt8) := w.zipIdx.map fun x => (x.2 == 0, foldF fold x.1)
def begs (fold : Bool) (ws : List (List UInt8)) : List (Bool × UInt8) := (ws.map (begsW fold)).flatten
theorem begsW_length (fold : Bool) (w : List UInt8) : (begsW fold w).length = w.length := by simp [begsW]
theorem begsW_get (fold : Bool) (w : List UInt8) (j : Nat) (h : j < (begsW fold w).length) (h2 : j < w.length) : (begsW fold w)[j] = (j == 0, foldF fold w[j]) := by simp [begsW]
theorem begs_length (fold : Bool) (ws : List (List UInt8)) : (begs fold ws).length = ws.flatten.length := by
  unfold begs
  rw [List.length_flatten, List.length_flatten, List.map_map]
  congr 1
  exact List.map_congr_left fun w _ => begsW_length fold w
abbrev Tab := List ((Nat × UInt8) × Nat)
def findN (l : Tab) (k : Nat × UInt8) : Option Nat := (l.find? fun x => x.1 == k).map (·.2)
/-- How many nodes; where we are; the table. -/
abbrev NSt := Nat × Nat × Tab
def stepN (st : NSt) (x : Bool × UInt8) : NSt :=
  match findN st.2.2 (if x.1 then 0 else st.2.1, x.2) with
  | some j => (st.1, j, st.2.2)
  | none => (st.1 + 1, st.1, st.2.2 ++ [((if x.1 then 0 else st.2.1, x.2), st.1)])
def nrun (st : NSt) (xs : List (Bool × UInt8)) : NSt := xs.foldl stepN st
theorem nrun_snoc (st : NSt) (xs : List (Bool × UInt8)) (x : Bool × UInt8) : nrun st (xs ++ [x]) = stepN (nrun st xs) x := by unfold nrun; rw [List.foldl_append]; rfl
theorem nrun_append (st : NSt) (xs ys : List (Bool × UInt8)) : nrun st (xs ++ ys) = nrun (nrun st xs) ys := by unfold nrun; rw [List.foldl_append]
theorem stepN_le (st : NSt) (x : Bool × UInt8) : (stepN st x).1 ≤ st.1 + 1 ∧ st.1 ≤ (stepN st x).1 ∧ (stepN st x).2.2.length + 1 = st.2.2.length + 1 + ((stepN st x).1 - st.1) := by
  unfold stepN
  split <;> simp
theorem nrun_le (st : NSt) (xs : List (Bool × UInt8)) : (nrun st xs).1 ≤ st.1 + xs.length ∧ (nrun st xs).2.2.length ≤ st.2.2.length + xs.length := by
  induction xs generalizing st with
  | nil => simp [nrun]
  | cons x xs ih =>
    have h := ih (stepN st x)
    have h2 := stepN_le st x
    have e : nrun st (x :: xs) = nrun (stepN st x) xs := rfl
    rw [e, List.length_cons]
    omega
/-- Nodes: P lists the beginnings that have one, by number. -/
structure TInv (P : List (List UInt8)) (l : Tab) : Prop where
  h0 : P[0]? = some []
  nd : P.Nodup
  ok : ∀ i c j, ((i, c), j) ∈ l → ∃ x, P[i]? = some x ∧ P[j]? = some (x ++ [c])
  full : ∀ (j : Nat) (x : List UInt8), P[j]? = some x → x ≠ [] → ∃ i c, ((i, c), j) ∈ l
theorem findN_some {l : Tab} {k : Nat × UInt8} {j : Nat} (h : findN l k = some j) : (k, j) ∈ l := by
  unfold findN at h
  obtain ⟨x, h1, h2⟩ := Option.map_eq_some_iff.1 h
  have h3 := List.find?_some h1
  have h4 := List.mem_of_find?_eq_some h1
  simp only [beq_iff_eq] at h3
  subst h2
  rw [← h3]
  exact h4
theorem findN_none {l : Tab} {k : Nat × UInt8} (h : findN l k = none) (j : Nat) : (k, j) ∉ l := by
  intro hm
  unfold findN at h
  rw [Option.map_eq_none_iff, List.find?_eq_none] at h
  have := h _ hm
  simp at this
theorem nodup_inj {P : List (List UInt8)} (h : P.Nodup) {i j : Nat} {x : List UInt8} (hi : P[i]? = some x) (hj : P[j]? = some x) : i = j := by
  obtain ⟨h1, h2⟩ := List.getElem?_eq_some_iff.1 hi
  obtain ⟨h3, h4⟩ := List.getElem?_eq_some_iff.1 hj
  exact (List.getElem_inj h).1 (h2.trans h4.symm)
theorem TInv.found {P : List (List UInt8)} {l : Tab} (h : TInv P l) {i j : Nat} {c : UInt8} {x : List UInt8} (hx : P[i]? = some x) (hf : findN l (i, c) = some j) : P[j]? = some (x ++ [c]) := by
  obtain ⟨y, h1, h2⟩ := h.ok i c j (findN_some hf)
  rw [hx] at h1
  cases h1
  exact h2
theorem TInv.missed {P : List (List UInt8)} {l : Tab} (h : TInv P l) {i : Nat} {c : UInt8} {x : List UInt8} (hx : P[i]? = some x) (hf : findN l (i, c) = none) : x ++ [c] ∉ P := by
  intro hm
  obtain ⟨j, hj⟩ := List.getElem?_of_mem hm
  obtain ⟨i', c', h1⟩ := h.full j _ hj (by simp)
  obtain ⟨y, h2, h3⟩ := h.ok i' c' j h1
  rw [hj] at h3
  have e := Option.some.inj h3
  obtain ⟨e1, e2⟩ := List.append_inj' e rfl
  subst e1
  have e2' : c = c' := by simpa using e2
  subst e2'
  obtain rfl := nodup_inj h.nd hx h2
  exact findN_none hf j h1
theorem TInv.push {P : List (List UInt8)} {l : Tab} (h : TInv P l) {i : Nat} {c : UInt8} {x : List UInt8} (hx : P[i]? = some x) (hf : findN l (i, c) = none) : TInv (P ++ [x ++ [c]]) (l ++ [((i, c), P.length)]) := by
  have hm := h.missed hx hf
  have old : ∀ (j : Nat) (y : List UInt8), P[j]? = some y → (P ++ [x ++ [c]])[j]? = some y := fun j y hj => by
    rw [List.getElem?_append_left (List.getElem?_eq_some_iff.1 hj).1]; exact hj
  have new : (P ++ [x ++ [c]])[P.length]? = some (x ++ [c]) := by simp
  refine ⟨old _ _ h.h0, ?_, ?_, ?_⟩
  · rw [List.nodup_append]
    refine ⟨h.nd, by simp, fun a ha b hb e => ?_⟩
    rw [List.mem_singleton] at hb
    subst hb; subst e
    exact hm ha
  · intro i' c' j' hmem
    rcases List.mem_append.1 hmem with h1 | h1
    · obtain ⟨y, h2, h3⟩ := h.ok i' c' j' h1
      exact ⟨y, old _ _ h2, old _ _ h3⟩
    · rw [List.mem_singleton] at h1
      cases h1
      exact ⟨x, old _ _ hx, new⟩
  · intro j y hj hy
    by_cases hlt : j < P.length
    · rw [List.getElem?_append_left hlt] at hj
      obtain ⟨i', c', h1⟩ := h.full j y hj hy
      exact ⟨i', c', List.mem_append_left _ h1⟩
    · have hj2 := (List.getElem?_eq_some_iff.1 hj).1
      have e : j = P.length := by simp at hj2; omega
      subst e
      exact ⟨i, c, List.mem_append_right _ (by simp)⟩
theorem common_take : ∀ (a b : List UInt8) (i : Nat), i ≤ a.length → (a.take i <+: b ↔ i ≤ commonN a b)
  | a, b, 0, _ => by simp
  | [], b, i + 1, h => by simp at h
  | x :: a, [], i + 1, h => by simp [commonN]
  | x :: a, y :: b, i + 1, h => by
    have ih := common_take a b i (by simpa using h)
    unfold commonN
    rw [List.take_succ_cons, List.cons_prefix_cons]
    by_cases e : x = y
    · rw [if_pos e]; simp [e, ih]
    · rw [if_neg e]; simp [e]
theorem oldOf_ge (fold : Bool) (w : List UInt8) (i : Nat) : ∀ us : List (List UInt8), i ≤ oldOf fold w us ↔ i = 0 ∨ ∃ u ∈ us, i ≤ commonN (textF fold w) (textF fold u)
  | [] => by simp [oldOf]
  | u :: us => by
    have ih := oldOf_ge fold w i us
    unfold oldOf
    have : i ≤ max (commonN (textF fold w) (textF fold u)) (oldOf fold w us) ↔ i ≤ commonN (textF fold w) (textF fold u) ∨ i ≤ oldOf fold w us := by omega
    rw [this, ih]
    simp only [List.mem_cons, exists_eq_or_imp]
    constructor
    · rintro (h | h | h)
      · exact .inr (.inl h)
      · exact .inl h
      · exact .inr (.inr h)
    · rintro (h | h | h)
      · exact .inr (.inl h)
      · exact .inl h
      · exact .inr (.inr h)
/-- P's beginnings are those of these words. -/
def PInv (fold : Bool) (us : List (List UInt8)) (P : List (List UInt8)) : Prop := ∀ x, x ∈ P ↔ x = [] ∨ ∃ u ∈ us, x <+: textF fold u
theorem word_run (fold : Bool) (w : List UInt8) (us P : List (List UInt8)) (st : NSt) (hT : TInv P st.2.2) (hP : PInv fold us P) (hn : st.1 = P.length) :
    ∀ j, j ≤ w.length → ∃ P', TInv P' (nrun st ((begsW fold w).take j)).2.2 ∧ (nrun st ((begsW fold w).take j)).1 = P'.length ∧ P'.length = P.length + (j - oldOf fold w us) ∧
      (1 ≤ j → P'[(nrun st ((begsW fold w).take j)).2.1]? = some ((textF fold w).take j)) ∧ (∀ x, x ∈ P' ↔ x ∈ P ∨ ∃ i, 1 ≤ i ∧ i ≤ j ∧ x = (textF fold w).take i) := by
  intro j
  have hlen := textF_length fold w
  have inP : ∀ i, i ≤ w.length → ((textF fold w).take i ∈ P ↔ i ≤ oldOf fold w us) := fun i hi => by
    rw [hP, oldOf_ge]
    constructor
    · rintro (h | ⟨u, hu, h⟩)
      · left
        have := congrArg List.length h
        rw [List.length_take, hlen] at this
        simp only [List.length_nil] at this
        omega
      · exact .inr ⟨u, hu, (common_take _ _ i (by omega)).1 h⟩
    · rintro (h | ⟨u, hu, h⟩)
      · left; rw [h]; rfl
      · exact .inr ⟨u, hu, (common_take _ _ i (by omega)).2 h⟩
  induction j with
  | zero =>
    intro _
    exact ⟨P, by simpa [nrun] using hT, by simpa [nrun] using hn, by omega, fun h => by omega, fun x => ⟨.inl, fun h => by
      rcases h with h | ⟨i, h1, h2, _⟩
      · exact h
      · omega⟩⟩
  | succ j ih =>
    intro hj
    obtain ⟨P', h1, h2, h3, h4, h5⟩ := ih (by omega)
    have hjb : j < (begsW fold w).length := by rw [begsW_length]; omega
    rw [List.take_succ_eq_append_getElem hjb, nrun_snoc, begsW_get fold w j hjb (by omega)]
    obtain ⟨st', hst⟩ : ∃ st', nrun st ((begsW fold w).take j) = st' := ⟨_, rfl⟩
    rw [hst] at h1 h2 h4 ⊢
    have hx : P'[if (j == 0) = true then 0 else st'.2.1]? = some ((textF fold w).take j) := by
      by_cases h0 : j = 0
      · subst h0
        simpa using h1.h0
      · simp only [beq_iff_eq, h0, if_false]
        exact h4 (by omega)
    have ht : (textF fold w).take (j + 1) = (textF fold w).take j ++ [foldF fold w[j]] := by
      rw [List.take_succ_eq_append_getElem (by omega)]
      simp [textF_map]
    unfold stepN
    dsimp only
    cases hf : findN st'.2.2 (if (j == 0) = true then 0 else st'.2.1, foldF fold w[j]) with
    | some q =>
      have hq := h1.found hx hf
      rw [← ht] at hq
      have hmem : (textF fold w).take (j + 1) ∈ P' := List.mem_of_getElem? hq
      have hold : j + 1 ≤ oldOf fold w us := by
        rcases (h5 _).1 hmem with h6 | ⟨i, h6, h7, h8⟩
        · exact (inP (j + 1) hj).1 h6
        · have := congrArg List.length h8
          rw [List.length_take, List.length_take] at this
          omega
      refine ⟨P', h1, h2, by omega, fun _ => hq, fun x => ?_⟩
      rw [h5]
      constructor
      · rintro (h6 | ⟨i, h6, h7, h8⟩)
        · exact .inl h6
        · exact .inr ⟨i, h6, by omega, h8⟩
      · rintro (h6 | ⟨i, h6, h7, h8⟩)
        · exact .inl h6
        · by_cases e : i = j + 1
          · subst e; left; rw [h8]; exact (inP _ hj).2 hold
          · exact .inr ⟨i, h6, by omega, h8⟩
    | none =>
      have hmiss := h1.missed hx hf
      have hpush := h1.push hx hf
      rw [← ht] at hmiss hpush
      have hold : ¬ j + 1 ≤ oldOf fold w us := fun h => hmiss ((h5 _).2 (.inl ((inP _ hj).2 h)))
      rw [← h2] at hpush
      refine ⟨P' ++ [(textF fold w).take (j + 1)], hpush, by simp [h2], by simp; omega, fun _ => ?_, fun x => ?_⟩
      · show (P' ++ [(textF fold w).take (j + 1)])[st'.1]? = _
        rw [h2]; simp
      · rw [List.mem_append, List.mem_singleton, h5]
        constructor
        · rintro ((h6 | ⟨i, h6, h7, h8⟩) | h6)
          · exact .inl h6
          · exact .inr ⟨i, h6, by omega, h8⟩
          · exact .inr ⟨j + 1, by omega, by omega, h6⟩
        · rintro (h6 | ⟨i, h6, h7, h8⟩)
          · exact .inl (.inl h6)
          · by_cases e : i = j + 1
            · subst e; exact .inr h8
            · exact .inl (.inr ⟨i, h6, by omega, h8⟩)
theorem nrun_nodes (fold : Bool) : ∀ (ws us P : List (List UInt8)) (st : NSt), TInv P st.2.2 → PInv fold us P → st.1 = P.length → (nrun st (begs fold ws)).1 = nodesFrom fold st.1 us ws
  | [], us, P, st, _, _, _ => by simp [begs, nrun, nodesFrom]
  | w :: ws, us, P, st, hT, hP, hn => by
    obtain ⟨P', h1, h2, h3, _, h5⟩ := word_run fold w us P st hT hP hn w.length (Nat.le_refl _)
    rw [List.take_of_length_le (by rw [begsW_length]; exact Nat.le_refl _)] at h1 h2
    have e : begs fold (w :: ws) = begsW fold w ++ begs fold ws := by simp [begs]
    have hP' : PInv fold (us ++ [w]) P' := fun x => by
      rw [h5, hP]
      constructor
      · rintro ((h6 | ⟨u, hu, h6⟩) | ⟨i, _, _, h8⟩)
        · exact .inl h6
        · exact .inr ⟨u, List.mem_append_left _ hu, h6⟩
        · exact .inr ⟨w, by simp, h8 ▸ List.take_prefix _ _⟩
      · rintro (h6 | ⟨u, hu, h6⟩)
        · exact .inl (.inl h6)
        · rcases List.mem_append.1 hu with hu | hu
          · exact .inl (.inr ⟨u, hu, h6⟩)
          · rw [List.mem_singleton] at hu
            subst hu
            by_cases hx : x = []
            · exact .inl (.inl hx)
            · right
              have hl := h6.length_le
              rw [textF_length] at hl
              exact ⟨x.length, List.length_pos_iff.2 hx, hl, List.prefix_iff_eq_take.1 h6⟩
    rw [e, nrun_append]
    conv => rhs; unfold nodesFrom
    rw [nrun_nodes fold ws (us ++ [w]) P' _ h1 hP' h2, h2, h3, hn]
theorem nrun_nodesR (fold : Bool) (ws : List (List UInt8)) : (nrun (1, 0, []) (begs fold ws)).1 = nodesR fold ws :=
  nrun_nodes fold ws [] [[]] (1, 0, []) ⟨rfl, by simp, fun i c j h => by simp at h, fun j x h hx => by
    cases j with
    | zero => cases h; exact absurd rfl hx
    | succ j => simp at h⟩ (fun x => by simp) rfl
end Go.Proofs.Ytfbamdkalamliaa.SetM
