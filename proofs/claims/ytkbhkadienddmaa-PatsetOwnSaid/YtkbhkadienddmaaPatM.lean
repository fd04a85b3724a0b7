/- Sets that are made: what they are, as plain mathematics. -/
import Derived.Test.YtkbhkadienddmaaRMath
namespace Go.Proofs.Ytkbhkadienddmaa.SetM
open LetM
theorem sameB_iff (fold : Bool) (a b : List UInt8) : sameB fold a b = true ↔ textF fold a = textF fold b := by rw [sameB_textF]; simp
theorem whichFrom_low (fold : Bool) (t : List UInt8) : ∀ (ws : List (List UInt8)) (i : Nat), whichFrom fold t i ws < 0 ↔ ∀ w ∈ ws, textF fold t ≠ textF fold w
  | [], i => by simp [whichFrom]
  | w :: ws, i => by
    have ih := whichFrom_low fold t ws (i + 1)
    unfold whichFrom
    by_cases h : sameB fold t w = true
    · rw [if_pos h]
      have h2 := (sameB_iff fold t w).1 h
      constructor
      · intro h3; omega
      · intro h3; exact absurd h2 (h3 w (by simp))
    · rw [if_neg h, ih]
      have h2 : textF fold t ≠ textF fold w := fun e => h ((sameB_iff fold t w).2 e)
      constructor
      · intro h3 u hu
        rcases List.mem_cons.1 hu with rfl | hu
        · exact h2
        · exact h3 u hu
      · intro h3 u hu
        exact h3 u (List.mem_cons_of_mem _ hu)
theorem which_low (fold : Bool) (t : List UInt8) (ws : List (List UInt8)) : which fold t ws < 0 ↔ ∀ w ∈ ws, textF fold t ≠ textF fold w := whichFrom_low fold t ws 0
theorem whichFrom_append (fold : Bool) (t : List UInt8) : ∀ (a b : List (List UInt8)) (i : Nat), whichFrom fold t i (a ++ b) = if whichFrom fold t i a < 0 then whichFrom fold t (i + a.length) b else whichFrom fold t i a
  | [], b, i => by simp [whichFrom]
  | w :: a, b, i => by
    have ih := whichFrom_append fold t a b (i + 1)
    have e1 : whichFrom fold t i (w :: (a ++ b)) = if sameB fold t w then (i : Int) else whichFrom fold t (i + 1) (a ++ b) := rfl
    have e2 : whichFrom fold t i (w :: a) = if sameB fold t w then (i : Int) else whichFrom fold t (i + 1) a := rfl
    rw [List.cons_append, e1, e2]
    by_cases h : sameB fold t w = true
    · rw [if_pos h, if_pos h, if_neg (by omega)]
    · rw [if_neg h, if_neg h, ih, List.length_cons, show i + 1 + a.length = i + (a.length + 1) by omega]
theorem which_append (fold : Bool) (t : List UInt8) (a b : List (List UInt8)) : which fold t (a ++ b) = if which fold t a < 0 then whichFrom fold t a.length b else which fold t a := by
  unfold which
  rw [whichFrom_append, Nat.zero_add]
theorem makeFrom_append (fold : Bool) : ∀ (a b acc : List (List UInt8)), makeFrom fold acc (a ++ b) = makeFrom fold (makeFrom fold acc a) b
  | [], b, acc => by simp [makeFrom]
  | w :: a, b, acc => by
    rw [List.cons_append]
    conv => lhs; unfold makeFrom
    conv => rhs; arg 2; unfold makeFrom
    exact makeFrom_append fold a b _
theorem makeFrom_prefix (fold : Bool) : ∀ (ws acc : List (List UInt8)), acc <+: makeFrom fold acc ws
  | [], acc => by simp [makeFrom]
  | w :: ws, acc => by
    unfold makeFrom
    refine List.IsPrefix.trans ?_ (makeFrom_prefix fold ws _)
    split
    · exact List.prefix_append _ _
    · exact List.prefix_refl _
/-- All different, and folded. -/
def Dis (fold : Bool) (ws : List (List UInt8)) : Prop := (∀ w ∈ ws, textF fold w = w) ∧ ws.Nodup
theorem dis_snoc {fold : Bool} {ws : List (List UInt8)} {w : List UInt8} (h : Dis fold ws) (hw : which fold w ws < 0) : Dis fold (ws ++ [textF fold w]) := by
  obtain ⟨h1, h2⟩ := h
  refine ⟨fun u hu => ?_, ?_⟩
  · rcases List.mem_append.1 hu with hu | hu
    · exact h1 u hu
    · rw [List.mem_singleton] at hu; subst hu; exact textF_idem fold w
  · rw [List.nodup_append]
    refine ⟨h2, by simp, fun a ha b hb e => ?_⟩
    rw [List.mem_singleton] at hb
    subst hb
    have := (which_low fold w ws).1 hw a ha
    rw [h1 a ha, e] at this
    exact this rfl
theorem makeFrom_dis (fold : Bool) : ∀ (ws acc : List (List UInt8)), Dis fold acc → Dis fold (makeFrom fold acc ws)
  | [], acc, h => by simpa [makeFrom] using h
  | w :: ws, acc, h => by
    unfold makeFrom
    refine makeFrom_dis fold ws _ ?_
    split
    · rename_i hw; exact dis_snoc h hw
    · exact h
theorem dis_which {fold : Bool} {a b : List (List UInt8)} {w : List UInt8} (h : Dis fold (a ++ w :: b)) : which fold w a < 0 := by
  obtain ⟨h1, h2⟩ := h
  rw [which_low]
  intro u hu e
  rw [h1 w (by simp), h1 u (by simp [hu])] at e
  rw [List.nodup_append] at h2
  exact h2.2.2 u hu w (by simp) e.symm
theorem makeFrom_same (fold : Bool) : ∀ (ws acc : List (List UInt8)), Dis fold (acc ++ ws) → makeFrom fold acc ws = acc ++ ws
  | [], acc, _ => by simp [makeFrom]
  | w :: ws, acc, h => by
    unfold makeFrom
    rw [if_pos (dis_which h), h.1 w (by simp)]
    rw [makeFrom_same fold ws (acc ++ [w]) (by simpa using h)]
    simp
theorem which_own {fold : Bool} {ws : List (List UInt8)} (h : Dis fold ws) (i : Nat) (hi : i < ws.length) : which fold ws[i] ws = (i : Int) := by
  have e : ws = ws.take i ++ ws[i] :: ws.drop (i + 1) := by
    rw [← List.drop_eq_getElem_cons hi, List.take_append_drop]
  have hl : (ws.take i).length = i := by rw [List.length_take]; omega
  have hw : which fold ws[i] (ws.take i) < 0 := dis_which (b := ws.drop (i + 1)) (by rw [← e]; exact h)
  conv => lhs; arg 3; rw [e]
  rw [which_append, if_pos hw, hl]
  unfold whichFrom
  rw [if_pos (sameB_refl fold _)]
/-- The first of a list's words that is not there yet gets the next number. -/
theorem which_made (fold : Bool) (ls : List (List UInt8)) (k : Nat) (hk : k < ls.length) :
    let acc := makeFrom fold [] (ls.take k)
    let n := which fold ls[k] (makeFrom fold [] ls)
    0 ≤ n ∧ n ≤ acc.length ∧ n < (makeFrom fold [] ls).length ∧ (makeFrom fold [] (ls.take (k + 1))).length = (if n = acc.length then acc.length + 1 else acc.length) ∧
      ∃ (j : Nat) (hj : j < (makeFrom fold [] ls).length), n = (j : Int) ∧ sameB fold (makeFrom fold [] ls)[j] ls[k] = true := by
  intro acc n
  have hacc : makeFrom fold [] (ls.take k) = acc := rfl
  have hts : ls.take (k + 1) = ls.take k ++ [ls[k]] := List.take_succ_eq_append_getElem hk
  have h1 : makeFrom fold [] (ls.take (k + 1)) = if which fold ls[k] acc < 0 then acc ++ [textF fold ls[k]] else acc := by
    rw [hts, makeFrom_append]
    rfl
  have h2 : makeFrom fold [] ls = makeFrom fold (makeFrom fold [] (ls.take (k + 1))) (ls.drop (k + 1)) := by
    rw [← makeFrom_append, List.take_append_drop]
  obtain ⟨tl, htl⟩ := makeFrom_prefix fold (ls.drop (k + 1)) (makeFrom fold [] (ls.take (k + 1)))
  rw [← h2] at htl
  have hn : n = which fold ls[k] (makeFrom fold [] ls) := rfl
  have hidx : 0 ≤ n → ∃ (j : Nat) (hj : j < (makeFrom fold [] ls).length), n = (j : Int) ∧ sameB fold (makeFrom fold [] ls)[j] ls[k] = true := fun h0 => by
    rcases whichFrom_ge fold ls[k] (makeFrom fold [] ls) 0 with ⟨e, _⟩ | ⟨j, hj, e, hs, _⟩
    · have : n = -1 := e
      omega
    · exact ⟨j, hj, by rw [hn]; unfold which; rw [e, Nat.zero_add], by rw [sameB_symm]; exact hs⟩
  by_cases hw : which fold ls[k] acc < 0
  · rw [if_pos hw] at h1
    have hn2 : n = (acc.length : Int) := by
      rw [hn, ← htl, h1, List.append_assoc, which_append, if_pos hw, List.singleton_append]
      unfold whichFrom
      rw [if_pos ((sameB_iff fold _ _).2 (textF_idem fold _).symm)]
    obtain ⟨j, hj, e, hs⟩ := hidx (by omega)
    refine ⟨by omega, by omega, by omega, by rw [h1, if_pos hn2]; simp, j, hj, e, hs⟩
  · rw [if_neg hw] at h1
    have hn2 : n = which fold ls[k] acc := by
      rw [hn, ← htl, h1, which_append, if_neg hw]
    have hlt : n < (acc.length : Int) := by
      rcases whichFrom_ge fold ls[k] acc 0 with ⟨e, _⟩ | ⟨j, hj, e, _, _⟩
      · exact absurd (show which fold ls[k] acc < 0 by unfold which; rw [e]; decide) hw
      · rw [hn2]; unfold which; rw [e]; omega
    obtain ⟨j, hj, e, hs⟩ := hidx (by omega)
    refine ⟨by omega, by omega, by omega, by rw [h1, if_neg (by omega)], j, hj, e, hs⟩
theorem mem_make (fold : Bool) : ∀ (ws acc : List (List UInt8)) (x : List UInt8), x ∈ makeFrom fold acc ws → x ∈ acc ∨ ∃ w ∈ ws, x = textF fold w
  | [], acc, x, h => .inl (by simpa [makeFrom] using h)
  | w :: ws, acc, x, h => by
    unfold makeFrom at h
    rcases mem_make fold ws _ x h with h | ⟨u, hu, e⟩
    · split at h
      · rcases List.mem_append.1 h with h | h
        · exact .inl h
        · rw [List.mem_singleton] at h; exact .inr ⟨w, by simp, h⟩
      · exact .inl h
    · exact .inr ⟨u, by simp [hu], e⟩
theorem make_flat (fold : Bool) : ∀ (ws acc : List (List UInt8)), (makeFrom fold acc ws).flatten.length ≤ acc.flatten.length + ws.flatten.length
  | [], acc => by simp [makeFrom]
  | w :: ws, acc => by
    unfold makeFrom
    have := make_flat fold ws (if which fold w acc < 0 then acc ++ [textF fold w] else acc)
    rw [List.flatten_cons, List.length_append]
    split at this
    · rename_i h
      rw [if_pos h]
      rw [List.flatten_append, List.length_append] at this
      simp only [List.flatten_cons, List.flatten_nil, List.append_nil, textF_length] at this
      omega
    · rename_i h
      rw [if_neg h]
      omega
theorem oldOf_set (fold : Bool) (a b : List UInt8) (us vs : List (List UInt8)) (h : textF fold a = textF fold b) (hs : ∀ t, (∃ u ∈ us, textF fold u = t) ↔ (∃ u ∈ vs, textF fold u = t)) : oldOf fold a us = oldOf fold b vs := by
  have ge : ∀ (a b : List UInt8) (us vs : List (List UInt8)), textF fold a = textF fold b → (∀ t, (∃ u ∈ us, textF fold u = t) → (∃ u ∈ vs, textF fold u = t)) → oldOf fold a us ≤ oldOf fold b vs := fun a b us vs h hs => by
    rw [oldOf_ge']
    rcases (oldOf_ge' fold a (oldOf fold a us) us).1 (Nat.le_refl _) with h1 | ⟨u, hu, h1⟩
    · exact .inl h1
    · obtain ⟨v, hv, e⟩ := hs _ ⟨u, hu, rfl⟩
      exact .inr ⟨v, hv, by rw [e, ← h]; exact h1⟩
  exact Nat.le_antisymm (ge a b us vs h fun t => (hs t).1) (ge b a vs us h.symm fun t => (hs t).2)
where
  oldOf_ge' (fold : Bool) (w : List UInt8) (i : Nat) : ∀ us : List (List UInt8), i ≤ oldOf fold w us ↔ i = 0 ∨ ∃ u ∈ us, i ≤ commonN (textF fold w) (textF fold u)
  | [] => by simp [oldOf]
  | u :: us => by
    have ih := oldOf_ge' fold w i us
    unfold oldOf
    have : i ≤ max (commonN (textF fold w) (textF fold u)) (oldOf fold w us) ↔ i ≤ commonN (textF fold w) (textF fold u) ∨ i ≤ oldOf fold w us := by omega
    rw [this, ih]
    simp only [List.mem_cons, exists_eq_or_imp]
    constructor
    · rintro (h | h | h)
      · exact .inr (.inl h)
      · exact .inl h
      · exact .inr (.inr h)
    · rintro (h | h | h)
      · exact .inr (.inl h)
      · exact .inl h
      · exact .inr (.inr h)
theorem common_self : ∀ a : List UInt8, commonN a a = a.length
  | [] => rfl
  | x :: a => by unfold commonN; rw [if_pos rfl, common_self a]; rfl
theorem oldOf_full (fold : Bool) (w : List UInt8) (us : List (List UInt8)) (u : List UInt8) (hu : u ∈ us) (e : textF fold w = textF fold u) : oldOf fold w us = w.length := by
  refine Nat.le_antisymm (oldOf_le fold w us) ?_
  rw [oldOf_set.oldOf_ge']
  right
  exact ⟨u, hu, by rw [← e, common_self, textF_length]; exact Nat.le_refl _⟩
theorem nodes_make (fold : Bool) : ∀ (ws acc pre new : List (List UInt8)) (n : Nat), makeFrom fold acc ws = acc ++ new → (∀ t, (∃ u ∈ acc, textF fold u = t) ↔ (∃ u ∈ pre, textF fold u = t)) → nodesFrom fold n acc new = nodesFrom fold n pre ws
  | [], acc, pre, new, n, h, _ => by
    simp [makeFrom] at h
    subst h
    simp [nodesFrom]
  | w :: ws, acc, pre, new, n, h, hs => by
    unfold makeFrom at h
    by_cases hw : which fold w acc < 0
    · rw [if_pos hw] at h
      obtain ⟨tl, htl⟩ := makeFrom_prefix fold ws (acc ++ [textF fold w])
      have hnew : new = textF fold w :: tl := by
        have := htl.trans h
        rw [List.append_assoc] at this
        exact (List.append_cancel_left this).symm
      subst hnew
      have ih := nodes_make fold ws (acc ++ [textF fold w]) (pre ++ [w]) tl (n + (w.length - oldOf fold w pre)) htl.symm (fun t => by
        constructor
        · rintro ⟨u, hu, e⟩
          rcases List.mem_append.1 hu with hu | hu
          · obtain ⟨v, hv, e2⟩ := (hs t).1 ⟨u, hu, e⟩
            exact ⟨v, by simp [hv], e2⟩
          · rw [List.mem_singleton] at hu; subst hu
            exact ⟨w, by simp, by rw [← e, textF_idem]⟩
        · rintro ⟨u, hu, e⟩
          rcases List.mem_append.1 hu with hu | hu
          · obtain ⟨v, hv, e2⟩ := (hs t).2 ⟨u, hu, e⟩
            exact ⟨v, by simp [hv], e2⟩
          · rw [List.mem_singleton] at hu; subst hu
            exact ⟨textF fold u, by simp, by rw [textF_idem]; exact e⟩)
      unfold nodesFrom
      rw [oldOf_set fold (textF fold w) w acc pre (textF_idem fold w) hs, textF_length]
      exact ih
    · rw [if_neg hw] at h
      have hex : ∃ u ∈ acc, textF fold u = textF fold w := by
        rcases Classical.em (∃ u ∈ acc, textF fold u = textF fold w) with hx | hx
        · exact hx
        · exact absurd ((which_low fold w acc).2 fun u hu e => hx ⟨u, hu, e.symm⟩) hw
      obtain ⟨v, hv, e2⟩ := (hs _).1 hex
      conv => rhs; unfold nodesFrom
      rw [oldOf_full fold w pre v hv e2.symm, Nat.sub_self, Nat.add_zero]
      exact nodes_make fold ws acc (pre ++ [w]) new n h (fun t => by
        rw [hs t]
        constructor
        · rintro ⟨u, hu, e⟩; exact ⟨u, by simp [hu], e⟩
        · rintro ⟨u, hu, e⟩
          rcases List.mem_append.1 hu with hu | hu
          · exact ⟨u, hu, e⟩
          · rw [List.mem_singleton] at hu; subst hu
            exact ⟨v, hv, e2.trans e⟩)
theorem right_made (fold : Bool) (ls : List (List UInt8)) (h : checkR fold ls = 0) : rightS fold (makeFrom fold [] ls) = true := by
  obtain ⟨h1, h2, h3, h4, h5, h6⟩ := checkR_ok h
  have hd := makeFrom_dis fold ls [] ⟨fun w hw => by simp at hw, by simp⟩
  have hl := makeFrom_len fold ls []
  have hf := make_flat fold ls []
  rw [List.flatten_nil, List.length_nil, Nat.zero_add] at hf
  have hn := nodes_make fold ls [] [] (makeFrom fold [] ls) 1 (by simp) (fun t => Iff.rfl)
  have hm := fun x => mem_make fold ls [] x
  have hne : (makeFrom fold [] ls).length ≠ 0 := by
    cases ls with
    | nil => simp at h1
    | cons w ws =>
      obtain ⟨tl, htl⟩ := makeFrom_prefix fold ws [textF fold w]
      have : makeFrom fold [] (w :: ws) = makeFrom fold [textF fold w] ws := by
        conv => lhs; unfold makeFrom
        rfl
      rw [this, ← htl]
      simp
  have hnodes : nodesR fold (makeFrom fold [] ls) ≤ 400 := by unfold nodesR at h6 ⊢; rw [hn]; exact h6
  have hc : checkR fold (makeFrom fold [] ls) = 0 := by
    unfold checkR
    rw [if_neg hne, if_neg (by simp at hl; omega), if_neg, if_neg, if_neg (by omega), if_neg (by omega)]
    · rintro ⟨x, hx, hx2⟩
      rcases hm x hx with hx3 | ⟨w, hw, e⟩
      · simp at hx3
      · have := h4 w hw
        rw [e, textF_length] at hx2
        omega
    · rintro ⟨x, hx, hx2⟩
      rcases hm x hx with hx3 | ⟨w, hw, e⟩
      · simp at hx3
      · have := h3 w hw
        have hl2 := textF_length fold w
        rw [← e, hx2] at hl2
        exact this (List.eq_nil_of_length_eq_zero hl2.symm)
  unfold rightS
  rw [hc, makeFrom_same fold (makeFrom fold [] ls) [] (by simpa using hd)]
  simp
end Go.Proofs.Ytkbhkadienddmaa.SetM
