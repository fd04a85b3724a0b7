/- A region that draws, of many operations: the same law by a cheaper check. -/
import Derived.Test.YtggjkhldknppkaaV
namespace Go.Proofs.Ytggjkhldknppkaa
open Go.RowKit
def markStep (j : Nat) (acc : Array Bool) (o : Oper) : Array Bool := acc.push (acc.size == j || o.after.toList.any fun e => Region.binds .any e && acc.getD e.on false)
theorem markFold (j : Nat) : ∀ (l : List Oper) (acc : Array Bool), (l.foldl (markStep j) acc).size = acc.size + l.length ∧ ∀ i, i < acc.size → (l.foldl (markStep j) acc).getD i false = acc.getD i false
  | [], acc => ⟨by simp, fun i _ => rfl⟩
  | o :: l, acc => by
    obtain ⟨h1, h2⟩ := markFold j l (markStep j acc o)
    have hs : (markStep j acc o).size = acc.size + 1 := by simp [markStep]
    rw [List.foldl_cons]
    refine ⟨by rw [h1, hs, List.length_cons]; omega, fun i hi => ?_⟩
    rw [h2 i (by omega)]
    unfold markStep
    simp only [Array.getD_eq_getD_getElem?]
    rw [Array.getElem?_push, if_neg (by omega)]
theorem mark_at (j : Nat) (l : List Oper) (k : Nat) (o : Oper) (h : l[k]? = some o) : (marks j l).getD k false = (k == j || o.after.toList.any fun e => Region.binds .any e && (marks j (l.take k)).getD e.on false) := by
  have hk := (List.getElem?_eq_some_iff.1 h).1
  have e : l = l.take k ++ o :: l.drop (k + 1) := by
    rw [← (List.getElem?_eq_some_iff.1 h).2, ← List.drop_eq_getElem_cons hk, List.take_append_drop]
  obtain ⟨s1, _⟩ := markFold j (l.take k) #[]
  have hsz : ((l.take k).foldl (markStep j) #[]).size = k := by rw [s1]; simp; omega
  have hm : marks j l = l.foldl (markStep j) #[] := rfl
  have hm2 : marks j (l.take k) = (l.take k).foldl (markStep j) #[] := rfl
  rw [hm, hm2]
  conv => lhs; rw [e, List.foldl_append, List.foldl_cons]
  generalize (l.take k).foldl (markStep j) #[] = acc at *
  obtain ⟨_, s2⟩ := markFold j (l.drop (k + 1)) (markStep j acc o)
  have hs3 : (markStep j acc o).size = k + 1 := by unfold markStep; rw [Array.size_push, hsz]
  rw [s2 k (by omega)]
  have hl : markStep j acc o = acc.push (acc.size == j || o.after.toList.any fun e => Region.binds .any e && acc.getD e.on false) := rfl
  rw [hl, Array.getD_eq_getD_getElem?, Array.getElem?_push, if_pos hsz.symm, Option.getD_some, hsz]
theorem mark_self (j : Nat) (l : List Oper) (h : j < l.length) : (marks j l).getD j false = true := by
  rw [mark_at j l j l[j] (List.getElem?_eq_getElem h)]
  simp
theorem mark_direct (j k : Nat) (l : List Oper) (o : Oper) (hk : l[k]? = some o) (hj : j < k) (e : Edge) (he : e ∈ o.after) (hb : Region.binds .any e = true) (ho : e.on = j) : (marks j l).getD k false = true := by
  have hkl := (List.getElem?_eq_some_iff.1 hk).1
  rw [mark_at j l k o hk, Bool.or_eq_true]
  refine .inr (List.any_eq_true.2 ⟨e, Array.mem_toList_iff.2 he, ?_⟩)
  rw [hb, ho, mark_self j (l.take k) (by rw [List.length_take]; omega)]
  rfl
def directB (ops : Array Oper) (k j : Nat) : Bool := match ops[k]? with
  | some o => o.after.toList.any fun e => Region.binds .any e && e.on == j
  | none => true
/-- Each operation behind the first m waits for all ahead of it, by an edge of its own. -/
def tailB2 (ops : Array Oper) (m : Nat) (fl : List Nat) : Bool := (List.range ops.size).all fun j => fl.contains j || (List.range' m (ops.size - m)).all fun k => decide (k ≤ j) || directB ops k j
theorem tailB2_tailB {ops : Array Oper} {m : Nat} {fl : List Nat} (h : tailB2 ops m fl = true) : tailB ops m fl = true := by
  unfold tailB
  rw [List.all_eq_true]
  intro j hj
  have h1 := List.all_eq_true.1 h j hj
  rw [Bool.or_eq_true] at h1 ⊢
  rcases h1 with h1 | h1
  · exact .inl h1
  · refine .inr (List.all_eq_true.2 fun k hk => ?_)
    rw [Bool.or_eq_true, Bool.or_eq_true]
    by_cases hm : k < m
    · exact .inl (.inl (decide_eq_true hm))
    by_cases hkj : k ≤ j
    · exact .inl (.inr (decide_eq_true hkj))
    right
    have hks : k < ops.size := List.mem_range.1 hk
    have h2 := List.all_eq_true.1 h1 k (by rw [List.mem_range'_1]; omega)
    rw [Bool.or_eq_true] at h2
    rcases h2 with h2 | h2
    · exact absurd (of_decide_eq_true h2) hkj
    · have hko : ops[k]? = some ops[k] := Array.getElem?_eq_getElem hks
      unfold directB at h2
      rw [hko] at h2
      obtain ⟨e, he, hb⟩ := List.any_eq_true.1 h2
      rw [Bool.and_eq_true, beq_iff_eq] at hb
      exact mark_direct j k ops.toList ops[k] (by simp) (by omega) e (Array.mem_toList_iff.1 he) hb.1 hb.2
def dsts (l : List Oper) : List Nat := l.filterMap (·.dst)
def nodupB : List Nat → Bool
  | [] => true
  | x :: l => l.all (fun y => y != x) && nodupB l
def dstB2 (ops : Array Oper) (m n : Nat) : Bool := (dsts (ops.toList.take m)).all (fun d => decide (d < n)) && nodupB (dsts (ops.toList.take m))
theorem nodup_apart : ∀ (l : List Oper), nodupB (dsts l) = true → ∀ (i j : Nat) (d : Nat), i < j → (l[i]?).bind (·.dst) = some d → (l[j]?).bind (·.dst) ≠ some d
  | [], _, i, j, d, _, h, _ => by simp at h
  | o :: l, h, 0, j + 1, d, _, h1, h2 => by
    have h3 : o.dst = some d := by simpa using h1
    have h4 : dsts (o :: l) = d :: dsts l := by unfold dsts; rw [List.filterMap_cons, h3]
    rw [h4] at h
    unfold nodupB at h
    rw [Bool.and_eq_true, List.all_eq_true] at h
    rw [List.getElem?_cons_succ] at h2
    obtain ⟨o2, h5, h6⟩ := Option.bind_eq_some_iff.1 h2
    have hm : d ∈ dsts l := List.mem_filterMap.2 ⟨o2, List.mem_of_getElem? h5, h6⟩
    have := h.1 d hm
    simp at this
  | o :: l, h, i + 1, j + 1, d, hij, h1, h2 => by
    have h' : nodupB (dsts l) = true := by
      unfold dsts at h ⊢
      rw [List.filterMap_cons] at h
      cases ho : o.dst with
      | none => rw [ho] at h; exact h
      | some x =>
        rw [ho] at h
        unfold nodupB at h
        rw [Bool.and_eq_true] at h
        exact h.2
    exact nodup_apart l h' i j d (by omega) (by simpa using h1) (by simpa using h2)
theorem dstB2_dstB {ops : Array Oper} {m n : Nat} (h : dstB2 ops m n = true) : dstB ops m n = true := by
  unfold dstB2 at h
  rw [Bool.and_eq_true, List.all_eq_true] at h
  obtain ⟨h1, h2⟩ := h
  have key : ∀ i d, i < m → dstOf ops i = some d → ((ops.toList.take m)[i]?).bind (·.dst) = some d := fun i d hi hd => by
    rw [List.getElem?_take, if_pos hi, Array.getElem?_toList]
    exact hd
  unfold dstB
  rw [List.all_eq_true]
  intro i hi
  have hi' := List.mem_range.1 hi
  cases hd : dstOf ops i with
  | none => rfl
  | some d =>
    dsimp only
    have k1 := key i d hi' hd
    obtain ⟨o, k2, k3⟩ := Option.bind_eq_some_iff.1 k1
    rw [Bool.and_eq_true, List.all_eq_true]
    refine ⟨h1 d (List.mem_filterMap.2 ⟨o, List.mem_of_getElem? k2, k3⟩), fun j hj => ?_⟩
    have hj' := List.mem_range.1 hj
    rw [Bool.or_eq_true, beq_iff_eq, bne_iff_ne]
    by_cases e : i = j
    · exact .inl e
    · right
      intro hd2
      have k4 := key j d hj' hd2
      rcases Nat.lt_or_gt_of_ne e with hlt | hlt
      · exact nodup_apart _ h2 i j d hlt k1 k4
      · exact nodup_apart _ h2 j i d hlt k4 k1
def preB2 (ops : Array Oper) (m n : Nat) (fl : List Nat) : Bool := decide (m ≤ ops.size) && fwdB ops && tailB2 ops m fl && dstB2 ops m n && freeB ops m fl && Region.noSelect ops
theorem preB_of2 {ops : Array Oper} {m n : Nat} {fl : List Nat} (h : preB2 ops m n fl = true) : preB ops m n fl = true := by
  unfold preB2 at h
  unfold preB
  simp only [Bool.and_eq_true] at h ⊢
  obtain ⟨⟨⟨⟨⟨h1, h2⟩, h3⟩, h4⟩, h5⟩, h6⟩ := h
  exact ⟨⟨⟨⟨⟨h1, h2⟩, tailB2_tailB h3⟩, dstB2_dstB h4⟩, h5⟩, h6⟩
end Go.Proofs.Ytggjkhldknppkaa
