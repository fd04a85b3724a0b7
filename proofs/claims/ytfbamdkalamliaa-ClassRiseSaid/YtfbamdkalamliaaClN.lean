/- What the classes of bytes are: laws without a program. -/
import Derived.Test.YtfbamdkalamliaaClM
namespace Go.Proofs.Ytfbamdkalamliaa
open Go.RowKit LetM SetM
def fsB (f : Bool) (i : Nat) : Bool := f && smallB i
structure CInv (f : Bool) (h : Nat → Bool) (n : Nat) : Prop where
  none : ∀ j, j < n → h j = false → (cRun f h n).1 j = 0
  some : ∀ j, j < n → h j = true → 1 ≤ (cRun f h n).1 j ∧ (cRun f h n).1 j < (cRun f h n).2
  twin : ∀ j, j < n → h j = true → fsB f j = true → (cRun f h n).1 j = (cRun f h n).1 (j - 32)
  rise : ∀ i j, i < j → j < n → h i = true → h j = true → fsB f i = false → fsB f j = false → (cRun f h n).1 i < (cRun f h n).1 j
  many : 1 ≤ (cRun f h n).2
  full : ∀ k : Int, 1 ≤ k → k < (cRun f h n).2 → ∃ j, j < n ∧ h j = true ∧ fsB f j = false ∧ (cRun f h n).1 j = k
theorem fsB_le {f : Bool} {i : Nat} (h : fsB f i = true) : 97 ≤ i ∧ i ≤ 122 := by unfold fsB smallB at h; simp at h; exact h.2
theorem fsB_32 {f : Bool} {i : Nat} (h : fsB f i = true) : fsB f (i - 32) = false := by
  have := fsB_le h
  unfold fsB smallB
  rw [show decide (97 ≤ i - 32) = false from decide_eq_false (by omega)]
  simp
theorem cInv (f : Bool) (h : Nat → Bool) (hc : ∀ i, fsB f i = true → h i = true → h (i - 32) = true) : ∀ n, CInv f h n
  | 0 => ⟨fun j hj => absurd hj (by omega), fun j hj => absurd hj (by omega), fun j hj => absurd hj (by omega), fun i j _ hj => absurd hj (by omega), by unfold cRun; simp, fun k h1 h2 => by unfold cRun at h2; simp at h2; omega⟩
  | n + 1 => by
    obtain ⟨i1, i2, i3, i4, i5, i6⟩ := cInv f h hc n
    have hs := cRun_succ f h n
    generalize hst : cRun f h n = st at *
    obtain ⟨c, m⟩ := st
    dsimp only at *
    unfold cStep at hs
    by_cases hh : h n = false
    · rw [if_pos hh] at hs
      have hno : ∀ j, j < n + 1 → h j = true → j < n := fun j hj hjh => by
        rcases Nat.lt_or_ge j n with h1 | h1
        · exact h1
        · obtain rfl : j = n := by omega
          rw [hh] at hjh; cases hjh
      have h0 : c n = 0 := by
        have : ∀ k, (cRun f h k).1 k = 0 → True := fun _ _ => trivial
        have key : ∀ k j, k ≤ j → (cRun f h k).1 j = 0 := by
          intro k
          induction k with
          | zero => intro j _; unfold cRun; simp
          | succ k ih =>
            intro j hj
            rw [cRun_succ]
            have := ih j (by omega)
            unfold cStep
            split
            · exact this
            · split
              · show (if j = k then _ else _) = _; rw [if_neg (by omega)]; exact this
              · show (if j = k then _ else _) = _; rw [if_neg (by omega)]; exact this
        have := key n n (Nat.le_refl _)
        rw [hst] at this; exact this
      refine ⟨fun j hj hjh => ?_, fun j hj hjh => ?_, fun j hj hjh hjs => ?_, fun i j hij hj hih hjh his hjs => ?_, ?_, fun k h1 h2 => ?_⟩
      · rw [hs]
        rcases Nat.lt_or_ge j n with h1 | h1
        · exact i1 j h1 hjh
        · obtain rfl : j = n := by omega
          exact h0
      · rw [hs]; exact i2 j (hno j hj hjh) hjh
      · rw [hs]; exact i3 j (hno j hj hjh) hjh hjs
      · rw [hs]; exact i4 i j hij (hno j hj hjh) hih hjh his hjs
      · rw [hs]; exact i5
      · rw [hs] at h2 ⊢
        obtain ⟨j, h3, h4⟩ := i6 k h1 h2
        exact ⟨j, by omega, h4⟩
    · have hh : h n = true := by simpa using hh
      rw [hh, if_neg (by simp)] at hs
      by_cases hf : fsB f n = true
      · have hf' : (f && smallB n) = true := hf
        rw [if_pos hf'] at hs
        have hle := fsB_le hf
        have h32 := hc n hf hh
        have e0 : (cRun f h (n + 1)).1 n = c (n - 32) := by rw [hs]; show (if n = n then _ else _) = _; rw [if_pos rfl]
        have e1 : ∀ j, j < n → (cRun f h (n + 1)).1 j = c j := fun j hj => by rw [hs]; show (if j = n then _ else _) = _; rw [if_neg (by omega)]
        have e2 : (cRun f h (n + 1)).2 = m := by rw [hs]
        have hcase : ∀ j, j < n + 1 → j < n ∨ j = n := fun j hj => by omega
        refine ⟨fun j hj hjh => ?_, fun j hj hjh => ?_, fun j hj hjh hjs => ?_, fun i j hij hj hih hjh his hjs => ?_, by rw [e2]; exact i5, fun k h1 h2 => ?_⟩
        · rcases hcase j hj with h1 | rfl
          · rw [e1 j h1]; exact i1 j h1 hjh
          · rw [hh] at hjh; cases hjh
        · rcases hcase j hj with h1 | rfl
          · rw [e1 j h1, e2]; exact i2 j h1 hjh
          · rw [e0, e2]; exact i2 _ (by omega) h32
        · rcases hcase j hj with h1 | rfl
          · rw [e1 j h1, e1 _ (by omega)]; exact i3 j h1 hjh hjs
          · rw [e0, e1 _ (by omega)]
        · rcases hcase j hj with h1 | rfl
          · rw [e1 j h1, e1 i (by omega)]; exact i4 i j hij h1 hih hjh his hjs
          · rw [hf] at hjs; cases hjs
        · rw [e2] at h2
          obtain ⟨j, h3, h4, h5, h6⟩ := i6 k h1 h2
          exact ⟨j, by omega, h4, h5, by rw [e1 j h3]; exact h6⟩
      · have hf0 : fsB f n = false := by simpa using hf
        have hf' : (f && smallB n) = false := hf0
        rw [hf', if_neg (by simp)] at hs
        have e0 : (cRun f h (n + 1)).1 n = m := by rw [hs]; show (if n = n then _ else _) = _; rw [if_pos rfl]
        have e1 : ∀ j, j < n → (cRun f h (n + 1)).1 j = c j := fun j hj => by rw [hs]; show (if j = n then _ else _) = _; rw [if_neg (by omega)]
        have e2 : (cRun f h (n + 1)).2 = m + 1 := by rw [hs]
        have hcase : ∀ j, j < n + 1 → j < n ∨ j = n := fun j hj => by omega
        refine ⟨fun j hj hjh => ?_, fun j hj hjh => ?_, fun j hj hjh hjs => ?_, fun i j hij hj hih hjh his hjs => ?_, by rw [e2]; omega, fun k h1 h2 => ?_⟩
        · rcases hcase j hj with h1 | rfl
          · rw [e1 j h1]; exact i1 j h1 hjh
          · rw [hh] at hjh; cases hjh
        · rcases hcase j hj with h1 | rfl
          · rw [e1 j h1, e2]; have := i2 j h1 hjh; omega
          · rw [e0, e2]; omega
        · rcases hcase j hj with h1 | rfl
          · rw [e1 j h1, e1 _ (by omega)]; exact i3 j h1 hjh hjs
          · rw [hf0] at hjs; cases hjs
        · rcases hcase j hj with h1 | rfl
          · rw [e1 j h1, e1 i (by omega)]; exact i4 i j hij h1 hih hjh his hjs
          · rw [e0, e1 i (by omega)]; exact (i2 i (by omega) hih).2
        · rw [e2] at h2
          by_cases hk : k = m
          · exact ⟨n, by omega, hh, hf0, by rw [e0, hk]⟩
          · obtain ⟨j, h3, h4, h5, h6⟩ := i6 k h1 (by omega)
            exact ⟨j, by omega, h4, h5, by rw [e1 j h3]; exact h6⟩
/-- The byte that stands for a byte's class. -/
def repB (f : Bool) (i : Nat) : Nat := if fsB f i = true then i - 32 else i
theorem repB_no (f : Bool) (i : Nat) : fsB f (repB f i) = false := by
  unfold repB
  split
  · exact fsB_32 (by assumption)
  · rename_i h; simpa using h
theorem repB_le (f : Bool) (i : Nat) : repB f i ≤ i := by unfold repB; split <;> omega
section
variable {f : Bool} {h : Nat → Bool} (hc : ∀ i, fsB f i = true → h i = true → h (i - 32) = true)
include hc
theorem rep_h {i : Nat} (hi : h i = true) : h (repB f i) = true := by
  unfold repB
  split
  · exact hc i (by assumption) hi
  · exact hi
theorem rep_cls {n i : Nat} (hi : i < n) (hh : h i = true) : (cRun f h n).1 (repB f i) = (cRun f h n).1 i := by
  unfold repB
  split
  · exact ((cInv f h hc n).twin i hi hh (by assumption)).symm
  · rfl
/-- Two bytes that stand in words have one class just if one byte stands for both. -/
theorem cls_eq {n i j : Nat} (hi : i < n) (hj : j < n) (hhi : h i = true) (hhj : h j = true) : (cRun f h n).1 i = (cRun f h n).1 j ↔ repB f i = repB f j := by
  rw [← rep_cls hc hi hhi, ← rep_cls hc hj hhj]
  constructor
  · intro e
    have h1 := repB_le f i
    have h2 := repB_le f j
    rcases Nat.lt_trichotomy (repB f i) (repB f j) with hl | hl | hl
    · have := (cInv f h hc n).rise _ _ hl (by omega) (rep_h hc hhi) (rep_h hc hhj) (repB_no f i) (repB_no f j)
      omega
    · exact hl
    · have := (cInv f h hc n).rise _ _ hl (by omega) (rep_h hc hhj) (rep_h hc hhi) (repB_no f j) (repB_no f i)
      omega
  · intro e; rw [e]
theorem cls_zero {n i : Nat} (hi : i < n) : (cRun f h n).1 i = 0 ↔ h i = false := by
  constructor
  · intro e
    cases hh : h i
    · rfl
    · have := ((cInv f h hc n).some i hi hh).1; omega
  · exact (cInv f h hc n).none i hi
theorem cls_range {n i : Nat} (hi : i < n) : 0 ≤ (cRun f h n).1 i ∧ (cRun f h n).1 i < (cRun f h n).2 := by
  cases hh : h i
  · rw [(cInv f h hc n).none i hi hh]; have := (cInv f h hc n).many; omega
  · have := (cInv f h hc n).some i hi hh; omega
end
theorem hasB_twin {f : Bool} {bs : List UInt8} {i : Nat} (hi : fsB f i = true) (hh : hasB f bs i = true) : hasB f bs (i - 32) = true := by
  have hle := fsB_le hi
  unfold fsB at hi
  simp only [Bool.and_eq_true] at hi
  obtain ⟨rfl, hs⟩ := hi
  unfold hasB at *
  rw [List.any_eq_true] at *
  obtain ⟨c, hc, h⟩ := hh
  simp only [Bool.true_and, Bool.or_eq_true, Bool.and_eq_true, beq_iff_eq] at h
  refine ⟨c, hc, ?_⟩
  rcases h with h | ⟨h1, h2⟩
  · have hs' := hs
    rw [h] at hs'
    simp only [Bool.true_and, Bool.or_eq_true, Bool.and_eq_true, beq_iff_eq]
    exact .inr ⟨hs', by omega⟩
  · unfold smallB at h1; simp at h1; omega
/-- Which bytes are the same, by what stands for them. -/
theorem same_rep (f : Bool) {i j : Nat} (hi : i < 256) (hj : j < 256) : sameB f [UInt8.ofNat i] [UInt8.ofNat j] = decide (repB f i = repB f j) := by
  have e1 := byte_toNat hi
  have e2 := byte_toNat hj
  rw [Bool.eq_iff_iff, decide_eq_true_eq]
  cases f
  · unfold sameB repB fsB
    simp only [Bool.false_and, Bool.false_eq_true, if_false, decide_eq_true_eq, List.cons.injEq, and_true]
    constructor
    · intro e; have := congrArg UInt8.toNat e; omega
    · intro e; rw [e]
  · unfold sameB folds repB fsB smallB
    simp only [Bool.true_and, if_true, decide_eq_true_eq, List.map_cons, List.map_nil, List.cons.injEq, and_true, Bool.and_eq_true]
    unfold foldC
    rw [e1, e2]
    constructor
    · intro e
      have e := congrArg UInt8.toNat e
      by_cases h1 : 65 ≤ i ∧ i ≤ 90 <;> by_cases h2 : 65 ≤ j ∧ j ≤ 90
      · rw [if_pos h1, if_pos h2, UInt8.toNat_ofNat', UInt8.toNat_ofNat'] at e
        rw [if_neg (by omega), if_neg (by omega)]; omega
      · rw [if_pos h1, if_neg h2, UInt8.toNat_ofNat', e2] at e
        rw [if_neg (by omega), if_pos (by omega)]; omega
      · rw [if_neg h1, if_pos h2, e1, UInt8.toNat_ofNat'] at e
        rw [if_pos (by omega), if_neg (by omega)]; omega
      · rw [if_neg h1, if_neg h2, e1, e2] at e
        rw [e]
    · intro e
      by_cases h1 : 97 ≤ i ∧ i ≤ 122 <;> by_cases h2 : 97 ≤ j ∧ j ≤ 122
      · rw [if_pos h1, if_pos h2] at e
        rw [show i = j by omega]
      · rw [if_pos h1, if_neg h2] at e
        rw [if_neg (by omega), if_pos (by omega)]
        apply UInt8.toNat_inj.1; rw [e1, UInt8.toNat_ofNat']; omega
      · rw [if_neg h1, if_pos h2] at e
        rw [if_pos (by omega), if_neg (by omega)]
        apply UInt8.toNat_inj.1; rw [e2, UInt8.toNat_ofNat']; omega
      · rw [if_neg h1, if_neg h2] at e
        rw [e]
theorem hasB_any {f : Bool} {ws : List (List UInt8)} (hr : rightS f ws = true) (x : UInt8) : hasB f ws.flatten x.toNat = ws.flatten.any fun c => sameB f [c] [x] := by
  rw [hasB_hR (fun hf => by subst hf; exact right_clean hr) (UInt8.toNat_lt x)]
  unfold hR inR
  rw [UInt8.ofNat_toNat]
theorem same_cls {f : Bool} {ws : List (List UInt8)} (hr : rightS f ws = true) {x y : UInt8} (e : (cRun f (hasB f ws.flatten) 256).1 x.toNat = (cRun f (hasB f ws.flatten) 256).1 y.toNat) : ∀ c ∈ ws.flatten, sameB f [x] [c] = sameB f [y] [c] := by
  intro c hc
  have htw := fun i hi hh => hasB_twin (f := f) (bs := ws.flatten) (i := i) hi hh
  have hx := UInt8.toNat_lt x
  have hy := UInt8.toNat_lt y
  cases hh : hasB f ws.flatten x.toNat
  · have h0 := (cls_zero htw hx).2 hh
    rw [h0] at e
    have hh2 := (cls_zero htw hy).1 e.symm
    rw [hasB_any hr, List.any_eq_false] at hh hh2
    have h1 := hh c hc
    have h2 := hh2 c hc
    rw [sameB_symm] at h1 h2
    rw [Bool.eq_false_iff.2 h1, Bool.eq_false_iff.2 h2]
  · cases hh2 : hasB f ws.flatten y.toNat
    · have h0 := (cls_zero htw hy).2 hh2
      rw [h0] at e
      have := (cls_zero htw hx).1 e
      rw [hh] at this; cases this
    · have hrep := (cls_eq htw hx hy hh hh2).1 e
      have e1 := same_rep f hx (UInt8.toNat_lt c)
      have e2 := same_rep f hy (UInt8.toNat_lt c)
      rw [UInt8.ofNat_toNat, UInt8.ofNat_toNat] at e1 e2
      rw [e1, e2, hrep]
theorem sameB_one (f : Bool) (x y : UInt8) : sameB f [x] [y] = eqC f x y := by rw [sameB_cons, sameB_nil, Bool.and_true]
theorem sameB_like (f : Bool) : ∀ (w xs ys : List UInt8), xs.length = ys.length → (∀ i (h1 : i < xs.length) (h2 : i < ys.length), ∀ c ∈ w, sameB f [xs[i]] [c] = sameB f [ys[i]] [c]) → sameB f xs w = sameB f ys w
  | [], [], [], _, _ => rfl
  | [], x :: xs, y :: ys, _, _ => by
    rw [Bool.eq_iff_iff]
    exact ⟨fun h => by have := sameB_length h; simp at this, fun h => by have := sameB_length h; simp at this⟩
  | c :: w, [], [], _, _ => rfl
  | c :: w, x :: xs, y :: ys, hl, h => by
    rw [sameB_cons, sameB_cons, sameB_like f w xs ys (by simpa using hl) (fun i h1 h2 d hd => by
      have := h (i + 1) (by simpa using h1) (by simpa using h2) d (by simp [hd])
      simpa using this)]
    have := h 0 (by simp) (by simp) c (by simp)
    simp only [List.getElem_cons_zero] at this
    rw [sameB_one, sameB_one] at this
    rw [this]
  | _, [], y :: ys, hl, _ => by simp at hl
  | _, x :: xs, [], hl, _ => by simp at hl
theorem stands_like {f : Bool} {text : List UInt8} {p : Nat} (hp : p < text.length) {b : UInt8} {w : List UInt8} (h : ∀ c ∈ w, sameB f [text[p]] [c] = sameB f [b] [c]) (k : Int) : standsB f text k w = standsB f (text.set p b) k w := by
  unfold standsB
  rw [List.length_set]
  congr 1
  refine sameB_like f w _ _ (by simp) fun i h1 h2 c hc => ?_
  rw [List.getElem_drop, List.getElem_drop, List.getElem_take, List.getElem_take, List.getElem_set]
  split
  · rename_i e
    subst e
    exact h c hc
  · rfl
theorem stands_cls {f : Bool} {ws : List (List UInt8)} (hr : rightS f ws = true) {text : List UInt8} {p : Nat} (hp : p < text.length) {b : UInt8} (e : (cRun f (hasB f ws.flatten) 256).1 text[p].toNat = (cRun f (hasB f ws.flatten) 256).1 b.toNat) {w : List UInt8} (hw : w ∈ ws) (k : Int) : standsB f text k w = standsB f (text.set p b) k w :=
  stands_like hp (fun c hc => same_cls hr e c (List.mem_flatten.2 ⟨w, hw, hc⟩)) k
end Go.Proofs.Ytfbamdkalamliaa
