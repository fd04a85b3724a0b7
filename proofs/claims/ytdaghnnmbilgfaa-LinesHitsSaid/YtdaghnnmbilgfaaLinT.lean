/- Where hits begin and end, as plain mathematics. -/
import Derived.Test.YtdaghnnmbilgfaaLinS
namespace Go.Proofs.Ytdaghnnmbilgfaa
open Go.RowKit LinM LetM SetM
namespace LinM
def lfs (xs : List UInt8) : Nat := xs.countP fun b => b.toNat == 10
theorem lfs_le (xs : List UInt8) : lfs xs ≤ xs.length := List.countP_le_length
theorem lfs_snoc (xs : List UInt8) (k : Nat) (h : k < xs.length) : lfs (xs.take (k + 1)) = lfs (xs.take k) + if xs[k].toNat = 10 then 1 else 0 := by
  unfold lfs
  rw [List.take_succ_eq_append_getElem h, List.countP_append, List.countP_singleton]
  simp
theorem fold_lf (b : UInt8) : (foldC b).toNat = 10 ↔ b.toNat = 10 := by
  unfold foldC
  split
  · have hb := UInt8.toNat_lt b
    rw [UInt8.toNat_ofNat']
    omega
  · exact Iff.rfl
theorem lfs_folds (xs : List UInt8) : lfs (folds xs) = lfs xs := by
  unfold lfs folds
  rw [List.countP_map]
  apply List.countP_congr
  intro b _
  simp only [Function.comp_apply, beq_iff_eq]
  exact fold_lf b
theorem lfs_same {f : Bool} {a b : List UInt8} (h : sameB f a b = true) (j : Nat) : lfs (a.take j) = lfs (b.take j) := by
  unfold sameB at h
  cases f
  · have : a = b := by simpa using h
    rw [this]
  · have h2 : folds a = folds b := by simpa using h
    have h3 : folds (a.take j) = folds (b.take j) := by
      have := congrArg (List.take j) h2
      unfold folds at *
      rwa [← List.map_take, ← List.map_take] at this
    rw [← lfs_folds, h3, lfs_folds]
theorem countC_lfs (c : Cnt) (xs : List UInt8) : (countC c xs).2.1 = c.2.1 + lfs xs ∧ (lfs xs = 0 → (countC c xs).2.2 = c.2.2 + xs.length) := by
  induction xs generalizing c with
  | nil => simp [countC, lfs]
  | cons b xs ih =>
    have e : countC c (b :: xs) = countC (stepC c b) xs := rfl
    have l : lfs (b :: xs) = lfs xs + if b.toNat = 10 then 1 else 0 := by unfold lfs; rw [List.countP_cons]; simp
    obtain ⟨i1, i2⟩ := ih (stepC c b)
    rw [e, l]
    unfold stepC at *
    by_cases h : b.toNat = 10
    · rw [if_pos h] at i1 i2 ⊢
      rw [if_pos h]
      exact ⟨by rw [i1]; simp only; omega, fun h0 => by omega⟩
    · rw [if_neg h] at i1 i2 ⊢
      rw [if_neg h]
      exact ⟨by rw [i1]; rfl, fun h0 => by rw [i2 (by omega)]; simp only [List.length_cons]; omega⟩
theorem next_take (bs : List UInt8) (k : Nat) (hk : k ≤ bs.length) (hl : bs.length ≤ 1000) : ∃ l s : Int, countC (0, 0, 0) (bs.take k) = ((k : Int), l, s) ∧ nextC (countC (0, 0, 0) (bs.take k)) = (l + 1, s + 1) ∧ 0 ≤ l ∧ l ≤ 1000 ∧ 0 ≤ s ∧ s ≤ 1000 := by
  have hr := countC_right (0, 0, 0) (bs.take k) (by decide) (by rw [List.length_take]; show (0 : Int) + _ ≤ _; omega)
  have ha := countC_at (0, 0, 0) (bs.take k)
  rw [List.length_take, Nat.min_eq_left hk] at ha
  have hri := (rightC_iff _).1 hr
  have hn : nextC (countC (0, 0, 0) (bs.take k)) = ((countC (0, 0, 0) (bs.take k)).2.1 + 1, (countC (0, 0, 0) (bs.take k)).2.2 + 1) := by unfold nextC; rw [hr, if_pos rfl]
  rw [hn]
  generalize countC (0, 0, 0) (bs.take k) = c at *
  obtain ⟨a, l, s⟩ := c
  dsimp only at *
  exact ⟨l, s, by rw [ha]; simp, rfl, by omega, by omega, by omega, by omega⟩
theorem hit_math (f : Bool) (w bs : List UInt8) (fr : Int) (p : Nat) (hp : p ≤ bs.length) (hlen : bs.length ≤ 1000) (hw : w ≠ []) (hst : standsB f bs (p : Int) w = true) :
    ∃ la ca lb cb : Int, placeC bs fr (fr + p) (w.length : Int) = (la, ca) ∧ placeC bs fr (fr + p) 1 = (lb, cb) ∧ 1 ≤ la ∧ la ≤ 1001 ∧ 1 ≤ ca ∧ ca ≤ 1001 ∧ 1 ≤ lb ∧ lb ≤ 1001 ∧ 1 ≤ cb ∧ cb ≤ 1001 ∧ lb - la = (lfs (w.take (w.length - 1)) : Int) ∧ (lfs (w.take (w.length - 1)) = 0 → cb - ca = (w.length : Int) - 1) := by
  have hm : 0 < w.length := List.length_pos_iff.2 hw
  unfold standsB at hst
  simp only [Bool.and_eq_true, decide_eq_true_eq] at hst
  obtain ⟨⟨h1, h2⟩, h3⟩ := hst
  have h1' : w.length ≤ p := by omega
  rw [Int.toNat_natCast] at h3
  have e0 : placeC bs fr (fr + p) (w.length : Int) = nextC (countC (0, 0, 0) (bs.take (p - w.length))) := by
    unfold placeC ofC
    rw [if_neg (by omega), show fr + (p : Int) - fr - (w.length : Int) = ((p - w.length : Nat) : Int) by omega, if_neg (by omega), Int.toNat_natCast]
  have e1 : placeC bs fr (fr + p) 1 = nextC (countC (0, 0, 0) (bs.take (p - 1))) := by
    unfold placeC ofC
    rw [if_neg (by omega), show fr + (p : Int) - fr - 1 = ((p - 1 : Nat) : Int) by omega, if_neg (by omega), Int.toNat_natCast]
  obtain ⟨l0, s0, c0, n0, b0⟩ := next_take bs (p - w.length) (by omega) hlen
  obtain ⟨l1, s1, c1, n1, b1⟩ := next_take bs (p - 1) (by omega) hlen
  have hseg : bs.take (p - 1) = bs.take (p - w.length) ++ ((bs.take p).drop (p - w.length)).take (w.length - 1) := by
    have hd := List.take_append_drop (p - w.length) (bs.take (p - 1))
    rw [List.take_take, Nat.min_eq_left (by omega)] at hd
    rw [← hd]
    congr 1
    rw [List.drop_take, List.drop_take, List.take_take]
    congr 1
    omega
  have hlf := lfs_same h3 (w.length - 1)
  have hsl : (((bs.take p).drop (p - w.length)).take (w.length - 1)).length = w.length - 1 := by simp; omega
  obtain ⟨k1, k2⟩ := countC_lfs ((((p - w.length : Nat) : Int)), l0, s0) (((bs.take p).drop (p - w.length)).take (w.length - 1))
  rw [← c0, ← countC_append, ← hseg, c1, c0, hlf] at k1
  rw [← c0, ← countC_append, ← hseg, c1, c0, hlf, hsl] at k2
  dsimp only at k1 k2
  refine ⟨_, _, _, _, e0.trans n0, e1.trans n1, by omega, by omega, by omega, by omega, by omega, by omega, by omega, by omega, by omega, fun h => ?_⟩
  have := k2 h
  omega
end LinM
end Go.Proofs.Ytdaghnnmbilgfaa
