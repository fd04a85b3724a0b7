/- Lines counted, as plain mathematics. -/
namespace Go.Proofs.Ytdaghnnmbilgfaa.LinM
/-- A count: bytes, lines ended, bytes since. -/
abbrev Cnt := Int × Int × Int
def rightC (c : Cnt) : Bool := if c.1 < 0 ∨ 2147483647 < c.1 then false else if c.2.1 = 0 then decide (c.2.2 = c.1) else decide (1 ≤ c.2.1) && decide (c.2.1 ≤ c.1) && decide (0 ≤ c.2.2) && decide (c.2.2 ≤ c.1 - c.2.1)
def stepC (c : Cnt) (b : UInt8) : Cnt := if b.toNat = 10 then (c.1 + 1, c.2.1 + 1, 0) else (c.1 + 1, c.2.1, c.2.2 + 1)
def countC (c : Cnt) (bs : List UInt8) : Cnt := bs.foldl stepC c
def nextC (c : Cnt) : Int × Int := if rightC c then (c.2.1 + 1, c.2.2 + 1) else (0, 0)
def feedC (c : Cnt) (bs : List UInt8) : Cnt × Int := if rightC c ∧ c.1 + bs.length ≤ 2147483647 then (countC c bs, 0) else (c, 2)
def ofC (text : List UInt8) (at_ : Int) : (Int × Int) × Bool := if at_ < 0 ∨ (text.length : Int) ≤ at_ then ((0, 0), false) else (nextC (countC (0, 0, 0) (text.take at_.toNat)), true)
theorem rightC_iff (c : Cnt) : rightC c = true ↔ 0 ≤ c.1 ∧ c.1 ≤ 2147483647 ∧ ((c.2.1 = 0 ∧ c.2.2 = c.1) ∨ (1 ≤ c.2.1 ∧ c.2.1 ≤ c.1 ∧ 0 ≤ c.2.2 ∧ c.2.2 ≤ c.1 - c.2.1)) := by
  unfold rightC
  split
  · simp; omega
  · split
    · simp; omega
    · simp; omega
theorem countC_append (c : Cnt) (xs ys : List UInt8) : countC c (xs ++ ys) = countC (countC c xs) ys := by unfold countC; rw [List.foldl_append]
theorem countC_snoc (c : Cnt) (xs : List UInt8) (b : UInt8) : countC c (xs ++ [b]) = stepC (countC c xs) b := by rw [countC_append]; rfl
theorem countC_at (c : Cnt) (bs : List UInt8) : (countC c bs).1 = c.1 + bs.length := by
  induction bs generalizing c with
  | nil => simp [countC]
  | cons b bs ih =>
    show (countC (stepC c b) bs).1 = _
    rw [ih]
    unfold stepC
    split <;> simp <;> omega
theorem stepC_right (c : Cnt) (b : UInt8) (h : rightC c = true) (hm : c.1 < 2147483647) : rightC (stepC c b) = true := by
  rw [rightC_iff] at h ⊢
  unfold stepC
  split
  · simp only; omega
  · simp only; omega
theorem countC_right (c : Cnt) (bs : List UInt8) (h : rightC c = true) (hm : c.1 + bs.length ≤ 2147483647) : rightC (countC c bs) = true := by
  induction bs generalizing c with
  | nil => exact h
  | cons b bs ih =>
    have h1 : (stepC c b).1 = c.1 + 1 := by unfold stepC; split <;> rfl
    simp at hm
    exact ih _ (stepC_right c b h (by omega)) (by rw [h1]; omega)
end Go.Proofs.Ytdaghnnmbilgfaa.LinM
