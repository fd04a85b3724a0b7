/- Numbers in bytes, seven bits a byte, as plain mathematics: no program in sight. -/
namespace Go.Proofs.Ytggjkhldknppkaa.DigM

def most : Nat := 2147483647
def putN (n : Nat) : List UInt8 := if _h : n < 128 then [UInt8.ofNat n] else UInt8.ofNat (128 + n % 128) :: putN (n / 128)
termination_by n
decreasing_by omega
theorem putN_lo {n : Nat} (h : n < 128) : putN n = [UInt8.ofNat n] := by rw [putN, dif_pos h]
theorem putN_hi {n : Nat} (h : 128 ≤ n) : putN n = UInt8.ofNat (128 + n % 128) :: putN (n / 128) := by rw [putN, dif_neg (by omega)]
theorem putN_pos (n : Nat) : 0 < (putN n).length := by
  by_cases h : n < 128
  · rw [putN_lo h]; simp
  · rw [putN_hi (by omega)]; simp
theorem putN_len : ∀ (k n : Nat), n < 128 ^ k → 0 < k → (putN n).length ≤ k
  | 0, _, _, h => by omega
  | k + 1, n, hn, _ => by
    by_cases h : n < 128
    · rw [putN_lo h]; simp
    · rw [putN_hi (by omega), List.length_cons]
      have hk : 0 < k := by
        rcases Nat.eq_zero_or_pos k with rfl | h1
        · simp at hn; omega
        · exact h1
      have := putN_len k (n / 128) (by rw [Nat.pow_succ] at hn; omega) hk
      omega
theorem putN_most {n : Nat} (h : n ≤ most) : (putN n).length ≤ 5 := putN_len 5 n (by unfold most at h; omega) (by omega)

/-- What is taken: the number, what stands behind it, the error. -/
def takeF (i n : Nat) : List UInt8 → Nat × List UInt8 × Int
  | [] => (0, [], 10)
  | c :: cs =>
    if 5 ≤ i ∨ most < n + c.toNat % 128 * 128 ^ i then (0, [], 11)
    else if 128 ≤ c.toNat then takeF (i + 1) (n + c.toNat % 128 * 128 ^ i) cs
    else if c.toNat = 0 ∧ 0 < i then (0, [], 12)
    else (n + c.toNat % 128 * 128 ^ i, cs, 0)
def takeN (bs : List UInt8) : Nat × List UInt8 × Int := takeF 0 0 bs
def takesF : Nat → List UInt8 → List Int × List UInt8 × Int
  | 0, bs => ([], bs, 0)
  | k + 1, bs => let r := takeN bs
    if r.2.2 ≠ 0 then ([], [], r.2.2) else let q := takesF k r.2.1
    if q.2.2 ≠ 0 then ([], [], q.2.2) else ((r.1 : Int) :: q.1, q.2.1, 0)
def takes (many : Int) (bs : List UInt8) : List Int × List UInt8 × Int := if many < 0 then ([], [], 2) else takesF many.toNat bs

/-- What puts gives: bytes, and the error. -/
def mayB (n : Int) : Bool := decide (0 ≤ n) && decide (n ≤ 2147483647)
def putsF : List Int → List UInt8
  | [] => []
  | n :: ns => putN n.toNat ++ putsF ns
def puts (ns : List Int) : List UInt8 × Int := if ns.all mayB then (putsF ns, 0) else ([], 2)
theorem mayB_iff {n : Int} : mayB n = true ↔ 0 ≤ n ∧ n ≤ 2147483647 := by unfold mayB; simp
theorem putsF_append (a b : List Int) : putsF (a ++ b) = putsF a ++ putsF b := by
  induction a with
  | nil => rfl
  | cons x a ih => show putN _ ++ putsF (a ++ b) = (putN _ ++ putsF a) ++ putsF b; rw [ih, List.append_assoc]
theorem putsF_len (ns : List Int) (h : ns.all mayB = true) : (putsF ns).length ≤ 5 * ns.length := by
  induction ns with
  | nil => simp [putsF]
  | cons n ns ih =>
    rw [List.all_cons, Bool.and_eq_true] at h
    have h1 := mayB_iff.1 h.1
    have := putN_most (n := n.toNat) (by unfold most; omega)
    have := ih h.2
    show (putN _ ++ putsF ns).length ≤ _
    rw [List.length_append, List.length_cons]
    omega
/-- What is left to write of a number, one byte the less. -/
theorem putN_drop {n j : Nat} (h : j < (putN n).length) : (putN n).drop j = putN (n / 128 ^ j) := by
  induction j generalizing n with
  | zero => simp
  | succ j ih =>
    by_cases h1 : n < 128
    · rw [putN_lo h1] at h; simp at h
    · rw [putN_hi (by omega)] at h ⊢
      rw [List.drop_succ_cons, ih (by simpa using h), Nat.div_div_eq_div_mul, Nat.pow_succ, Nat.mul_comm 128]
/-- Ahead of the last byte the number that is left is 128 at least. -/
theorem putN_hi_of {n j : Nat} (h : j + 1 < (putN n).length) : 128 ≤ n / 128 ^ j := by
  have h1 := putN_drop (n := n) (j := j) (by omega)
  by_cases h2 : n / 128 ^ j < 128
  · rw [putN_lo h2] at h1
    have := congrArg List.length h1
    simp at this; omega
  · omega
theorem putN_lo_of {n j : Nat} (h : j + 1 = (putN n).length) : n / 128 ^ j < 128 := by
  have h1 := putN_drop (n := n) (j := j) (by omega)
  by_cases h2 : n / 128 ^ j < 128
  · exact h2
  · rw [putN_hi (n := n / 128 ^ j) (by omega)] at h1
    have := congrArg List.length h1
    have h3 := putN_pos (n / 128 ^ j / 128)
    simp at this; omega
/-- The j-th byte. -/
theorem putN_get {n j : Nat} (h : j < (putN n).length) : (putN n)[j] = UInt8.ofNat (if j + 1 = (putN n).length then n / 128 ^ j else 128 + n / 128 ^ j % 128) := by
  have h1 := putN_drop h
  rw [List.drop_eq_getElem_cons h] at h1
  split
  · rename_i e
    rw [putN_lo (putN_lo_of e)] at h1
    exact (List.cons.inj h1).1
  · rename_i e
    rw [putN_hi (putN_hi_of (by omega))] at h1
    exact (List.cons.inj h1).1
theorem putN_take_succ {n j : Nat} (h : j + 1 < (putN n).length) : (putN n).take (j + 1) = (putN n).take j ++ [UInt8.ofNat (128 + n / 128 ^ j % 128)] := by
  rw [List.take_succ_eq_append_getElem (by omega), putN_get (by omega), if_neg (by omega)]
theorem putN_take_all {n j : Nat} (h : j + 1 = (putN n).length) : putN n = (putN n).take j ++ [UInt8.ofNat (n / 128 ^ j)] := by
  have h1 := List.take_append_drop j (putN n)
  rw [putN_drop (by omega), putN_lo (putN_lo_of h)] at h1
  exact h1.symm
theorem div_step (n j : Nat) : n / 128 ^ (j + 1) = n / 128 ^ j / 128 := by rw [Nat.div_div_eq_div_mul, Nat.pow_succ]
theorem putN_end {n j : Nat} (h : j < (putN n).length) : n / 128 ^ (j + 1) = 0 ↔ j + 1 = (putN n).length := by
  rw [div_step]
  constructor
  · intro h1
    by_cases h2 : j + 1 < (putN n).length
    · have := putN_hi_of h2
      generalize n / 128 ^ j = q at *
      omega
    · omega
  · intro h1
    have := putN_lo_of h1
    generalize n / 128 ^ j = q at *
    omega
/-- How the count of a number's bytes goes on. -/
theorem putN_len_step (n : Nat) : (putN n).length = 1 + if n / 128 = 0 then 0 else (putN (n / 128)).length := by
  by_cases h : n < 128
  · rw [putN_lo h, if_pos (by omega)]; rfl
  · rw [putN_hi (by omega), if_neg (by omega), List.length_cons, Nat.add_comm]
end Go.Proofs.Ytggjkhldknppkaa.DigM
