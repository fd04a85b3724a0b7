/- What is put is taken; what is taken has just those bytes: plain mathematics. -/
import Derived.Test.YtggjkhldknppkaaDigMath
namespace Go.Proofs.Ytggjkhldknppkaa.DigM

theorem takeF_cons (k nn : Nat) (c : UInt8) (cs : List UInt8) : takeF k nn (c :: cs) = if 5 ≤ k ∨ most < nn + c.toNat % 128 * 128 ^ k then (0, [], 11) else if 128 ≤ c.toNat then takeF (k + 1) (nn + c.toNat % 128 * 128 ^ k) cs else if c.toNat = 0 ∧ 0 < k then (0, [], 12) else (nn + c.toNat % 128 * 128 ^ k, cs, 0) := by
  conv => lhs; unfold takeF
theorem split_seven (q m i : Nat) : m + q % 128 * 128 ^ i + q / 128 * 128 ^ (i + 1) = m + q * 128 ^ i := by
  have h : q * 128 ^ i = (128 * (q / 128) + q % 128) * 128 ^ i := by rw [Nat.div_add_mod]
  rw [h, Nat.pow_succ, Nat.add_mul, Nat.mul_comm 128 (q / 128), Nat.mul_assoc, Nat.mul_comm 128 (128 ^ i)]
  omega
theorem take_put (rest : List UInt8) : ∀ (q i m : Nat), m + q * 128 ^ i ≤ most → i + (putN q).length ≤ 5 → (0 < i → q ≠ 0) → takeF i m (putN q ++ rest) = (m + q * 128 ^ i, rest, 0) := by
  intro q
  induction q using Nat.strongRecOn with
  | ind q ih =>
    intro i m hm hl h0
    by_cases h : q < 128
    · rw [putN_lo h] at hl ⊢
      have hq : (UInt8.ofNat q).toNat = q := by rw [UInt8.toNat_ofNat']; omega
      have hq2 : q % 128 = q := Nat.mod_eq_of_lt h
      rw [List.singleton_append, takeF_cons, hq, hq2, if_neg (by simp at hl; omega), if_neg (by omega), if_neg (fun e => h0 e.2 e.1)]
    · rw [putN_hi (by omega)] at hl ⊢
      have hq : (UInt8.ofNat (128 + q % 128)).toNat = 128 + q % 128 := by rw [UInt8.toNat_ofNat']; omega
      have hq2 : (128 + q % 128) % 128 = q % 128 := by omega
      have hs := split_seven q m i
      have hp := putN_pos (q / 128)
      rw [List.cons_append, takeF_cons, hq, hq2, if_neg (by simp at hl; omega), if_pos (by omega)]
      rw [ih (q / 128) (by omega) (i + 1) _ (by omega) (by simp at hl; omega) (fun _ => by omega), hs]
theorem take_short : ∀ (q i m j : Nat), m + q * 128 ^ i ≤ most → i + (putN q).length ≤ 5 → j < (putN q).length → takeF i m ((putN q).take j) = (0, [], 10) := by
  intro q
  induction q using Nat.strongRecOn with
  | ind q ih =>
    intro i m j hm hl hj
    cases j with
    | zero => rfl
    | succ j =>
      by_cases h : q < 128
      · rw [putN_lo h] at hj; simp at hj
      · rw [putN_hi (by omega)] at hl hj ⊢
        have hq : (UInt8.ofNat (128 + q % 128)).toNat = 128 + q % 128 := by rw [UInt8.toNat_ofNat']; omega
        have hq2 : (128 + q % 128) % 128 = q % 128 := by omega
        have hs := split_seven q m i
        have hp := putN_pos (q / 128)
        rw [List.take_succ_cons, takeF_cons, hq, hq2, if_neg (by simp at hl; omega), if_pos (by omega)]
        exact ih (q / 128) (by omega) (i + 1) _ j (by omega) (by simp at hl; omega) (by simpa using hj)
theorem takeN_put {n : Nat} (h : n ≤ most) (rest : List UInt8) : takeN (putN n ++ rest) = (n, rest, 0) := by
  have := take_put rest n 0 0 (by simpa using h) (by have := putN_most h; omega) (fun h => by omega)
  rw [Nat.pow_zero, Nat.mul_one, Nat.zero_add] at this
  exact this
theorem takeN_short {n : Nat} (h : n ≤ most) (j : Nat) (hj : j < (putN n).length) : takeN ((putN n).take j) = (0, [], 10) :=
  take_short n 0 0 j (by simpa using h) (by have := putN_most h; omega) hj
theorem takes_puts (rest : List UInt8) : ∀ ns : List Int, ns.all mayB = true → takesF ns.length (putsF ns ++ rest) = (ns, rest, 0)
  | [], _ => rfl
  | n :: ns, h => by
    rw [List.all_cons, Bool.and_eq_true] at h
    have hn := mayB_iff.1 h.1
    have ih := takes_puts rest ns h.2
    have ht := takeN_put (n := n.toNat) (by unfold most; omega) (putsF ns ++ rest)
    have hnn : ((n.toNat : Nat) : Int) = n := by omega
    show takesF (ns.length + 1) ((putN n.toNat ++ putsF ns) ++ rest) = _
    rw [List.append_assoc]
    unfold takesF
    simp [ht, ih, hnn]
theorem takes_short : ∀ ns : List Int, ns.all mayB = true → ns ≠ [] → (takesF ns.length ((putsF ns).take ((putsF ns).length - 1))).2.2 = 10
  | [], _, h => absurd rfl h
  | [n], h, _ => by
    have hn := mayB_iff.1 (by simpa using h)
    have hp := putN_pos n.toNat
    have ht := takeN_short (n := n.toNat) (by unfold most; omega) ((putN n.toNat).length - 1) (by omega)
    show (takesF 1 ((putN n.toNat ++ []).take _)).2.2 = 10
    rw [show putsF [n] = putN n.toNat ++ [] from rfl, List.append_nil]
    unfold takesF
    simp [ht]
  | n :: k :: ns, h, _ => by
    rw [List.all_cons, Bool.and_eq_true] at h
    have hn := mayB_iff.1 h.1
    have ih := takes_short (k :: ns) h.2 (by simp)
    have hp : 0 < (putsF (k :: ns)).length := by
      show 0 < (putN k.toNat ++ putsF ns).length
      have := putN_pos k.toNat
      simp; omega
    have hsp : (putsF (n :: k :: ns)).take ((putsF (n :: k :: ns)).length - 1) = putN n.toNat ++ (putsF (k :: ns)).take ((putsF (k :: ns)).length - 1) := by
      show (putN n.toNat ++ putsF (k :: ns)).take ((putN n.toNat ++ putsF (k :: ns)).length - 1) = _
      rw [List.length_append, show (putN n.toNat).length + (putsF (k :: ns)).length - 1 = (putN n.toNat).length + ((putsF (k :: ns)).length - 1) by omega, List.take_length_add_append]
    have ht := takeN_put (n := n.toNat) (by unfold most; omega) ((putsF (k :: ns)).take ((putsF (k :: ns)).length - 1))
    rw [hsp]
    show (takesF ((k :: ns).length + 1) _).2.2 = 10
    generalize (k :: ns).length = j at *
    unfold takesF
    simp [ht, ih]
theorem puts_all {ns : List Int} (h : ns.all mayB = true) : puts ns = (putsF ns, 0) := by unfold puts; rw [if_pos h]
theorem putsF_ge : ∀ ns : List Int, ns.length ≤ (putsF ns).length
  | [] => Nat.le_refl _
  | n :: ns => by
    have := putsF_ge ns
    have := putN_pos n.toNat
    show _ ≤ (putN n.toNat ++ putsF ns).length
    simp; omega
/-- What is taken has just those bytes. -/
theorem take_only : ∀ (bs : List UInt8) (i m n : Nat) (rest : List UInt8), takeF i m bs = (n, rest, 0) → ∃ q, n = m + q * 128 ^ i ∧ bs = putN q ++ rest ∧ n ≤ most ∧ (0 < i → q ≠ 0)
  | [], _, _, _, _, h => by simp [takeF] at h
  | c :: cs, i, m, n, rest, h => by
    have hc := c.toNat_lt
    rw [takeF_cons] at h
    split at h
    · simp at h
    rename_i h1
    split at h
    · rename_i h2
      obtain ⟨q, h3, h4, h5, h6⟩ := take_only cs (i + 1) _ n rest h
      have hq := h6 (by omega)
      refine ⟨c.toNat % 128 + 128 * q, ?_, ?_, h5, fun _ => by omega⟩
      · have := split_seven (c.toNat % 128 + 128 * q) m i
        rw [show (c.toNat % 128 + 128 * q) % 128 = c.toNat % 128 by omega, show (c.toNat % 128 + 128 * q) / 128 = q by omega] at this
        rw [h3, this]
      · rw [putN_hi (by omega), show (c.toNat % 128 + 128 * q) % 128 = c.toNat % 128 by omega, show (c.toNat % 128 + 128 * q) / 128 = q by omega, h4, show 128 + c.toNat % 128 = c.toNat by omega]
        simp
    · rename_i h2
      split at h
      · simp at h
      · rename_i h3
        obtain ⟨h4, h5⟩ := Prod.mk.inj h
        obtain ⟨h6, -⟩ := Prod.mk.inj h5
        have hm : c.toNat % 128 = c.toNat := by omega
        rw [hm] at h4
        refine ⟨c.toNat, h4.symm, ?_, by rw [hm] at h1; omega, fun hi e => h3 ⟨e, hi⟩⟩
        rw [putN_lo (by omega), h6]; simp
theorem takeN_only {bs : List UInt8} (h : (takeN bs).2.2 = 0) : (takeN bs).1 ≤ most ∧ bs = putN (takeN bs).1 ++ (takeN bs).2.1 := by
  obtain ⟨q, h1, h2, h3, -⟩ := take_only bs 0 0 (takeN bs).1 (takeN bs).2.1 (Prod.ext rfl (Prod.ext rfl h))
  simp at h1
  subst h1
  exact ⟨h3, h2⟩
theorem takes_only : ∀ (k : Nat) (bs : List UInt8), (takesF k bs).2.2 = 0 → (takesF k bs).1.length = k ∧ (takesF k bs).1.all mayB = true ∧ putsF (takesF k bs).1 ++ (takesF k bs).2.1 = bs
  | 0, _, _ => ⟨rfl, rfl, rfl⟩
  | k + 1, bs, h => by
    unfold takesF at h ⊢
    dsimp only at h ⊢
    split
    · rename_i h1
      rw [if_pos h1] at h
      exact absurd h h1
    · rename_i h1
      rw [if_neg h1] at h
      have h1 : (takeN bs).2.2 = 0 := by simpa using h1
      split
      · rename_i h2
        rw [if_pos h2] at h
        exact absurd h h2
      · rename_i h2
        have h2 : (takesF k (takeN bs).2.1).2.2 = 0 := by simpa using h2
        obtain ⟨h3, h4, h5⟩ := takes_only k _ h2
        obtain ⟨h6, h7⟩ := takeN_only h1
        refine ⟨by simp [h3], ?_, ?_⟩
        · rw [List.all_cons, h4, Bool.and_true]
          exact mayB_iff.2 ⟨by omega, by unfold most at h6; omega⟩
        · show (putN ((takeN bs).1 : Int).toNat ++ putsF _) ++ _ = bs
          rw [Int.toNat_natCast, List.append_assoc, h5, ← h7]
theorem takeF_ne2 : ∀ (bs : List UInt8) (i m : Nat), (takeF i m bs).2.2 ≠ 2
  | [], _, _ => by simp [takeF]
  | c :: cs, i, m => by
    rw [takeF_cons]
    split
    · simp
    · split
      · exact takeF_ne2 cs _ _
      · split <;> simp
theorem takesF_ne2 : ∀ (k : Nat) (bs : List UInt8), (takesF k bs).2.2 ≠ 2
  | 0, _ => by simp [takesF]
  | k + 1, bs => by
    unfold takesF
    dsimp only
    split
    · exact takeF_ne2 bs 0 0
    · split
      · exact takesF_ne2 k _
      · simp
end Go.Proofs.Ytggjkhldknppkaa.DigM
