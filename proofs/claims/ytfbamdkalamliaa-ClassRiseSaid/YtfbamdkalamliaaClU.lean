/- How classes rise: laws without a program. -/
import Derived.Test.YtfbamdkalamliaaClN
namespace Go.Proofs.Ytfbamdkalamliaa
open Go.RowKit LetM SetM
theorem cRun_keep (f : Bool) (h : Nat → Bool) {n j : Nat} (hj : j < n) : (cRun f h (n + 1)).1 j = (cRun f h n).1 j := by
  rw [cRun_succ]
  unfold cStep
  split
  · rfl
  · split
    · show (if j = n then _ else _) = _; rw [if_neg (by omega)]
    · show (if j = n then _ else _) = _; rw [if_neg (by omega)]
theorem cRun_keeps (f : Bool) (h : Nat → Bool) {n j : Nat} (hj : j < n) : ∀ d, (cRun f h (n + d)).1 j = (cRun f h n).1 j
  | 0 => rfl
  | d + 1 => by rw [← Nat.add_assoc, cRun_keep f h (by omega), cRun_keeps f h hj d]
theorem cls_next {f : Bool} {h : Nat → Bool} (hc : ∀ i, fsB f i = true → h i = true → h (i - 32) = true) {b : Nat} (hb : b < 256) :
    ((cRun f h 256).1 b < (cRun f h b).2 ∧ (cRun f h (b + 1)).2 = (cRun f h b).2) ∨ ((cRun f h 256).1 b = (cRun f h b).2 ∧ (cRun f h (b + 1)).2 = (cRun f h b).2 + 1) := by
  have e : (cRun f h 256).1 b = (cRun f h (b + 1)).1 b := by
    have := cRun_keeps f h (n := b + 1) (j := b) (by omega) (255 - b)
    rwa [show b + 1 + (255 - b) = 256 by omega] at this
  rw [e]
  have hs := cRun_succ f h b
  have hi := cInv f h hc b
  have hi1 := cInv f h hc (b + 1)
  unfold cStep at hs
  by_cases hh : h b = false
  · rw [if_pos hh] at hs
    have h0 := hi1.none b (by omega) hh
    rw [h0]
    have := hi.many
    rw [hs]
    exact .inl ⟨by omega, rfl⟩
  · have hh : h b = true := by simpa using hh
    rw [hh, if_neg (by simp)] at hs
    by_cases hf : fsB f b = true
    · have hf' : (f && smallB b) = true := hf
      rw [if_pos hf'] at hs
      have hle := fsB_le hf
      have h32 := hc b hf hh
      have e0 : (cRun f h (b + 1)).1 b = (cRun f h b).1 (b - 32) := by rw [hs]; show (if b = b then _ else _) = _; rw [if_pos rfl]
      refine .inl ⟨?_, by rw [hs]⟩
      rw [e0]
      exact (hi.some (b - 32) (by omega) h32).2
    · have hf0 : fsB f b = false := by simpa using hf
      have hf' : (f && smallB b) = false := hf0
      rw [hf', if_neg (by simp)] at hs
      refine .inr ⟨?_, by rw [hs]⟩
      rw [hs]
      show (if b = b then _ else _) = _
      rw [if_pos rfl]
theorem cRun_start (f : Bool) (h : Nat → Bool) : (cRun f h 0).2 = 1 := rfl
theorem clsL_mem {f : Nat → Int} {cl : Int} {x : UInt8} : x ∈ clsL f cl 256 ↔ f x.toNat = cl := by
  unfold clsL
  rw [List.mem_map]
  constructor
  · rintro ⟨i, hi, rfl⟩
    rw [List.mem_filter, List.mem_range] at hi
    rw [byte_toNat hi.1]
    simpa using hi.2
  · intro h
    exact ⟨x.toNat, by rw [List.mem_filter, List.mem_range]; exact ⟨UInt8.toNat_lt x, by simpa using h⟩, UInt8.ofNat_toNat⟩
theorem clsL_sorted (f : Nat → Int) (cl : Int) : (clsL f cl 256).Pairwise fun x y => x.toNat < y.toNat := by
  unfold clsL
  rw [List.pairwise_map]
  refine List.Pairwise.imp_of_mem ?_ (List.Pairwise.filter _ List.pairwise_lt_range)
  intro a b ha hb hab
  rw [List.mem_filter, List.mem_range] at ha hb
  rw [byte_toNat ha.1, byte_toNat hb.1]
  exact hab
theorem clsL_at {f : Nat → Int} {cl : Int} {i : Nat} (h : i < (clsL f cl 256).length) : f ((clsL f cl 256)[i]).toNat = cl := clsL_mem.1 (List.getElem_mem h)
theorem clsL_rise {f : Nat → Int} {cl : Int} {i j : Nat} (hij : i < j) (h : j < (clsL f cl 256).length) : ((clsL f cl 256)[i]'(by omega)).toNat < ((clsL f cl 256)[j]).toNat :=
  List.pairwise_iff_getElem.1 (clsL_sorted f cl) i j (by omega) h hij
theorem clsL_none {f : Nat → Int} {cl : Int} (h : ∀ i, i < 256 → f i ≠ cl) : clsL f cl 256 = [] := by
  apply List.eq_nil_iff_forall_not_mem.2
  intro x hx
  exact h _ (UInt8.toNat_lt x) (clsL_mem.1 hx)
theorem leastL_one (f : Nat → Int) (k : Int) : leastL f [k] = (clsL f k 256).take 1 := by
  unfold leastL; simp
section
variable {f : Bool} {h : Nat → Bool} (hc : ∀ i, fsB f i = true → h i = true → h (i - 32) = true)
include hc
theorem cls_some {k : Int} (h1 : 1 ≤ k) (h2 : k < (cRun f h 256).2) : 0 < (clsL (cRun f h 256).1 k 256).length := by
  obtain ⟨j, hj, hh, hf, e⟩ := (cInv f h hc 256).full k h1 h2
  have : UInt8.ofNat j ∈ clsL (cRun f h 256).1 k 256 := clsL_mem.2 (by rw [byte_toNat hj]; exact e)
  exact List.length_pos_of_mem this
theorem cls_head {k : Int} (h1 : 1 ≤ k) (hl : 0 < (clsL (cRun f h 256).1 k 256).length) : h ((clsL (cRun f h 256).1 k 256)[0]).toNat = true ∧ fsB f ((clsL (cRun f h 256).1 k 256)[0]).toNat = false := by
  have hat := clsL_at hl
  have hmin : ∀ j, j < 256 → (cRun f h 256).1 j = k → ((clsL (cRun f h 256).1 k 256)[0]).toNat ≤ j := by
    intro j hj e
    have hm : UInt8.ofNat j ∈ clsL (cRun f h 256).1 k 256 := clsL_mem.2 (by rw [byte_toNat hj]; exact e)
    obtain ⟨i, hi, hij⟩ := List.getElem_of_mem hm
    rcases Nat.eq_zero_or_pos i with h0 | h0
    · subst h0; rw [hij, byte_toNat hj]; exact Nat.le_refl _
    · have := clsL_rise h0 hi
      rw [hij, byte_toNat hj] at this
      omega
  generalize ((clsL (cRun f h 256).1 k 256)[0]).toNat = i at *
  have hi : i < 256 ∨ 256 ≤ i := by omega
  have hhi : i < 256 → h i = true := fun hlt => by
    cases hh : h i
    · have := (cInv f h hc 256).none i hlt hh; omega
    · rfl
  have hib : i < 256 := by
    obtain hi | hi := hi
    · exact hi
    · exfalso
      obtain ⟨x, hx⟩ : ∃ x, x ∈ clsL (cRun f h 256).1 k 256 := ⟨_, List.getElem_mem hl⟩
      have := hmin x.toNat (UInt8.toNat_lt x) (clsL_mem.1 hx)
      have := UInt8.toNat_lt x
      omega
  have hh := hhi hib
  refine ⟨hh, ?_⟩
  have hr := rep_cls hc hib hh
  rw [hat] at hr
  have hle := repB_le f i
  have := hmin (repB f i) (by omega) hr
  have e : repB f i = i := by omega
  rw [← e]
  exact repB_no f i
theorem cls_heads {k k' : Int} (h1 : 1 ≤ k) (h2 : k < k') (hl : 0 < (clsL (cRun f h 256).1 k 256).length) (hl' : 0 < (clsL (cRun f h 256).1 k' 256).length) : ((clsL (cRun f h 256).1 k 256)[0]).toNat < ((clsL (cRun f h 256).1 k' 256)[0]).toNat := by
  obtain ⟨a1, a2⟩ := cls_head hc h1 hl
  obtain ⟨b1, b2⟩ := cls_head hc (by omega) hl'
  have ea := clsL_at hl
  have eb := clsL_at hl'
  have la := UInt8.toNat_lt ((clsL (cRun f h 256).1 k 256)[0])
  have lb := UInt8.toNat_lt ((clsL (cRun f h 256).1 k' 256)[0])
  generalize ((clsL (cRun f h 256).1 k 256)[0]).toNat = i at *
  generalize ((clsL (cRun f h 256).1 k' 256)[0]).toNat = j at *
  rcases Nat.lt_trichotomy i j with hl | hl | hl
  · exact hl
  · subst hl; omega
  · have := (cInv f h hc 256).rise j i hl la b1 a1 b2 a2
    omega
end
/-- How many bytes the classes below one have. -/
def totL (f : Nat → Int) (n : Nat) : Nat → Nat
  | 0 => 0
  | k + 1 => totL f n k + (clsL f (k : Int) n).length
theorem totL_succ (f : Nat → Int) (n : Nat) (h0 : 0 ≤ f n) : ∀ k : Nat, totL f (n + 1) k = totL f n k + (if f n < (k : Int) then 1 else 0)
  | 0 => by rw [if_neg (by omega)]; rfl
  | k + 1 => by
    unfold totL
    rw [totL_succ f n h0 k]
    by_cases e : f n = (k : Int)
    · rw [clsL_yes e, List.length_append, List.length_singleton, if_neg (by omega), if_pos (by omega)]; omega
    · rw [clsL_no e]
      by_cases hlt : f n < (k : Int)
      · rw [if_pos hlt, if_pos (by omega)]; omega
      · rw [if_neg hlt, if_neg (by omega)]; omega
theorem totL_zero (f : Nat → Int) : ∀ k, totL f 0 k = 0
  | 0 => rfl
  | k + 1 => by unfold totL; rw [totL_zero f k]; rfl
theorem totL_all {f : Nat → Int} {m : Nat} : ∀ n, (∀ i, i < n → 0 ≤ f i ∧ f i < (m : Int)) → totL f n m = n
  | 0, _ => totL_zero f m
  | n + 1, h => by
    rw [totL_succ f n (h n (by omega)).1, totL_all n (fun i hi => h i (by omega)), if_pos (h n (by omega)).2]
theorem totL_le (f : Nat → Int) : ∀ k, totL f 256 k ≤ 256 * k
  | 0 => by unfold totL; omega
  | k + 1 => by
    unfold totL
    have := totL_le f k
    have := clsL_len f (k : Int) 256
    omega
/-- The least byte of the class ahead; -1 ahead of class 2. -/
def lastL (f : Nat → Int) (k : Nat) : Int := if k ≤ 1 then -1 else (((clsL f ((k : Int) - 1) 256).headD 0).toNat : Int)
theorem lastL_up {f : Nat → Int} {k : Nat} (hk : 0 < k) (hl : 0 < (clsL f (k : Int) 256).length) : lastL f (k + 1) = (((clsL f (k : Int) 256)[0]).toNat : Int) := by
  unfold lastL
  rw [if_neg (by omega), show ((k + 1 : Nat) : Int) - 1 = (k : Int) by omega]
  generalize clsL f (k : Int) 256 = l at *
  cases l with
  | nil => simp at hl
  | cons x xs => rfl
theorem lastL_lt {f : Bool} {h : Nat → Bool} (hc : ∀ i, fsB f i = true → h i = true → h (i - 32) = true) {k : Nat} (hk : 0 < k) (hl : 0 < (clsL (cRun f h 256).1 (k : Int) 256).length) (hk2 : (k : Int) < (cRun f h 256).2) : lastL (cRun f h 256).1 k < (((clsL (cRun f h 256).1 (k : Int) 256)[0]).toNat : Int) := by
  by_cases h1 : k ≤ 1
  · unfold lastL; rw [if_pos h1]; omega
  · obtain ⟨j, rfl⟩ : ∃ j, k = j + 1 := ⟨k - 1, by omega⟩
    have hs := cls_some hc (k := (j : Int)) (by omega) (by omega)
    rw [lastL_up (by omega) hs]
    have := cls_heads hc (k := (j : Int)) (k' := ((j + 1 : Nat) : Int)) (by omega) (by omega) hs hl
    omega
end Go.Proofs.Ytfbamdkalamliaa
