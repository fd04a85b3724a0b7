/- Packed words with one byte turned, with bytes more or less, as plain mathematics. -/
import Derived.Test.YtggjkhldknppkaaPkMath
import Derived.Test.YtggjkhldknppkaaKSD
namespace Go.Proofs.Ytggjkhldknppkaa.PakM
open DigM
theorem xor_ne (a b : UInt8) (h : b ≠ 0) : a ^^^ b ≠ a := fun e => h (by
  have : a ^^^ (a ^^^ b) = a ^^^ a := by rw [e]
  rwa [← UInt8.xor_assoc, UInt8.xor_self, UInt8.zero_xor] at this)
theorem takeV_bound (x : List UInt8) (h : x.length = 4) : 0 ≤ SumM.takeV x ∧ SumM.takeV x < 4294967296 := by
  match x, h with
  | [a, b, c, d], _ =>
    have ha := UInt8.toNat_lt a
    have hb := UInt8.toNat_lt b
    have hc := UInt8.toNat_lt c
    have hd := UInt8.toNat_lt d
    have e : SumM.takeV [a, b, c, d] = (((a.toNat * 256 + b.toNat) * 256 + c.toNat) * 256 + d.toNat : Nat) := by
      unfold SumM.takeV
      rw [if_neg (by simp)]
      simp
    rw [e]
    omega
def wantE (p : List UInt8) (k : Nat) : Int := if k < 4 then 40 else if k = 4 ∧ 1 < (p.getD 4 0).toNat then 41 else 42
theorem body_len (fold : Bool) (ws : List (List UInt8)) : 6 ≤ (bodyP fold ws).length := by
  have := putN_pos ws.length
  unfold bodyP
  simp only [List.length_append]
  rw [show magicB.length = 4 from rfl, show [flagB fold].length = 1 from rfl]
  omega
theorem head_one (fold : Bool) (ws : List (List UInt8)) (k : Nat) (hk : k < (putP fold ws).length) (x : UInt8) (hx : x ≠ (putP fold ws)[k]) : headP ((putP fold ws).set k x) = (false, wantE ((putP fold ws).set k x) k) := by
  have h6 := body_len fold ws
  have hv := ofB_bound (bodyP fold ws)
  have htk : (bodyP fold ws).take 4 = magicB := rfl
  have hfl : (bodyP fold ws).getD 4 0 = flagB fold := rfl
  have hf1 : ¬ 1 < (flagB fold).toNat := by cases fold <;> decide
  have hpe : putP fold ws = bodyP fold ws ++ SumM.putB (SumM.ofB (bodyP fold ws)) := rfl
  generalize bodyP fold ws = b at *
  rw [hpe] at hk
  have hx' : x ≠ (b ++ SumM.putB (SumM.ofB b))[k] := by
    intro e; apply hx; rw [e]; congr 1; exact hpe.symm
  rw [hpe]
  clear hx hpe
  have hg4 : ∀ (l : List UInt8) (j : Nat) (y : UInt8), (l.set j y).getD 4 0 = if j = 4 ∧ 4 < l.length then y else l.getD 4 0 := fun l j y => by
    rw [List.getD_eq_getElem?_getD, List.getElem?_set]
    by_cases hj : j = 4
    · subst hj
      by_cases hl : 4 < l.length
      · rw [if_pos rfl, if_pos hl, if_pos ⟨rfl, hl⟩]; rfl
      · rw [if_pos rfl, if_neg hl, if_neg (fun h => hl h.2), List.getD_eq_getElem?_getD, List.getElem?_eq_none (by omega)]
    · rw [if_neg hj, if_neg (fun h => hj h.1), ← List.getD_eq_getElem?_getD]
  rcases Nat.lt_or_ge k b.length with hkb | hkb
  · rw [List.set_append_left _ _ hkb, head_sum _ _ hv.1 hv.2]
    rw [List.getElem_append_left hkb] at hx'
    have hd : SumM.ofB (b.set k x) ≠ SumM.ofB b := SumM.ofB_differs b k hkb x hx'
    have hw4 : (b.set k x ++ SumM.putB (SumM.ofB b)).getD 4 0 = (b.set k x).getD 4 0 := by
      simp [List.getD_eq_getElem?_getD, List.getElem?_append_left (show 4 < (b.set k x).length by rw [List.length_set]; omega)]
    unfold wantE
    rw [hw4, if_neg (by rw [List.length_set]; omega), hg4]
    by_cases h4 : k < 4
    · rw [if_pos h4, if_pos]
      intro e
      have h1 : (b.set k x)[k]'(by rw [List.length_set]; exact hkb) = x := by simp
      have h2 : ((b.set k x).take 4)[k]? = some x := by
        rw [List.getElem?_take, if_pos h4, List.getElem?_eq_getElem (by rw [List.length_set]; exact hkb), h1]
      have h3 : (b.take 4)[k]? = some b[k] := by rw [List.getElem?_take, if_pos h4, List.getElem?_eq_getElem hkb]
      rw [e, ← htk, h3] at h2
      exact hx' (Option.some.inj h2).symm
    · rw [if_neg h4, if_neg (by
        rw [show (b.set k x).take 4 = b.take 4 by rw [List.take_set, List.set_eq_of_length_le (by rw [List.length_take]; omega)]]
        exact fun h => h htk)]
      by_cases hk4 : k = 4
      · have e4 : (if k = 4 ∧ 4 < b.length then x else b.getD 4 0) = x := if_pos ⟨hk4, by omega⟩
        rw [e4]
        by_cases h1 : 1 < x.toNat
        · rw [if_pos h1, if_pos ⟨hk4, h1⟩]
        · rw [if_neg h1, if_pos (Ne.symm hd), if_neg (fun h => h1 h.2)]
      · have e4 : (if k = 4 ∧ 4 < b.length then x else b.getD 4 0) = flagB fold := by rw [if_neg (fun h => hk4 h.1), hfl]
        rw [e4, if_neg hf1, if_pos (Ne.symm hd), if_neg (fun h => hk4 h.1)]
  · rw [List.set_append_right _ _ hkb]
    rw [List.getElem_append_right hkb] at hx'
    have hj : k - b.length < (SumM.putB (SumM.ofB b)).length := by rw [List.length_append] at hk; omega
    have hl4 : ((SumM.putB (SumM.ofB b)).set (k - b.length) x).length = 4 := by rw [List.length_set]; rfl
    have hb4 := takeV_bound _ hl4
    have hpt := putB_take _ hl4
    have hne : SumM.takeV ((SumM.putB (SumM.ofB b)).set (k - b.length) x) ≠ SumM.ofB b := fun e => by
      rw [e] at hpt
      have h1 : ((SumM.putB (SumM.ofB b)).set (k - b.length) x)[k - b.length]? = some x := by rw [List.getElem?_set_self hj]
      rw [← hpt, List.getElem?_eq_getElem hj] at h1
      exact hx' (Option.some.inj h1).symm
    have hwe : (b ++ (SumM.putB (SumM.ofB b)).set (k - b.length) x).getD 4 0 = b.getD 4 0 := by
      simp [List.getD_eq_getElem?_getD, List.getElem?_append_left (show 4 < b.length by omega)]
    have hs := head_sum b _ hb4.1 hb4.2
    rw [hpt, if_neg (by omega), if_neg (fun h => h htk), hfl, if_neg hf1, if_pos hne] at hs
    rw [hs]
    unfold wantE
    rw [if_neg (by omega), if_neg (fun h => by omega)]
theorem take_bad (b : List UInt8) (h : (headP b).2 ≠ 0) : takeP b = (false, [], (headP b).2) := by unfold takeP; rw [if_pos h]
theorem want_ne (p : List UInt8) (k : Nat) : wantE p k ≠ 0 := by unfold wantE; split; · decide
                                                                 split <;> decide
end Go.Proofs.Ytggjkhldknppkaa.PakM
