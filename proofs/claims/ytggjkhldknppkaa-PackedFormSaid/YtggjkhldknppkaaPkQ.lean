/- Packed words whose sum is right, whatever stands between: plain mathematics. -/
import Derived.Test.YtggjkhldknppkaaPkN
namespace Go.Proofs.Ytggjkhldknppkaa.PakM
open DigM
theorem head_summed (b : List UInt8) (h6 : 6 ≤ b.length) (hm : b.take 4 = magicB) (hf : ¬ 1 < (b.getD 4 0).toNat) : headP (summedP b) = (decide (b.getD 4 0 = 1), 0) := by
  have hv := ofB_bound b
  unfold summedP
  rw [head_sum b _ hv.1 hv.2, if_neg (by omega), if_neg (fun h => h hm), if_neg hf, if_neg (fun h => h rfl)]
theorem take_summed (b : List UInt8) (h6 : 6 ≤ b.length) (hm : b.take 4 = magicB) (hf : ¬ 1 < (b.getD 4 0).toNat) : takeP (summedP b) = (if (takeN (b.drop 5)).2.2 ≠ 0 then (false, [], 12) else match wordsF (takeN (b.drop 5)).1 (takeN (b.drop 5)).2.1 with
    | none => (false, [], 12)
    | some r => if r.2 ≠ [] then (false, [], 43) else (decide (b.getD 4 0 = 1), r.1, 0) : Bool × List (List UInt8) × Int) := by
  have hh := head_summed b h6 hm hf
  have hmid : midP (summedP b) = b.drop 5 := mid_sum b _
  unfold takeP
  rw [hh, hmid]
  dsimp only
  rw [if_neg (fun h => h rfl)]
  split
  · rfl
  · cases wordsF (takeN (List.drop 5 b)).1 (takeN (List.drop 5 b)).2.1 <;> rfl
theorem body_flag (fold : Bool) (ws : List (List UInt8)) (t : List UInt8) : (bodyP fold ws ++ t).take 4 = magicB ∧ (bodyP fold ws ++ t).getD 4 0 = flagB fold ∧ (bodyP fold ws ++ t).drop 5 = putN ws.length ++ wordsB ws ++ t := ⟨rfl, rfl, rfl⟩
theorem flag_ok (fold : Bool) : ¬ 1 < (flagB fold).toNat := by cases fold <;> decide
theorem form_more (fold : Bool) (ws : List (List UInt8)) (h0 : ws.length ≤ most) (hm : ∀ w ∈ ws, w.length ≤ most) (t : List UInt8) : takeP (summedP (bodyP fold ws ++ t)) = (if t = [] then (fold, ws, 0) else (false, [], 43) : Bool × List (List UInt8) × Int) := by
  obtain ⟨h1, h2, h3⟩ := body_flag fold ws t
  have h6 := body_len fold ws
  rw [take_summed _ (by rw [List.length_append]; omega) h1 (by rw [h2]; exact flag_ok fold), h3, List.append_assoc, takeN_put h0, h2]
  dsimp only
  rw [if_neg (fun h => h rfl), words_put t ws hm]
  dsimp only
  have hfl : decide (flagB fold = 1) = fold := by cases fold <;> decide
  rw [hfl]
  by_cases ht : t = []
  · rw [if_pos ht, if_neg (fun h => h ht)]
  · rw [if_neg ht, if_pos ht]
theorem form_less (fold : Bool) (ws : List (List UInt8)) (h0 : ws.length ≤ most) (hm : ∀ w ∈ ws, w.length ≤ most) (m : Nat) (h6 : 6 ≤ m) (hlt : m < (bodyP fold ws).length) : takeP (summedP ((bodyP fold ws).take m)) = (false, [], 12) := by
  have hl : ((bodyP fold ws).take m).length = m := by rw [List.length_take]; omega
  have h1 : ((bodyP fold ws).take m).take 4 = magicB := by rw [List.take_take, show min 4 m = 4 by omega]; rfl
  have h2 : ((bodyP fold ws).take m).getD 4 0 = flagB fold := by
    rw [List.getD_eq_getElem?_getD, List.getElem?_take, if_pos (by omega), ← List.getD_eq_getElem?_getD]; rfl
  have h3 : ((bodyP fold ws).take m).drop 5 = (putN ws.length ++ wordsB ws).take (m - 5) := by rw [List.drop_take]; rfl
  have hbl : (bodyP fold ws).length = 5 + (putN ws.length ++ wordsB ws).length := by
    unfold bodyP
    simp only [List.length_append]
    rw [show magicB.length = 4 from rfl, show [flagB fold].length = 1 from rfl]
    omega
  rw [take_summed _ (by omega) h1 (by rw [h2]; exact flag_ok fold), h3]
  rw [hbl, List.length_append] at hlt
  by_cases hp : m - 5 < (putN ws.length).length
  · rw [List.take_append_of_le_length (by omega), takeN_short h0 _ hp]
    exact if_pos (by decide)
  · rw [List.take_append, List.take_of_length_le (show (putN ws.length).length ≤ m - 5 by omega), takeN_put h0]
    dsimp only
    rw [if_neg (fun h => h rfl)]
    have hj : m - 5 - (putN ws.length).length < (wordsB ws).length := by omega
    generalize m - 5 - (putN ws.length).length = j at *
    cases hw : wordsF ws.length ((wordsB ws).take j) with
    | none => rfl
    | some r =>
      exfalso
      have ha := words_append ((wordsB ws).drop j) ws.length _ r.1 r.2 hw
      rw [List.take_append_drop] at ha
      have hb := words_put [] ws hm
      rw [List.append_nil, ha] at hb
      have := congrArg (fun x => x.2) (Option.some.inj hb)
      have hd : (wordsB ws).drop j = [] := (List.append_eq_nil_iff.1 this).2
      have := congrArg List.length hd
      rw [List.length_drop, List.length_nil] at this
      omega
theorem sizeW_ge (ws : List (List UInt8)) : ws.length + ws.flatten.length ≤ sizeW ws := by
  induction ws with
  | nil => simp [sizeW]
  | cons w ws ih =>
    have := putN_pos w.length
    unfold sizeW at ih ⊢
    simp only [List.length_cons, List.flatten_cons, List.length_append, List.map_cons, List.sum_cons]
    omega
def betB (t : List UInt8) : List UInt8 := [84, 83, 76, 49, 0] ++ t
theorem form_bet (t : List UInt8) : (t = [] ∧ (takeP (summedP (betB t))) = (false, [], 10)) ∨ (t ≠ [] ∧ (takeP (summedP (betB t)) = (false, [], 12) ∨ takeP (summedP (betB t)) = (false, [], 43) ∨ ∃ ws, takeP (summedP (betB t)) = (false, ws, 0) ∧ putP false ws = summedP (betB t) ∧ ws.length + ws.flatten.length ≤ t.length + 20)) := by
  by_cases ht : t = []
  · subst ht
    exact .inl ⟨rfl, by decide +kernel⟩
  refine .inr ⟨ht, ?_⟩
  have hl : (betB t).length = 5 + t.length := by unfold betB; rw [List.length_append]; rfl
  have h1 : 0 < t.length := List.length_pos_iff.2 ht
  have hg : (betB t).getD 4 0 = 0 := rfl
  have hts := take_summed (betB t) (by omega) rfl (by rw [hg]; decide)
  rw [hg] at hts
  cases hz : decide ((takeN ((betB t).drop 5)).2.2 = 0)
  · rw [if_pos (of_decide_eq_false hz)] at hts
    exact .inl hts
  · rw [if_neg (fun h => h (of_decide_eq_true hz))] at hts
    cases hw : wordsF (takeN ((betB t).drop 5)).1 (takeN ((betB t).drop 5)).2.1 with
    | none => rw [hw] at hts; exact .inl hts
    | some r =>
      rw [hw] at hts
      dsimp only at hts
      by_cases hr : r.2 = []
      · rw [if_neg (fun h => h hr)] at hts
        refine .inr (.inr ⟨r.1, hts, ?_⟩)
        have hp := (put_take _ _ _ hts).1
        refine ⟨hp, ?_⟩
        have h2 := put_len (decide ((0 : UInt8) = 1)) r.1
        rw [hp] at h2
        have h3 : (summedP (betB t)).length = (betB t).length + 4 := by unfold summedP; rw [List.length_append, SumM.putB_length]
        have h4 : r.1.length + r.1.flatten.length ≤ sizeW r.1 := sizeW_ge r.1
        omega
      · rw [if_pos hr] at hts
        exact .inr (.inl hts)
end Go.Proofs.Ytggjkhldknppkaa.PakM
