/- Packed words, as plain mathematics: no program in sight. -/
import Derived.Test.YtggjkhldknppkaaDigLaw
import Derived.Test.YtggjkhldknppkaaSumMath
namespace Go.Proofs.Ytggjkhldknppkaa.PakM
open DigM
def magicB : List UInt8 := [84, 83, 76, 49]
def flagB (fold : Bool) : UInt8 := if fold then 1 else 0
def headP (b : List UInt8) : Bool × Int :=
  if b.length < 10 then (false, 10) else if b.take 4 ≠ magicB then (false, 40) else if 1 < (b.getD 4 0).toNat then (false, 41)
  else if SumM.takeV (b.drop (b.length - 4)) ≠ SumM.ofB (b.take (b.length - 4)) then (false, 42) else (decide (b.getD 4 0 = 1), 0)
def badW (r : List UInt8) : Prop := (takeN r).2.2 ≠ 0 ∨ (takeN r).2.1.length < (takeN r).1
instance (r : List UInt8) : Decidable (badW r) := inferInstanceAs (Decidable (_ ∨ _))
def oneW (r : List UInt8) : List UInt8 := (takeN r).2.1.take (takeN r).1
def restW (r : List UInt8) : List UInt8 := (takeN r).2.1.drop (takeN r).1
def wordsF : Nat → List UInt8 → Option (List (List UInt8) × List UInt8)
  | 0, bs => some ([], bs)
  | k + 1, bs => if badW bs then none else match wordsF k (restW bs) with
    | none => none
    | some r => some (oneW bs :: r.1, r.2)
def midP (b : List UInt8) : List UInt8 := (b.take (b.length - 4)).drop 5
def takeP (b : List UInt8) : Bool × List (List UInt8) × Int :=
  if (headP b).2 ≠ 0 then (false, [], (headP b).2) else if (takeN (midP b)).2.2 ≠ 0 then (false, [], 12)
  else match wordsF (takeN (midP b)).1 (takeN (midP b)).2.1 with
    | none => (false, [], 12)
    | some r => if r.2 ≠ [] then (false, [], 43) else ((headP b).1, r.1, 0)
def wordsB : List (List UInt8) → List UInt8
  | [] => []
  | w :: ws => putN w.length ++ w ++ wordsB ws
def bodyP (fold : Bool) (ws : List (List UInt8)) : List UInt8 := magicB ++ [flagB fold] ++ putN ws.length ++ wordsB ws
def summedP (b : List UInt8) : List UInt8 := b ++ SumM.putB (SumM.ofB b)
def putP (fold : Bool) (ws : List (List UInt8)) : List UInt8 := summedP (bodyP fold ws)
def sizeW (ws : List (List UInt8)) : Nat := (ws.map fun w => (putN w.length).length + w.length).sum
theorem wordsB_append (a b : List (List UInt8)) : wordsB (a ++ b) = wordsB a ++ wordsB b := by
  induction a with
  | nil => rfl
  | cons w a ih => show putN _ ++ w ++ wordsB (a ++ b) = (putN _ ++ w ++ wordsB a) ++ wordsB b; rw [ih]; simp only [List.append_assoc]
theorem wordsB_len (ws : List (List UInt8)) : (wordsB ws).length = sizeW ws := by
  induction ws with
  | nil => rfl
  | cons w ws ih => show (putN _ ++ w ++ wordsB ws).length = _; rw [List.length_append, List.length_append, ih]; unfold sizeW; rw [List.map_cons, List.sum_cons]
theorem wordsB_le : ∀ ws : List (List UInt8), (∀ w ∈ ws, w.length ≤ most) → (wordsB ws).length ≤ 5 * ws.length + ws.flatten.length
  | [], _ => by simp [wordsB]
  | w :: ws, h => by
    have h1 := wordsB_le ws (fun b hb => h b (List.mem_cons_of_mem _ hb))
    have h2 := putN_most (h w (List.mem_cons_self ..))
    show (putN _ ++ w ++ wordsB ws).length ≤ _
    rw [List.length_append, List.length_append, List.flatten_cons, List.length_append, List.length_cons]
    omega
theorem put_len (fold : Bool) (ws : List (List UInt8)) : (putP fold ws).length = 5 + (putN ws.length).length + 4 + sizeW ws := by
  unfold putP summedP bodyP
  simp only [List.length_append, SumM.putB_length, wordsB_len]
  rw [show magicB.length = 4 from rfl, show [flagB fold].length = 1 from rfl]
  omega
theorem putB_all (v : Int) (h0 : 0 ≤ v) (h1 : v < 4294967296) : SumM.takeV (SumM.putB v) = v := by
  have := SumM.take_put v h0 h1 []
  rwa [List.append_nil] at this
theorem ofB_bound (b : List UInt8) : 0 ≤ SumM.ofB b ∧ SumM.ofB b < 4294967296 := SumM.value_bound _
/-- The head of bytes with a sum behind them. -/
theorem head_sum (b : List UInt8) (v : Int) (h0 : 0 ≤ v) (h1 : v < 4294967296) : headP (b ++ SumM.putB v) = if b.length < 6 then (false, 10) else if b.take 4 ≠ magicB then (false, 40) else if 1 < (b.getD 4 0).toNat then (false, 41) else if v ≠ SumM.ofB b then (false, 42) else (decide (b.getD 4 0 = 1), 0) := by
  unfold headP
  have hl : (b ++ SumM.putB v).length = b.length + 4 := by rw [List.length_append, SumM.putB_length]
  have hl4 : (b ++ SumM.putB v).length - 4 = b.length := by omega
  rw [hl4, List.drop_left, List.take_left, putB_all v h0 h1, hl]
  by_cases h : b.length < 6
  · rw [if_pos (by omega), if_pos h]
  · rw [if_neg (by omega), if_neg h, List.take_append_of_le_length (by omega), show (b ++ SumM.putB v).getD 4 0 = b.getD 4 0 by simp [List.getD_eq_getElem?_getD, List.getElem?_append_left (show 4 < b.length by omega)]]
theorem mid_sum (b : List UInt8) (v : Int) : midP (b ++ SumM.putB v) = b.drop 5 := by
  unfold midP
  rw [show (b ++ SumM.putB v).length - 4 = b.length by rw [List.length_append, SumM.putB_length]; omega, List.take_left]
theorem badW_put (w r : List UInt8) (h : w.length ≤ most) : takeN (putN w.length ++ w ++ r) = (w.length, w ++ r, 0) := by
  rw [List.append_assoc]; exact takeN_put h _
theorem words_put (r : List UInt8) : ∀ ws : List (List UInt8), (∀ w ∈ ws, w.length ≤ most) → wordsF ws.length (wordsB ws ++ r) = some (ws, r)
  | [], _ => rfl
  | w :: ws, h => by
    have h1 := words_put r ws (fun b hb => h b (List.mem_cons_of_mem _ hb))
    have h2 : takeN (wordsB (w :: ws) ++ r) = (w.length, w ++ (wordsB ws ++ r), 0) := by
      show takeN ((putN _ ++ w ++ wordsB ws) ++ r) = _
      rw [List.append_assoc]
      exact badW_put w _ (h w (List.mem_cons_self ..))
    have hb : ¬ badW (wordsB (w :: ws) ++ r) := by unfold badW; rw [h2]; simp
    have hr : restW (wordsB (w :: ws) ++ r) = wordsB ws ++ r := by unfold restW; rw [h2]; exact List.drop_left
    have ho : oneW (wordsB (w :: ws) ++ r) = w := by unfold oneW; rw [h2]; exact List.take_left
    show (if badW _ then none else _) = _
    rw [if_neg hb, hr, h1, ho]
theorem words_only : ∀ (k : Nat) (bs : List UInt8) (ws : List (List UInt8)) (r : List UInt8), wordsF k bs = some (ws, r) → ws.length = k ∧ (∀ w ∈ ws, w.length ≤ most) ∧ bs = wordsB ws ++ r
  | 0, bs, ws, r, h => by cases h; exact ⟨rfl, by simp, rfl⟩
  | k + 1, bs, ws, r, h => by
    unfold wordsF at h
    by_cases hb : badW bs
    · rw [if_pos hb] at h; cases h
    · rw [if_neg hb] at h
      have hb1 : (takeN bs).2.2 = 0 := Decidable.byContradiction fun e => hb (.inl e)
      have hb2 : (takeN bs).1 ≤ (takeN bs).2.1.length := Nat.le_of_not_lt fun e => hb (.inr e)
      cases hw : wordsF k (restW bs) with
      | none => rw [hw] at h; cases h
      | some q =>
        rw [hw] at h
        cases h
        obtain ⟨h1, h2, h3⟩ := words_only k _ q.1 q.2 hw
        obtain ⟨h4, h5⟩ := takeN_only hb1
        have h6 : (oneW bs).length = (takeN bs).1 := by unfold oneW; rw [List.length_take]; omega
        refine ⟨by rw [List.length_cons, h1], fun w hw => ?_, ?_⟩
        · rcases List.mem_cons.1 hw with rfl | hw
          · omega
          · exact h2 w hw
        · show bs = (putN (oneW bs).length ++ oneW bs ++ wordsB q.1) ++ q.2
          rw [h6, List.append_assoc, ← h3, List.append_assoc]
          unfold oneW restW
          rw [List.take_append_drop]
          exact h5
theorem take_put (fold : Bool) (ws : List (List UInt8)) (h0 : ws.length ≤ most) (h : ∀ w ∈ ws, w.length ≤ most) : takeP (putP fold ws) = (fold, ws, 0) := by
  have hb := ofB_bound (bodyP fold ws)
  have hlen : ¬ (bodyP fold ws).length < 6 := by
    have := putN_pos ws.length
    unfold bodyP
    simp only [List.length_append]
    rw [show magicB.length = 4 from rfl, show [flagB fold].length = 1 from rfl]
    omega
  have hflag : (bodyP fold ws).getD 4 0 = flagB fold := rfl
  have hf1 : ¬ 1 < (flagB fold).toNat := by cases fold <;> decide
  have hf2 : decide (flagB fold = 1) = fold := by cases fold <;> decide
  have hh : headP (putP fold ws) = (fold, 0) := by
    unfold putP summedP
    rw [head_sum _ _ hb.1 hb.2, if_neg hlen, if_neg (fun e => e rfl), hflag, if_neg hf1, if_neg (fun e => e rfl), hf2]
  have hm : midP (putP fold ws) = putN ws.length ++ wordsB ws := by
    unfold putP summedP
    rw [mid_sum]
    rfl
  unfold takeP
  rw [hh, hm, takeN_put h0]
  dsimp only
  have hw := words_put [] ws h
  rw [List.append_nil] at hw
  rw [if_neg (fun e => e rfl), if_neg (fun e => e rfl), hw]
  dsimp only
  rw [if_neg (fun e => e rfl)]
theorem putB_take (x : List UInt8) (h : x.length = 4) : SumM.putB (SumM.takeV x) = x := by
  match x, h with
  | [a, b, c, d], _ =>
    have ha := UInt8.toNat_lt a
    have hb := UInt8.toNat_lt b
    have hc := UInt8.toNat_lt c
    have hd := UInt8.toNat_lt d
    have e : SumM.takeV [a, b, c, d] = (((a.toNat * 256 + b.toNat) * 256 + c.toNat) * 256 + d.toNat : Nat) := by
      unfold SumM.takeV
      rw [if_neg (by simp)]
      simp
    have e2 : (SumM.takeV [a, b, c, d]).toNat = ((a.toNat * 256 + b.toNat) * 256 + c.toNat) * 256 + d.toNat := by rw [e]; rfl
    unfold SumM.putB
    rw [e2]
    have key : ∀ (n : Nat) (z : UInt8), n % 256 = z.toNat → UInt8.ofNat n = z := fun n z h => by
      apply UInt8.toNat.inj
      rw [UInt8.toNat_ofNat']
      omega
    rw [key _ a (by omega), key _ b (by omega), key _ c (by omega), key _ d (by omega)]
theorem put_take (b : List UInt8) (f : Bool) (ws : List (List UInt8)) (h : takeP b = (f, ws, 0)) : putP f ws = b ∧ ws.length ≤ most ∧ ∀ w ∈ ws, w.length ≤ most := by
  unfold takeP at h
  by_cases h1 : (headP b).2 ≠ 0
  · rw [if_pos h1] at h; simp only [Prod.mk.injEq] at h; exact absurd h.2.2 h1
  rw [if_neg h1] at h
  by_cases h2 : (takeN (midP b)).2.2 ≠ 0
  · rw [if_pos h2] at h; simp at h
  rw [if_neg h2] at h
  cases hw : wordsF (takeN (midP b)).1 (takeN (midP b)).2.1 with
  | none => rw [hw] at h; simp at h
  | some q =>
    rw [hw] at h
    dsimp only at h
    by_cases h3 : q.2 ≠ []
    · rw [if_pos h3] at h; simp at h
    rw [if_neg h3] at h
    simp only [Prod.mk.injEq, and_true] at h
    obtain ⟨hf, rfl⟩ := h
    have h3 : q.2 = [] := Decidable.byContradiction h3
    have h2 : (takeN (midP b)).2.2 = 0 := Decidable.byContradiction h2
    have h1 : (headP b).2 = 0 := Decidable.byContradiction h1
    obtain ⟨g1, g2, g3⟩ := words_only _ _ q.1 q.2 hw
    obtain ⟨g4, g5⟩ := takeN_only h2
    rw [h3, List.append_nil] at g3
    rw [g3, ← g1] at g5
    rw [← g1] at g4
    refine ⟨?_, g4, g2⟩
    unfold headP at h1 hf
    by_cases k1 : b.length < 10
    · rw [if_pos k1] at h1; simp at h1
    rw [if_neg k1] at h1 hf
    by_cases k2 : b.take 4 ≠ magicB
    · rw [if_pos k2] at h1; simp at h1
    rw [if_neg k2] at h1 hf
    by_cases k3 : 1 < (b.getD 4 0).toNat
    · rw [if_pos k3] at h1; simp at h1
    rw [if_neg k3] at h1 hf
    by_cases k4 : SumM.takeV (b.drop (b.length - 4)) ≠ SumM.ofB (b.take (b.length - 4))
    · rw [if_pos k4] at h1; simp at h1
    rw [if_neg k4] at hf
    dsimp only at hf
    have k2 : b.take 4 = magicB := Decidable.byContradiction k2
    have k4 : SumM.takeV (b.drop (b.length - 4)) = SumM.ofB (b.take (b.length - 4)) := Decidable.byContradiction k4
    have hbody : bodyP f q.1 = b.take (b.length - 4) := by
      unfold bodyP
      rw [List.append_assoc, ← g5]
      have hfl : [flagB f] = (b.drop 4).take 1 := by
        have h5 : b.getD 4 0 = flagB f := by
          rw [← hf]
          generalize b.getD 4 0 = x at *
          have : x.toNat = 0 ∨ x.toNat = 1 := by omega
          rcases this with h | h
          · have : x = 0 := UInt8.toNat.inj h
            subst this; rfl
          · have : x = 1 := UInt8.toNat.inj h
            subst this; rfl
        have h4 : 4 < b.length := by omega
        rw [← h5, List.drop_eq_getElem_cons h4, List.take_succ_cons, List.take_zero, List.getD_eq_getElem?_getD, List.getElem?_eq_getElem h4]
        rfl
      rw [hfl, ← k2, ← List.take_add]
      unfold midP
      have : b.take (4 + 1) = (b.take (b.length - 4)).take 5 := by rw [List.take_take, Nat.min_eq_left (by omega)]
      rw [this, List.take_append_drop]
    unfold putP summedP
    rw [hbody, ← k4, putB_take _ (by rw [List.length_drop]; omega), List.take_append_drop]
/-- What is read as a number stays so, whatever stands behind. -/
theorem takeF_append (t : List UInt8) : ∀ (bs : List UInt8) (i m n : Nat) (r : List UInt8), takeF i m bs = (n, r, 0) → takeF i m (bs ++ t) = (n, r ++ t, 0)
  | [], i, m, n, r, h => by simp [takeF] at h
  | c :: cs, i, m, n, r, h => by
    rw [takeF_cons] at h
    rw [List.cons_append, takeF_cons]
    by_cases h1 : 5 ≤ i ∨ most < m + c.toNat % 128 * 128 ^ i
    · rw [if_pos h1] at h; simp at h
    rw [if_neg h1] at h ⊢
    by_cases h2 : 128 ≤ c.toNat
    · rw [if_pos h2] at h ⊢; exact takeF_append t cs _ _ _ _ h
    rw [if_neg h2] at h ⊢
    by_cases h3 : c.toNat = 0 ∧ 0 < i
    · rw [if_pos h3] at h; simp at h
    rw [if_neg h3] at h ⊢
    simp only [Prod.mk.injEq, and_true] at h ⊢
    obtain ⟨rfl, rfl⟩ := h
    exact ⟨rfl, rfl⟩
theorem takeN_append {bs : List UInt8} (h : (takeN bs).2.2 = 0) (t : List UInt8) : takeN (bs ++ t) = ((takeN bs).1, (takeN bs).2.1 ++ t, 0) :=
  takeF_append t bs 0 0 _ _ (by show takeN bs = _; rw [← h])
theorem words_append (t : List UInt8) : ∀ (k : Nat) (bs : List UInt8) (ws : List (List UInt8)) (r : List UInt8), wordsF k bs = some (ws, r) → wordsF k (bs ++ t) = some (ws, r ++ t)
  | 0, bs, ws, r, h => by cases h; rfl
  | k + 1, bs, ws, r, h => by
    unfold wordsF at h ⊢
    by_cases hb : badW bs
    · rw [if_pos hb] at h; cases h
    · rw [if_neg hb] at h
      have hb1 : (takeN bs).2.2 = 0 := Decidable.byContradiction fun e => hb (.inl e)
      have hb2 : (takeN bs).1 ≤ (takeN bs).2.1.length := Nat.le_of_not_lt fun e => hb (.inr e)
      have ht := takeN_append hb1 t
      have hbad : ¬ badW (bs ++ t) := by
        unfold badW
        rw [ht]
        dsimp only
        rw [List.length_append]
        omega
      rw [if_neg hbad]
      have h1 : restW (bs ++ t) = restW bs ++ t := by
        unfold restW
        rw [ht]
        dsimp only
        rw [List.drop_append_of_le_length hb2]
      have h2 : oneW (bs ++ t) = oneW bs := by
        unfold oneW
        rw [ht]
        dsimp only
        rw [List.take_append_of_le_length hb2]
      rw [h1, h2]
      cases hw : wordsF k (restW bs) with
      | none => rw [hw] at h; cases h
      | some q =>
        rw [hw] at h
        cases h
        rw [words_append t k _ q.1 q.2 hw]
/-- As a loop goes: one word more. -/
theorem words_snoc : ∀ (k : Nat) (bs : List UInt8) (ws : List (List UInt8)) (r : List UInt8), wordsF k bs = some (ws, r) → wordsF (k + 1) bs = if badW r then none else some (ws ++ [oneW r], restW r)
  | 0, bs, ws, r, h => by cases h; rfl
  | k + 1, bs, ws, r, h => by
    unfold wordsF at h
    by_cases hb : badW bs
    · rw [if_pos hb] at h; cases h
    · rw [if_neg hb] at h
      cases hw : wordsF k (restW bs) with
      | none => rw [hw] at h; cases h
      | some q =>
        rw [hw] at h
        cases h
        have ih := words_snoc k _ q.1 q.2 hw
        show (if badW bs then none else match wordsF (k + 1) (restW bs) with | none => none | some r => some (oneW bs :: r.1, r.2)) = _
        rw [if_neg hb, ih]
        by_cases hr : badW q.2
        · rw [if_pos hr, if_pos hr]
        · rw [if_neg hr, if_neg hr]; rfl
theorem words_bad : ∀ (k m : Nat) (bs : List UInt8), wordsF k bs = none → k ≤ m → wordsF m bs = none
  | 0, _, bs, h, _ => by cases h
  | k + 1, 0, bs, h, hm => by omega
  | k + 1, m + 1, bs, h, hm => by
    unfold wordsF at h ⊢
    by_cases hb : badW bs
    · rw [if_pos hb]
    · rw [if_neg hb] at h ⊢
      cases hw : wordsF k (restW bs) with
      | none => rw [words_bad k m _ hw (by omega)]
      | some q => rw [hw] at h; cases h
/-- A number is read by its first five bytes. -/
theorem takeF_front : ∀ (bs : List UInt8) (i m : Nat), i ≤ 5 → ((takeF i m (bs.take (5 - i))).2.2 = 0 ↔ (takeF i m bs).2.2 = 0) ∧ ((takeF i m bs).2.2 = 0 → (takeF i m (bs.take (5 - i))).1 = (takeF i m bs).1 ∧ (takeF i m bs).2.1 = (takeF i m (bs.take (5 - i))).2.1 ++ bs.drop (5 - i))
  | [], i, m, hi => by simp [takeF]
  | c :: cs, i, m, hi => by
    by_cases h5 : i = 5
    · subst h5
      rw [takeF_cons, if_pos (.inl (by omega))]
      simp [takeF]
    · have e : 5 - i = (5 - (i + 1)) + 1 := by omega
      rw [e, List.take_succ_cons, List.drop_succ_cons, takeF_cons, takeF_cons]
      by_cases h1 : 5 ≤ i ∨ most < m + c.toNat % 128 * 128 ^ i
      · rw [if_pos h1, if_pos h1]; simp
      rw [if_neg h1, if_neg h1]
      by_cases h2 : 128 ≤ c.toNat
      · rw [if_pos h2, if_pos h2]
        exact takeF_front cs (i + 1) _ (by omega)
      rw [if_neg h2, if_neg h2]
      by_cases h3 : c.toNat = 0 ∧ 0 < i
      · rw [if_pos h3, if_pos h3]; simp
      rw [if_neg h3, if_neg h3]
      simp
theorem takeN_front (bs : List UInt8) : ((takeN (bs.take 5)).2.2 = 0 ↔ (takeN bs).2.2 = 0) ∧ ((takeN bs).2.2 = 0 → (takeN (bs.take 5)).1 = (takeN bs).1 ∧ (takeN bs).2.1 = (takeN (bs.take 5)).2.1 ++ bs.drop 5) := takeF_front bs 0 0 (by omega)
end Go.Proofs.Ytggjkhldknppkaa.PakM
