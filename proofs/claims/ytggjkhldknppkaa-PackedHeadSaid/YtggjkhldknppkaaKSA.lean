/- The small functions of sums, walked: Right, from0, New, Value, Join, Put. -/
import Derived.Test.YtggjkhldknppkaaX
import Derived.Test.YtggjkhldknppkaaSumMath
import Derived.Test.YtggjkhldknppkaaProg
import Derived.WalkSpells
import Derived.WalkLawsBesides
import Derived.Deep.QuietTactic
import Derived.BigQuiet
import Derived.StillTailTactics

namespace Go.Proofs.Ytggjkhldknppkaa.Sm
open Go.RowKit SumM

def pairV (s : Int × Int) : Value := .agg #[.int .i64 s.1, .int .i64 s.2]

set_option maxHeartbeats 400000 in
theorem right_any (a b : Int) (w : World) : Calls Try.prog 51 #[.agg #[.int .i64 a, .int .i64 b]] w (Ret w (VEq (.bool (rightB a b)))) := by
  go_enter Try.func51, Try.ntmps51
  go_wp2
  all_goals
    go_ret
    refine ⟨_, rfl, (Below.refl _ _).alloc (Nat.le_refl _) _, ?_⟩
    show Value.bool _ = Value.bool _
    congr 1
    rw [Bool.eq_iff_iff]
    simp [rightB]
    omega
set_option maxHeartbeats 400000 in
theorem rright_any (a b : Int) (w : World) : Calls Try.prog 48 #[.agg #[.int .i64 a, .int .i64 b]] w (Ret w (VEq (.bool (rightB a b)))) := by
  go_enter Try.func48, Try.ntmps48
  go_wp2
  all_goals
    go_ret
    refine ⟨_, rfl, (Below.refl _ _).alloc (Nat.le_refl _) _, ?_⟩
    show Value.bool _ = Value.bool _
    congr 1
    rw [Bool.eq_iff_iff]
    simp [rightB]
    omega
theorem tmod_fix (n : Int) (h1 : -4611686018427387904 ≤ n) (h2 : n ≤ 4611686018427387904) : (wrap64 (n.tmod 65521 + 65521)).tmod 65521 = n % 65521 := by
  have h3 : n.tmod 65521 = if 0 ≤ n then n % 65521 else -((-n) % 65521) := by
    rcases Int.le_total 0 n with h | h
    · rw [if_pos h, Int.tmod_eq_emod_of_nonneg h]
    · by_cases h0 : 0 ≤ n
      · rw [if_pos h0, Int.tmod_eq_emod_of_nonneg h0]
      · rw [if_neg h0]
        have := Int.neg_tmod (-n) 65521
        rw [Int.neg_neg] at this
        rw [this, Int.tmod_eq_emod_of_nonneg (by omega)]
  have h4 : wrap64 (n.tmod 65521 + 65521) = n.tmod 65521 + 65521 := IntWalk.wrap64_in _ (by rw [h3]; constructor <;> split <;> omega)
  rw [h4, Int.tmod_eq_emod_of_nonneg (by rw [h3]; split <;> omega), h3]
  split <;> omega
set_option maxHeartbeats 400000 in
theorem new_any (w : World) : Calls Try.prog 43 #[] w (Ret w (VEq (pairV (1, 0)))) := by
  go_enter Try.func43, Try.ntmps43
  go_wp2
  exact bodyPost_ret (v := pairV (1, 0)) (by simp [results, Try.results43, go_sem]; rfl) rfl (Ret.mk ((Below.refl _ _).alloc (Nat.le_refl _) _) rfl)
set_option maxHeartbeats 400000 in
theorem rnew_any (w : World) : Calls Try.prog 36 #[] w (Ret w (VEq (pairV (1, 0)))) := by
  go_enter Try.func36, Try.ntmps36
  go_wp2
  exact bodyPost_ret (v := pairV (1, 0)) (by simp [results, Try.results36, go_sem]; rfl) rfl (Ret.mk ((Below.refl _ _).alloc (Nat.le_refl _) _) rfl)
theorem ret_val {w w' : World} {F : VP} {v x : Value} (h : v = x) (h1 : Ext w w') (h2 : F x w') : Ret w F (.returned v) w' := by subst h; exact ⟨v, rfl, h1, h2⟩
theorem int_eq {k : IntKind} {a b : Int} (h : a = b) : Value.int k a = .int k b := by rw [h]
theorem value_yes {a b : Int} (h : rightB a b = true) : value (a, b) = b * 65536 + a := by simp [value, h]
theorem value_no {a b : Int} (h : rightB a b = false) : value (a, b) = 0 := by simp [value, h]
set_option maxHeartbeats 400000 in
theorem value_any (a b : Int) (w : World) : Calls Try.prog 41 #[.agg #[.int .i64 a, .int .i64 b]] w (Ret w (VEq (.int .u32 (value (a, b))))) := by
  by_cases hr : rightB a b = true
  · obtain ⟨h1, h2, h3, h4⟩ := (rightB_iff a b).1 hr
    have H := hide (value_yes hr)
    go_enter Try.func41, Try.ntmps41
    go_wp2_with fail
    refine (right_any _ _ _).mono ?_
    rintro e w' ⟨v, rfl, hE, rfl⟩
    obtain ⟨hc, hf⟩ := hE.rules
    go_wp2
    go_ret
    exact ret_val (int_eq H.out.symm) ((ext_alloc _ _).tr hE) rfl
  · have hr : rightB a b = false := by simpa using hr
    have H := hide (value_no hr)
    go_enter Try.func41, Try.ntmps41
    go_wp2_with fail
    refine (right_any _ _ _).mono ?_
    rintro e w' ⟨v, rfl, hE, rfl⟩
    go_wp2
    go_ret
    exact ret_val (int_eq H.out.symm) ((ext_alloc _ _).tr hE) rfl
set_option maxHeartbeats 400000 in
theorem rvalue_any (a b : Int) (w : World) : Calls Try.prog 34 #[.agg #[.int .i64 a, .int .i64 b]] w (Ret w (VEq (.int .u32 (value (a, b))))) := by
  by_cases hr : rightB a b = true
  · obtain ⟨h1, h2, h3, h4⟩ := (rightB_iff a b).1 hr
    have H := hide (value_yes hr)
    go_enter Try.func34, Try.ntmps34
    go_wp2_with fail
    refine (rright_any _ _ _).mono ?_
    rintro e w' ⟨v, rfl, hE, rfl⟩
    obtain ⟨hc, hf⟩ := hE.rules
    go_wp2
    go_ret
    exact ret_val (int_eq H.out.symm) ((ext_alloc _ _).tr hE) rfl
  · have hr : rightB a b = false := by simpa using hr
    have H := hide (value_no hr)
    go_enter Try.func34, Try.ntmps34
    go_wp2_with fail
    refine (rright_any _ _ _).mono ?_
    rintro e w' ⟨v, rfl, hE, rfl⟩
    go_wp2
    go_ret
    exact ret_val (int_eq H.out.symm) ((ext_alloc _ _).tr hE) rfl

set_option maxHeartbeats 400000 in
theorem put_any (v : Int) (h0 : 0 ≤ v) (h1 : v < 4294967296) (w : World) : Calls Try.prog 30 #[.int .u32 v] w (Ret w (VBytes (putB v))) := by
  go_enter Try.func30, Try.ntmps30
  go_wp2
  go_ret
  refine ⟨_, rfl, ext_alloc _ _, VBytes.of (bs := putB v) (Nat.le_refl _) (by decide) fun _ => ⟨_, 0, rfl, by simp, fun j hj => ?_⟩⟩
  rw [Nat.zero_add, (Box.new _ _ _).cell]
  have hj' : j < 4 := hj
  match j, hj' with
  | 0, _ => exact congrArg some (int_eq (by show _ = ((UInt8.ofNat (v.toNat / 16777216)).toNat : Int); rw [UInt8.toNat_ofNat']; omega))
  | 1, _ => exact congrArg some (int_eq (by show _ = ((UInt8.ofNat (v.toNat / 65536)).toNat : Int); rw [UInt8.toNat_ofNat']; omega))
  | 2, _ => exact congrArg some (int_eq (by show _ = ((UInt8.ofNat (v.toNat / 256)).toNat : Int); rw [UInt8.toNat_ofNat']; omega))
  | 3, _ => exact congrArg some (int_eq (by show _ = ((UInt8.ofNat (v.toNat)).toNat : Int); rw [UInt8.toNat_ofNat']; omega))
set_option maxHeartbeats 400000 in
theorem rput_any (v : Int) (h0 : 0 ≤ v) (h1 : v < 4294967296) (w : World) : Calls Try.prog 21 #[.int .u32 v] w (Ret w (VBytes (putB v))) := by
  go_enter Try.func21, Try.ntmps21
  go_wp2
  go_ret
  refine ⟨_, rfl, ext_alloc _ _, VBytes.of (bs := putB v) (Nat.le_refl _) (by decide) fun _ => ⟨_, 0, rfl, by simp, fun j hj => ?_⟩⟩
  rw [Nat.zero_add, (Box.new _ _ _).cell]
  have hj' : j < 4 := hj
  match j, hj' with
  | 0, _ => exact congrArg some (int_eq (by show _ = ((UInt8.ofNat (v.toNat / 16777216)).toNat : Int); rw [UInt8.toNat_ofNat']; omega))
  | 1, _ => exact congrArg some (int_eq (by show _ = ((UInt8.ofNat (v.toNat / 65536)).toNat : Int); rw [UInt8.toNat_ofNat']; omega))
  | 2, _ => exact congrArg some (int_eq (by show _ = ((UInt8.ofNat (v.toNat / 256)).toNat : Int); rw [UInt8.toNat_ofNat']; omega))
  | 3, _ => exact congrArg some (int_eq (by show _ = ((UInt8.ofNat (v.toNat)).toNat : Int); rw [UInt8.toNat_ofNat']; omega))




theorem tmod_cases (n : Int) : (0 ≤ n ∧ n.tmod 65521 = n % 65521) ∨ (n < 0 ∧ n.tmod 65521 = -((-n) % 65521)) := by
  rcases Int.lt_or_le n 0 with h | h
  · right
    refine ⟨h, ?_⟩
    have := Int.neg_tmod (-n) 65521
    rw [Int.neg_neg] at this
    rw [this, Int.tmod_eq_emod_of_nonneg (by omega)]
  · exact .inl ⟨h, Int.tmod_eq_emod_of_nonneg h⟩
theorem tneg (n : Int) (_ : -4611686018427387904 ≤ n) (_ : n ≤ 4611686018427387904) (h : n.tmod 65521 < 0) : wrap64 (n.tmod 65521 + 65521) = n % 65521 := by
  rw [IntWalk.wrap64_in _ (by rcases tmod_cases n with ⟨_, e⟩ | ⟨_, e⟩ <;> rw [e] <;> omega)]
  rcases tmod_cases n with ⟨_, e⟩ | ⟨_, e⟩ <;> rw [e] at h ⊢ <;> omega
theorem tnn (n : Int) (_ : -4611686018427387904 ≤ n) (_ : n ≤ 4611686018427387904) (h : 0 ≤ n.tmod 65521) : n.tmod 65521 = n % 65521 := by
  rcases tmod_cases n with ⟨_, e⟩ | ⟨_, e⟩ <;> rw [e] at h ⊢ <;> omega
end Go.Proofs.Ytggjkhldknppkaa.Sm
