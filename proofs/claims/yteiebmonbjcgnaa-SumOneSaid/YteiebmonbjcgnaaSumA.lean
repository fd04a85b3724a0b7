/- The small functions of sums, walked: Right, from0, New, Value, Join, Put. -/
import Derived.Test.YteiebmonbjcgnaaX
import Derived.Test.YteiebmonbjcgnaaSumMath
import Derived.Test.YteiebmonbjcgnaaProg
import Derived.WalkSpells
import Derived.WalkLawsBesides
import Derived.Deep.QuietTactic
import Derived.BigQuiet
import Derived.StillTailTactics

namespace Go.Proofs.Yteiebmonbjcgnaa
open Go.RowKit SumM

def pairV (s : Int × Int) : Value := .agg #[.int .i64 s.1, .int .i64 s.2]

set_option maxHeartbeats 400000 in
theorem right_any (a b : Int) (w : World) : Calls Try.prog 19 #[.agg #[.int .i64 a, .int .i64 b]] w (Ret w (VEq (.bool (rightB a b)))) := by
  go_enter Try.func19, Try.ntmps19
  go_wp2
  all_goals
    go_ret
    refine ⟨_, rfl, (Below.refl _ _).alloc (Nat.le_refl _) _, ?_⟩
    show Value.bool _ = Value.bool _
    congr 1
    rw [Bool.eq_iff_iff]
    simp [rightB]
    omega
set_option maxHeartbeats 400000 in
theorem rright_any (a b : Int) (w : World) : Calls Try.prog 20 #[.agg #[.int .i64 a, .int .i64 b]] w (Ret w (VEq (.bool (rightB a b)))) := by
  go_enter Try.func20, Try.ntmps20
  go_wp2
  all_goals
    go_ret
    refine ⟨_, rfl, (Below.refl _ _).alloc (Nat.le_refl _) _, ?_⟩
    show Value.bool _ = Value.bool _
    congr 1
    rw [Bool.eq_iff_iff]
    simp [rightB]
    omega
theorem tmod_fix (n : Int) (h1 : -4611686018427387904 ≤ n) (h2 : n ≤ 4611686018427387904) : (wrap64 (n.tmod 65521 + 65521)).tmod 65521 = n % 65521 := by
  have h3 : n.tmod 65521 = if 0 ≤ n then n % 65521 else -((-n) % 65521) := by
    rcases Int.le_total 0 n with h | h
    · rw [if_pos h, Int.tmod_eq_emod_of_nonneg h]
    · by_cases h0 : 0 ≤ n
      · rw [if_pos h0, Int.tmod_eq_emod_of_nonneg h0]
      · rw [if_neg h0]
        have := Int.neg_tmod (-n) 65521
        rw [Int.neg_neg] at this
        rw [this, Int.tmod_eq_emod_of_nonneg (by omega)]
  have h4 : wrap64 (n.tmod 65521 + 65521) = n.tmod 65521 + 65521 := IntWalk.wrap64_in _ (by rw [h3]; constructor <;> split <;> omega)
  rw [h4, Int.tmod_eq_emod_of_nonneg (by rw [h3]; split <;> omega), h3]
  split <;> omega
set_option maxHeartbeats 400000 in
theorem from0_any (n : Int) (w : World) (h1 : -4611686018427387904 ≤ n) (h2 : n ≤ 4611686018427387904) : Calls Try.prog 25 #[.int .i64 n] w fun e w' => e = .returned (.int .i64 (n % 65521)) ∧ w = w' := by
  go_enter Try.func25, Try.ntmps25
  go_wp2
  go_ret
  refine ⟨?_, rfl⟩
  rw [← tmod_fix n h1 h2]; rfl
set_option maxHeartbeats 400000 in
theorem new_any (w : World) : Calls Try.prog 21 #[] w (Ret w (VEq (pairV (1, 0)))) := by
  go_enter Try.func21, Try.ntmps21
  go_wp2
  exact bodyPost_ret (v := pairV (1, 0)) (by simp [results, Try.results21, go_sem]; rfl) rfl (Ret.mk ((Below.refl _ _).alloc (Nat.le_refl _) _) rfl)
set_option maxHeartbeats 400000 in
theorem rnew_any (w : World) : Calls Try.prog 22 #[] w (Ret w (VEq (pairV (1, 0)))) := by
  go_enter Try.func22, Try.ntmps22
  go_wp2
  exact bodyPost_ret (v := pairV (1, 0)) (by simp [results, Try.results22, go_sem]; rfl) rfl (Ret.mk ((Below.refl _ _).alloc (Nat.le_refl _) _) rfl)
theorem ret_val {w w' : World} {F : VP} {v x : Value} (h : v = x) (h1 : Ext w w') (h2 : F x w') : Ret w F (.returned v) w' := by subst h; exact ⟨v, rfl, h1, h2⟩
theorem int_eq {k : IntKind} {a b : Int} (h : a = b) : Value.int k a = .int k b := by rw [h]
theorem value_yes {a b : Int} (h : rightB a b = true) : value (a, b) = b * 65536 + a := by simp [value, h]
theorem value_no {a b : Int} (h : rightB a b = false) : value (a, b) = 0 := by simp [value, h]
set_option maxHeartbeats 400000 in
theorem value_any (a b : Int) (w : World) : Calls Try.prog 15 #[.agg #[.int .i64 a, .int .i64 b]] w (Ret w (VEq (.int .u32 (value (a, b))))) := by
  by_cases hr : rightB a b = true
  · obtain ⟨h1, h2, h3, h4⟩ := (rightB_iff a b).1 hr
    have H := hide (value_yes hr)
    go_enter Try.func15, Try.ntmps15
    go_wp2_with fail
    refine (right_any _ _ _).mono ?_
    rintro e w' ⟨v, rfl, hE, rfl⟩
    obtain ⟨hc, hf⟩ := hE.rules
    go_wp2
    go_ret
    exact ret_val (int_eq H.out.symm) ((ext_alloc _ _).tr hE) rfl
  · have hr : rightB a b = false := by simpa using hr
    have H := hide (value_no hr)
    go_enter Try.func15, Try.ntmps15
    go_wp2_with fail
    refine (right_any _ _ _).mono ?_
    rintro e w' ⟨v, rfl, hE, rfl⟩
    go_wp2
    go_ret
    exact ret_val (int_eq H.out.symm) ((ext_alloc _ _).tr hE) rfl
set_option maxHeartbeats 400000 in
theorem rvalue_any (a b : Int) (w : World) : Calls Try.prog 16 #[.agg #[.int .i64 a, .int .i64 b]] w (Ret w (VEq (.int .u32 (value (a, b))))) := by
  by_cases hr : rightB a b = true
  · obtain ⟨h1, h2, h3, h4⟩ := (rightB_iff a b).1 hr
    have H := hide (value_yes hr)
    go_enter Try.func16, Try.ntmps16
    go_wp2_with fail
    refine (rright_any _ _ _).mono ?_
    rintro e w' ⟨v, rfl, hE, rfl⟩
    obtain ⟨hc, hf⟩ := hE.rules
    go_wp2
    go_ret
    exact ret_val (int_eq H.out.symm) ((ext_alloc _ _).tr hE) rfl
  · have hr : rightB a b = false := by simpa using hr
    have H := hide (value_no hr)
    go_enter Try.func16, Try.ntmps16
    go_wp2_with fail
    refine (rright_any _ _ _).mono ?_
    rintro e w' ⟨v, rfl, hE, rfl⟩
    go_wp2
    go_ret
    exact ret_val (int_eq H.out.symm) ((ext_alloc _ _).tr hE) rfl

set_option maxHeartbeats 400000 in
theorem put_any (v : Int) (h0 : 0 ≤ v) (h1 : v < 4294967296) (w : World) : Calls Try.prog 23 #[.int .u32 v] w (Ret w (VBytes (putB v))) := by
  go_enter Try.func23, Try.ntmps23
  go_wp2
  go_ret
  refine ⟨_, rfl, ext_alloc _ _, VBytes.of (bs := putB v) (Nat.le_refl _) (by decide) fun _ => ⟨_, 0, rfl, by simp, fun j hj => ?_⟩⟩
  rw [Nat.zero_add, (Box.new _ _ _).cell]
  have hj' : j < 4 := hj
  match j, hj' with
  | 0, _ => exact congrArg some (int_eq (by show _ = ((UInt8.ofNat (v.toNat / 16777216)).toNat : Int); rw [UInt8.toNat_ofNat']; omega))
  | 1, _ => exact congrArg some (int_eq (by show _ = ((UInt8.ofNat (v.toNat / 65536)).toNat : Int); rw [UInt8.toNat_ofNat']; omega))
  | 2, _ => exact congrArg some (int_eq (by show _ = ((UInt8.ofNat (v.toNat / 256)).toNat : Int); rw [UInt8.toNat_ofNat']; omega))
  | 3, _ => exact congrArg some (int_eq (by show _ = ((UInt8.ofNat (v.toNat)).toNat : Int); rw [UInt8.toNat_ofNat']; omega))
set_option maxHeartbeats 400000 in
theorem rput_any (v : Int) (h0 : 0 ≤ v) (h1 : v < 4294967296) (w : World) : Calls Try.prog 24 #[.int .u32 v] w (Ret w (VBytes (putB v))) := by
  go_enter Try.func24, Try.ntmps24
  go_wp2
  go_ret
  refine ⟨_, rfl, ext_alloc _ _, VBytes.of (bs := putB v) (Nat.le_refl _) (by decide) fun _ => ⟨_, 0, rfl, by simp, fun j hj => ?_⟩⟩
  rw [Nat.zero_add, (Box.new _ _ _).cell]
  have hj' : j < 4 := hj
  match j, hj' with
  | 0, _ => exact congrArg some (int_eq (by show _ = ((UInt8.ofNat (v.toNat / 16777216)).toNat : Int); rw [UInt8.toNat_ofNat']; omega))
  | 1, _ => exact congrArg some (int_eq (by show _ = ((UInt8.ofNat (v.toNat / 65536)).toNat : Int); rw [UInt8.toNat_ofNat']; omega))
  | 2, _ => exact congrArg some (int_eq (by show _ = ((UInt8.ofNat (v.toNat / 256)).toNat : Int); rw [UInt8.toNat_ofNat']; omega))
  | 3, _ => exact congrArg some (int_eq (by show _ = ((UInt8.ofNat (v.toNat)).toNat : Int); rw [UInt8.toNat_ofNat']; omega))
theorem from0_ret (n : Int) (w : World) (h1 : -4611686018427387904 ≤ n) (h2 : n ≤ 4611686018427387904) : Calls Try.prog 25 #[.int .i64 n] w (Ret w (VEq (.int .i64 (n % 65521)))) :=
  (from0_any n w h1 h2).mono fun e w' ⟨he, hw⟩ => by subst he hw; exact Ret.mk (Ext.rf _) rfl
theorem joinOk_yes {a b c d n : Int} (h1 : rightB a b = true) (h2 : rightB c d = true) (h3 : 0 ≤ n) (h4 : n ≤ 2147483647) : join (a, b) (c, d) n = ((a + c - 1) % 65521, (b + d + n * a - n) % 65521) ∧ joinE (a, b) (c, d) n = 0 := by
  simp [join, joinE, joinOk, h1, h2, h3, h4]
theorem joinOk_no {a b c d n : Int} (h : ¬ (rightB a b = true ∧ rightB c d = true ∧ 0 ≤ n ∧ n ≤ 2147483647)) : join (a, b) (c, d) n = (0, 0) ∧ joinE (a, b) (c, d) n = 2 := by
  have : joinOk (a, b) (c, d) n = false := by
    rw [Bool.eq_false_iff]; intro hh; apply h
    simpa [joinOk, and_assoc] using hh
  simp [join, joinE, this]

set_option maxHeartbeats 1000000 in
theorem join_yes (a b c d n : Int) (w : World) (hab : rightB a b = true) (hcd : rightB c d = true) (h9 : 0 ≤ n) (h10 : n ≤ 2147483647) :
    Calls Try.prog 9 #[.agg #[.int .i64 a, .int .i64 b], .agg #[.int .i64 c, .int .i64 d], .int .i64 n] w (Ret w (VTup [VEq (pairV (join (a, b) (c, d) n)), VEq (.int .i64 (joinE (a, b) (c, d) n))])) := by
  obtain ⟨h1, h2, h3, h4⟩ := (rightB_iff a b).1 hab
  obtain ⟨h5, h6, h7, h8⟩ := (rightB_iff c d).1 hcd
  have hp1 : 0 ≤ n * a := Int.mul_nonneg h9 h1
  have hp2 : n * a ≤ 2147483647 * 65521 := Int.le_trans (Int.mul_le_mul_of_nonneg_right h10 h1) (Int.mul_le_mul_of_nonneg_left (by omega) (by omega))
  have H := hide (joinOk_yes hab hcd h9 h10)
  have Hb := hide (And.intro hp1 hp2)
  clear hp1 hp2
  go_enter Try.func9, Try.ntmps9
  go_wp2_with fail
  refine (right_any _ _ _).mono ?_
  rintro e w' ⟨v, rfl, hE, rfl⟩
  obtain ⟨hc, hf⟩ := hE.rules
  go_wp2_with fail
  refine (right_any _ _ _).mono ?_
  rintro e w2 ⟨v, rfl, hE2, rfl⟩
  replace hE := hE.tr hE2
  clear hc hf hE2
  go_wp2_with fail
  clear hab hcd
  have hbx := (Box.new w 23 #[.int .i64 a, .int .i64 b]).alloc (.cells #[.int .i64 c, .int .i64 d] 23) |>.alloc (.cells #[.int .i64 0, .int .i64 0] 23) |>.ext hE
  have hby := (Box.new (w.alloc (.cells #[.int .i64 a, .int .i64 b] 23)) 23 #[.int .i64 c, .int .i64 d]).alloc (.cells #[.int .i64 0, .int .i64 0] 23) |>.ext hE
  have hbz := (Box.new ((w.alloc (.cells #[.int .i64 a, .int .i64 b] 23)).alloc (.cells #[.int .i64 c, .int .i64 d] 23)) 23 #[.int .i64 0, .int .i64 0]).ext hE
  simp only [World.size_alloc] at hby hbz
  have ca := hbx.at_ 0 rfl
  have cb := hbx.at_ 1 rfl
  have cc := hby.at_ 0 rfl
  have cd := hby.at_ 1 rfl
  obtain ⟨hp1, hp2⟩ := Hb.out
  refine vregion 21 [] (by kernel_rfl) (by kernel_rfl) (fun _ _ _ _ _ h => h) ?_
  refine VWalk.det1 (.tmp 3) (want_none rfl) (opd_frame 3 rfl (by kernel_rfl)) (fun ρ w hE h1 => by simp [execOp, h1, go_sem]; rfl) ?_
  refine VWalk.load1 3 _ rfl (want_none rfl) (opd_dep 0 25 0 rfl rfl rfl rfl) (fun _ => by kernel_rfl) ca (ext_drew _) ?_
  refine VWalk.det1 (.tmp 4) (want_none rfl) (opd_frame 4 rfl (by kernel_rfl)) (fun ρ w hE h1 => by simp [execOp, h1, go_sem]; rfl) ?_
  refine VWalk.load1 3 _ rfl (want_none rfl) (opd_dep 2 27 0 rfl rfl rfl rfl) (fun _ => by kernel_rfl) cc (ext_drew _) ?_
  refine VWalk.add64 _ _ _ _ rfl (want_none rfl) (opd_dep 1 26 2 rfl rfl rfl rfl) (opd_dep 3 28 0 rfl rfl rfl rfl) (by omega) ?_
  refine VWalk.sub64 _ _ _ _ rfl (want_none rfl) (opd_dep 4 29 0 rfl rfl rfl rfl) (opd_const _) (by omega) ?_
  refine VWalk.call1 25 _ _ rfl (enters_of Try.func25 (by kernel_rfl) rfl) (want_none rfl) (opd_dep 5 30 0 rfl rfl rfl rfl) (fun u w _ hu => by rw [show u = _ from hu]; exact from0_ret _ w (by omega) (by omega)) ?_
  refine VWalk.det1 (.tmp 3) (want_none rfl) (opd_frame 3 rfl (by kernel_rfl)) (fun ρ w hE h1 => by simp [execOp, h1, go_sem]; rfl) ?_
  refine VWalk.load1 3 _ rfl (want_none rfl) (opd_dep 7 32 0 rfl rfl rfl rfl) (fun _ => by kernel_rfl) cb (ext_drew _) ?_
  refine VWalk.det1 (.tmp 4) (want_none rfl) (opd_frame 4 rfl (by kernel_rfl)) (fun ρ w hE h1 => by simp [execOp, h1, go_sem]; rfl) ?_
  refine VWalk.load1 3 _ rfl (want_none rfl) (opd_dep 9 34 0 rfl rfl rfl rfl) (fun _ => by kernel_rfl) cd (ext_drew _) ?_
  refine VWalk.add64 _ _ _ _ rfl (want_none rfl) (opd_dep 8 33 2 rfl rfl rfl rfl) (opd_dep 10 35 0 rfl rfl rfl rfl) (by omega) ?_
  refine VWalk.move _ rfl (want_none rfl) (opd_frame 2 rfl (by kernel_rfl)) ?_
  refine VWalk.det1 (.tmp 3) (want_none rfl) (opd_frame 3 rfl (by kernel_rfl)) (fun ρ w hE h1 => by simp [execOp, h1, go_sem]; rfl) ?_
  refine VWalk.load1 3 _ rfl (want_none rfl) (opd_dep 13 38 0 rfl rfl rfl rfl) (fun _ => by kernel_rfl) ca (ext_drew _) ?_
  refine VWalk.mul64 _ _ _ _ rfl (want_none rfl) (opd_dep 12 37 2 rfl rfl rfl rfl) (opd_dep 14 39 0 rfl rfl rfl rfl) (by omega) ?_
  refine VWalk.add64 _ _ _ _ rfl (want_none rfl) (opd_dep 11 36 4 rfl rfl rfl rfl) (opd_dep 15 40 0 rfl rfl rfl rfl) (by omega) ?_
  refine VWalk.move _ rfl (want_none rfl) (opd_frame 2 rfl (by kernel_rfl)) ?_
  refine VWalk.sub64 _ _ _ _ rfl (want_none rfl) (opd_dep 16 41 1 rfl rfl rfl rfl) (opd_dep 17 42 0 rfl rfl rfl rfl) (by omega) ?_
  refine VWalk.call1 25 _ _ rfl (enters_of Try.func25 (by kernel_rfl) rfl) (want_none rfl) (opd_dep 18 43 0 rfl rfl rfl rfl) (fun u w _ hu => by rw [show u = _ from hu]; exact from0_ret _ w (by omega) (by omega)) ?_
  refine VWalk.det2 (.tmp 31) (.tmp 44) (want_none rfl) (opd_dep 6 31 13 rfl rfl rfl rfl) (opd_dep 19 44 0 rfl rfl rfl rfl) (fun ρ w hE h1 h2 => by simp [execOp, h1, h2, go_sem]; rfl) ?_
  refine ⟨rfl, fun w3 hE3 => ?_⟩
  iterate 21 (refine VFin.eq ?_)
  refine VFin.nil ?_
  clear hbx hby ca cb cc cd
  replace hbz := hbz.ext ((ext_drew _).tr hE3)
  have cz := hbz.at_ 0 rfl
  have cz1 := hbz.at_ 1 rfl
  have fz := hbz.frozen 0
  have fz1 := hbz.frozen 1
  simp only [Act.put, List.setIfInBounds_toArray, List.set_cons_zero, List.set_cons_succ]
  go_wp2
  refine bodyPost_ret (v := .tuple #[pairV ((a + c - 1) % 65521, (b + d + n * a - n) % 65521), .int .i64 0]) (by simp [results, Try.results9, go_sem, cz, cz1]; rfl) rfl ?_
  refine Ret.mk ?_ (VTup.two (by rw [H.out.1]; rfl) (by rw [H.out.2]; rfl))
  exact (((((Below.refl _ _).alloc (Nat.le_refl _) _).alloc (by simp) _).alloc (by simp; omega) _).trans ((hE.tr ((ext_drew _).tr hE3)).mono (by simp; omega))).setCell (by simp; omega) _ |>.setCell (by simp; omega) _

set_option maxHeartbeats 1000000 in
theorem join_no (a b c d n : Int) (w : World) (hall : ¬ (rightB a b = true ∧ rightB c d = true ∧ 0 ≤ n ∧ n ≤ 2147483647)) :
    Calls Try.prog 9 #[.agg #[.int .i64 a, .int .i64 b], .agg #[.int .i64 c, .int .i64 d], .int .i64 n] w (Ret w (VTup [VEq (pairV (join (a, b) (c, d) n)), VEq (.int .i64 (joinE (a, b) (c, d) n))])) := by
  have H := hide (joinOk_no hall)
  cases hab : rightB a b
  · clear hall
    go_enter Try.func9, Try.ntmps9
    go_wp2_with fail
    refine (right_any _ _ _).mono ?_
    rintro e w' ⟨v, rfl, hE, rfl⟩
    obtain ⟨hc, hf⟩ := hE.rules
    go_wp2
    refine bodyPost_ret (v := .tuple #[pairV (0, 0), .int .i64 2]) (by simp [results, Try.results9, go_sem, hc]; rfl) rfl (Ret.mk ?_ (VTup.two (by rw [H.out.1]; rfl) (by rw [H.out.2]; rfl)))
    exact (((((Below.refl _ _).alloc (Nat.le_refl _) _).alloc (by simp) _).alloc (by simp; omega) _).trans (hE.mono (by simp; omega))).setCell (by simp; omega) _ |>.setCell (by simp; omega) _
  · cases hcd : rightB c d
    · clear hall
      go_enter Try.func9, Try.ntmps9
      go_wp2_with fail
      refine (right_any _ _ _).mono ?_
      rintro e w' ⟨v, rfl, hE, rfl⟩
      obtain ⟨hc, hf⟩ := hE.rules
      go_wp2_with fail
      refine (right_any _ _ _).mono ?_
      rintro e w2 ⟨v, rfl, hE2, rfl⟩
      replace hE := hE.tr hE2
      clear hc hf hE2
      obtain ⟨hc, hf⟩ := hE.rules
      go_wp2
      refine bodyPost_ret (v := .tuple #[pairV (0, 0), .int .i64 2]) (by simp [results, Try.results9, go_sem, hc]; rfl) rfl (Ret.mk ?_ (VTup.two (by rw [H.out.1]; rfl) (by rw [H.out.2]; rfl)))
      exact (((((Below.refl _ _).alloc (Nat.le_refl _) _).alloc (by simp) _).alloc (by simp; omega) _).trans (hE.mono (by simp; omega))).setCell (by simp; omega) _ |>.setCell (by simp; omega) _
    · have hn : n < 0 ∨ 2147483647 < n := by
        rw [hab, hcd] at hall; simp at hall; omega
      clear hall
      rcases hn with hn | hn
      all_goals
        go_enter Try.func9, Try.ntmps9
        go_wp2_with fail
        refine (right_any _ _ _).mono ?_
        rintro e w' ⟨v, rfl, hE, rfl⟩
        obtain ⟨hc, hf⟩ := hE.rules
        go_wp2_with fail
        refine (right_any _ _ _).mono ?_
        rintro e w2 ⟨v, rfl, hE2, rfl⟩
        replace hE := hE.tr hE2
        clear hc hf hE2
        obtain ⟨hc, hf⟩ := hE.rules
        go_wp2
        refine bodyPost_ret (v := .tuple #[pairV (0, 0), .int .i64 2]) (by simp [results, Try.results9, go_sem, hc]; rfl) rfl (Ret.mk ?_ (VTup.two (by rw [H.out.1]; rfl) (by rw [H.out.2]; rfl)))
        exact (((((Below.refl _ _).alloc (Nat.le_refl _) _).alloc (by simp) _).alloc (by simp; omega) _).trans (hE.mono (by simp; omega))).setCell (by simp; omega) _ |>.setCell (by simp; omega) _
set_option maxHeartbeats 1000000 in
theorem rjoin_no (a b c d n : Int) (w : World) (hall : ¬ (rightB a b = true ∧ rightB c d = true ∧ 0 ≤ n ∧ n ≤ 2147483647)) :
    Calls Try.prog 10 #[.agg #[.int .i64 a, .int .i64 b], .agg #[.int .i64 c, .int .i64 d], .int .i64 n] w (Ret w (VTup [VEq (pairV (join (a, b) (c, d) n)), VEq (.int .i64 (joinE (a, b) (c, d) n))])) := by
  have H := hide (joinOk_no hall)
  cases hab : rightB a b
  · clear hall
    go_enter Try.func10, Try.ntmps10
    go_wp2_with fail
    refine (rright_any _ _ _).mono ?_
    rintro e w' ⟨v, rfl, hE, rfl⟩
    obtain ⟨hc, hf⟩ := hE.rules
    go_wp2
    refine bodyPost_ret (v := .tuple #[pairV (0, 0), .int .i64 2]) (by simp [results, Try.results10, go_sem, hc]; rfl) rfl (Ret.mk ?_ (VTup.two (by rw [H.out.1]; rfl) (by rw [H.out.2]; rfl)))
    exact (((((Below.refl _ _).alloc (Nat.le_refl _) _).alloc (by simp) _).alloc (by simp; omega) _).trans (hE.mono (by simp; omega))).setCell (by simp; omega) _ |>.setCell (by simp; omega) _
  · cases hcd : rightB c d
    · clear hall
      go_enter Try.func10, Try.ntmps10
      go_wp2_with fail
      refine (rright_any _ _ _).mono ?_
      rintro e w' ⟨v, rfl, hE, rfl⟩
      obtain ⟨hc, hf⟩ := hE.rules
      go_wp2_with fail
      refine (rright_any _ _ _).mono ?_
      rintro e w2 ⟨v, rfl, hE2, rfl⟩
      replace hE := hE.tr hE2
      clear hc hf hE2
      obtain ⟨hc, hf⟩ := hE.rules
      go_wp2
      refine bodyPost_ret (v := .tuple #[pairV (0, 0), .int .i64 2]) (by simp [results, Try.results10, go_sem, hc]; rfl) rfl (Ret.mk ?_ (VTup.two (by rw [H.out.1]; rfl) (by rw [H.out.2]; rfl)))
      exact (((((Below.refl _ _).alloc (Nat.le_refl _) _).alloc (by simp) _).alloc (by simp; omega) _).trans (hE.mono (by simp; omega))).setCell (by simp; omega) _ |>.setCell (by simp; omega) _
    · have hn : n < 0 ∨ 2147483647 < n := by
        rw [hab, hcd] at hall; simp at hall; omega
      clear hall
      rcases hn with hn | hn
      all_goals
        go_enter Try.func10, Try.ntmps10
        go_wp2_with fail
        refine (rright_any _ _ _).mono ?_
        rintro e w' ⟨v, rfl, hE, rfl⟩
        obtain ⟨hc, hf⟩ := hE.rules
        go_wp2_with fail
        refine (rright_any _ _ _).mono ?_
        rintro e w2 ⟨v, rfl, hE2, rfl⟩
        replace hE := hE.tr hE2
        clear hc hf hE2
        obtain ⟨hc, hf⟩ := hE.rules
        go_wp2
        refine bodyPost_ret (v := .tuple #[pairV (0, 0), .int .i64 2]) (by simp [results, Try.results10, go_sem, hc]; rfl) rfl (Ret.mk ?_ (VTup.two (by rw [H.out.1]; rfl) (by rw [H.out.2]; rfl)))
        exact (((((Below.refl _ _).alloc (Nat.le_refl _) _).alloc (by simp) _).alloc (by simp; omega) _).trans (hE.mono (by simp; omega))).setCell (by simp; omega) _ |>.setCell (by simp; omega) _

theorem join_any (a b c d n : Int) (w : World) :
    Calls Try.prog 9 #[.agg #[.int .i64 a, .int .i64 b], .agg #[.int .i64 c, .int .i64 d], .int .i64 n] w (Ret w (VTup [VEq (pairV (join (a, b) (c, d) n)), VEq (.int .i64 (joinE (a, b) (c, d) n))])) := by
  by_cases hall : rightB a b = true ∧ rightB c d = true ∧ 0 ≤ n ∧ n ≤ 2147483647
  · exact join_yes a b c d n w hall.1 hall.2.1 hall.2.2.1 hall.2.2.2
  · exact join_no a b c d n w hall

theorem tmod_cases (n : Int) : (0 ≤ n ∧ n.tmod 65521 = n % 65521) ∨ (n < 0 ∧ n.tmod 65521 = -((-n) % 65521)) := by
  rcases Int.lt_or_le n 0 with h | h
  · right
    refine ⟨h, ?_⟩
    have := Int.neg_tmod (-n) 65521
    rw [Int.neg_neg] at this
    rw [this, Int.tmod_eq_emod_of_nonneg (by omega)]
  · exact .inl ⟨h, Int.tmod_eq_emod_of_nonneg h⟩
theorem tneg (n : Int) (_ : -4611686018427387904 ≤ n) (_ : n ≤ 4611686018427387904) (h : n.tmod 65521 < 0) : wrap64 (n.tmod 65521 + 65521) = n % 65521 := by
  rw [IntWalk.wrap64_in _ (by rcases tmod_cases n with ⟨_, e⟩ | ⟨_, e⟩ <;> rw [e] <;> omega)]
  rcases tmod_cases n with ⟨_, e⟩ | ⟨_, e⟩ <;> rw [e] at h ⊢ <;> omega
theorem tnn (n : Int) (_ : -4611686018427387904 ≤ n) (_ : n ≤ 4611686018427387904) (h : 0 ≤ n.tmod 65521) : n.tmod 65521 = n % 65521 := by
  rcases tmod_cases n with ⟨_, e⟩ | ⟨_, e⟩ <;> rw [e] at h ⊢ <;> omega
set_option maxHeartbeats 2000000 in
theorem rjoin_yes (a b c d n : Int) (w : World) (hab : rightB a b = true) (hcd : rightB c d = true) (h9 : 0 ≤ n) (h10 : n ≤ 2147483647) :
    Calls Try.prog 10 #[.agg #[.int .i64 a, .int .i64 b], .agg #[.int .i64 c, .int .i64 d], .int .i64 n] w (Ret w (VTup [VEq (pairV (join (a, b) (c, d) n)), VEq (.int .i64 (joinE (a, b) (c, d) n))])) := by
  obtain ⟨h1, h2, h3, h4⟩ := (rightB_iff a b).1 hab
  obtain ⟨h5, h6, h7, h8⟩ := (rightB_iff c d).1 hcd
  have hp1 : 0 ≤ n * a := Int.mul_nonneg h9 h1
  have hp2 : n * a ≤ 2147483647 * 65521 := Int.le_trans (Int.mul_le_mul_of_nonneg_right h10 h1) (Int.mul_le_mul_of_nonneg_left (by omega) (by omega))
  have H := hide (joinOk_yes hab hcd h9 h10)
  go_enter Try.func10, Try.ntmps10
  go_wp2_with fail
  refine (rright_any _ _ _).mono ?_
  rintro e w' ⟨v, rfl, hE, rfl⟩
  obtain ⟨hc, hf⟩ := hE.rules
  go_wp2_with fail
  refine (rright_any _ _ _).mono ?_
  rintro e w2 ⟨v, rfl, hE2, rfl⟩
  replace hE := hE.tr hE2
  clear hc hf hE2
  obtain ⟨hc, hf⟩ := hE.rules
  have d1 : decide (n < 0) = false := by simp; omega
  have d2 : decide (2147483647 < n) = false := by simp; omega
  go_wp2
  · have q1 := tneg (a + c - 1) (by omega) (by omega) (by assumption)
    have q2 := tneg (b + d + n * a - n) (by omega) (by omega) (by assumption)
    refine bodyPost_ret (v := .tuple #[pairV ((a + c - 1) % 65521, (b + d + n * a - n) % 65521), .int .i64 0]) (by simp [results, Try.results10, go_sem, hc, q1, q2]; rfl) rfl ?_
    refine Ret.mk ?_ (VTup.two (by rw [H.out.1]; rfl) (by rw [H.out.2]; rfl))
    exact (((((Below.refl _ _).alloc (Nat.le_refl _) _).alloc (by simp) _).alloc (by simp; omega) _).trans (hE.mono (by simp; omega))).setCell (by simp; omega) _ |>.setCell (by simp; omega) _
  · have q1 := tneg (a + c - 1) (by omega) (by omega) (by assumption)
    have q2 := tnn (b + d + n * a - n) (by omega) (by omega) (by assumption)
    refine bodyPost_ret (v := .tuple #[pairV ((a + c - 1) % 65521, (b + d + n * a - n) % 65521), .int .i64 0]) (by simp [results, Try.results10, go_sem, hc, q1, q2]; rfl) rfl ?_
    refine Ret.mk ?_ (VTup.two (by rw [H.out.1]; rfl) (by rw [H.out.2]; rfl))
    exact (((((Below.refl _ _).alloc (Nat.le_refl _) _).alloc (by simp) _).alloc (by simp; omega) _).trans (hE.mono (by simp; omega))).setCell (by simp; omega) _ |>.setCell (by simp; omega) _
  · have q1 := tnn (a + c - 1) (by omega) (by omega) (by assumption)
    have q2 := tneg (b + d + n * a - n) (by omega) (by omega) (by assumption)
    refine bodyPost_ret (v := .tuple #[pairV ((a + c - 1) % 65521, (b + d + n * a - n) % 65521), .int .i64 0]) (by simp [results, Try.results10, go_sem, hc, q1, q2]; rfl) rfl ?_
    refine Ret.mk ?_ (VTup.two (by rw [H.out.1]; rfl) (by rw [H.out.2]; rfl))
    exact (((((Below.refl _ _).alloc (Nat.le_refl _) _).alloc (by simp) _).alloc (by simp; omega) _).trans (hE.mono (by simp; omega))).setCell (by simp; omega) _ |>.setCell (by simp; omega) _
  · have q1 := tnn (a + c - 1) (by omega) (by omega) (by assumption)
    have q2 := tnn (b + d + n * a - n) (by omega) (by omega) (by assumption)
    refine bodyPost_ret (v := .tuple #[pairV ((a + c - 1) % 65521, (b + d + n * a - n) % 65521), .int .i64 0]) (by simp [results, Try.results10, go_sem, hc, q1, q2]; rfl) rfl ?_
    refine Ret.mk ?_ (VTup.two (by rw [H.out.1]; rfl) (by rw [H.out.2]; rfl))
    exact (((((Below.refl _ _).alloc (Nat.le_refl _) _).alloc (by simp) _).alloc (by simp; omega) _).trans (hE.mono (by simp; omega))).setCell (by simp; omega) _ |>.setCell (by simp; omega) _
theorem rjoin_any (a b c d n : Int) (w : World) :
    Calls Try.prog 10 #[.agg #[.int .i64 a, .int .i64 b], .agg #[.int .i64 c, .int .i64 d], .int .i64 n] w (Ret w (VTup [VEq (pairV (join (a, b) (c, d) n)), VEq (.int .i64 (joinE (a, b) (c, d) n))])) := by
  by_cases hall : rightB a b = true ∧ rightB c d = true ∧ 0 ≤ n ∧ n ≤ 2147483647
  · exact rjoin_yes a b c d n w hall.1 hall.2.1 hall.2.2.1 hall.2.2.2
  · exact rjoin_no a b c d n w hall
end Go.Proofs.Yteiebmonbjcgnaa
