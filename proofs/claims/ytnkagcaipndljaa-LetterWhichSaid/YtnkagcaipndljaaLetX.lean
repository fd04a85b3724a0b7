/- LetterWhich, walked. -/
import Derived.Test.YtnkagcaipndljaaLetT
import Derived.Laws.Bits64
import Derived.Deep.Cut
namespace Go.Proofs.Ytnkagcaipndljaa
open Go.RowKit LetM
set_option maxRecDepth 100000 in
set_option maxHeartbeats 4000000 in
theorem letterWhich_any (fold : Bool) (xs : List UInt8) (ps : List (List UInt8)) (va vp : Value) (w : World) (hA : VBytes xs va w) (hP : VParts ps vp w) : Calls Try.prog 6 #[.bool fold, va, vp] w (Ret w (VEq (.bool true))) := by
  obtain ⟨A1, c1, rfl, -⟩ := VParts.form hP
  obtain ⟨A2, c2, rfl, -⟩ := VBytes.form hA
  go_enter Try.func6, Try.ntmps6
  by_cases hla : (400 : Int) < xs.length
  · go_upto_region 2 with (fail)
    refine vregion0 1 (by kernel_rfl) ?_
    refine VWalk.call0 9 _ rfl (enters_of Try.func9 (by kernel_rfl) rfl) (want_none rfl) c_wakes ?_
    refine ⟨rfl, fun W2 hE2 => ?_⟩
    refine VFin.eq ?_  -- 0
    refine VFin.nil ?_
    simp only [Act.put, List.setIfInBounds_toArray, List.set_cons_zero, List.set_cons_succ]
    have hA := VP.st _ _ _ _ hA hE2
    have hP := VP.st _ _ _ _ hP hE2
    have hE := hE2
    go_wp2
    go_ret
    exact Ret.mk hE rfl
  have hla' : xs.length ≤ 400 := by omega
  clear hla
  go_wp2_with fail
  refine (great_any ps _ _ hP).mono ?_
  rintro e W1 ⟨v, rfl, hE, rfl⟩
  have hP := VP.st _ _ _ _ hP hE
  have hA := VP.st _ _ _ _ hA hE
  by_cases hg : greatB ps = true
  · rw [hg]
    go_upto_region 2 with (fail)
    refine vregion0 1 (by kernel_rfl) ?_
    refine VWalk.call0 9 _ rfl (enters_of Try.func9 (by kernel_rfl) rfl) (want_none rfl) c_wakes ?_
    refine ⟨rfl, fun W2 hE2 => ?_⟩
    refine VFin.eq ?_  -- 0
    refine VFin.nil ?_
    simp only [Act.put, List.setIfInBounds_toArray, List.set_cons_zero, List.set_cons_succ]
    have hA := VP.st _ _ _ _ hA hE2
    have hP := VP.st _ _ _ _ hP hE2
    have hE := hE.tr hE2
    go_wp2
    go_ret
    exact Ret.mk hE rfl
  have hg' : greatB ps = false := by simpa using hg
  rw [hg']
  obtain ⟨hpl, hfl⟩ := greatB_false hg'
  have hws : ∀ b ∈ ps, b.length ≤ 3000 := fun b hb => by
    have := flat_mem_le hb
    omega
  clear hg hg'
  go_upto_region 3 with (fail)
  refine vregion0 4 (by kernel_rfl) ?_
  refine VWalk.move _ rfl (want_none rfl) (opd_frame 0 rfl (by kernel_rfl)) ?_
  refine VWalk.move _ rfl (want_none rfl) (opd_fr 1 rfl hA (Ext.rf _) (by kernel_rfl)) ?_
  refine VWalk.move _ rfl (want_none rfl) (opd_fr 2 rfl hP (Ext.rf _) (by kernel_rfl)) ?_
  refine VWalk.call3 18 _ _ _ _ rfl (enters_of Try.func18 (by kernel_rfl) rfl) (want_none rfl) (opd_dep 0 18 2 rfl rfl rfl rfl) (opd_dep 1 19 1 rfl rfl rfl rfl) (opd_dep 2 20 0 rfl rfl rfl rfl) (c_which _ _ ps) ?_
  refine ⟨rfl, fun W3 hE3 => ?_⟩
  refine VFin.eq ?_  -- 0
  refine VFin.any fun v3_1 hv3_1 => ?_
  refine VFin.any fun v3_2 hv3_2 => ?_
  refine VFin.eq ?_  -- 3
  refine VFin.nil ?_
  simp only [Act.put, List.setIfInBounds_toArray, List.set_cons_zero, List.set_cons_succ]
  clear hv3_1 hv3_2
  have hA := VP.st _ _ _ _ hA hE3
  have hP := VP.st _ _ _ _ hP hE3
  have hE := hE.tr hE3
  have hw := whichFrom_ge fold xs ps 0
  rw [show whichFrom fold xs 0 ps = which fold xs ps from rfl] at hw
  rcases hw with ⟨hk, hall⟩ | ⟨K, hK, hk, hs, hn⟩
  · rw [hk]
    go_wp2
    go_loopw [8] (fun i wr => ∃ k : Nat, k ≤ ps.length ∧ i = .int .i64 k ∧ Below W3.heap.size W3 wr) (fun i _ => ps.length - (intOf i).toNat)
    case atStart => exact ⟨0, by omega, rfl, Below.refl _ _⟩
    case round =>
      obtain ⟨k, hk, rfl, hR⟩ := hrel
      have hP := VP.st _ _ _ _ hP hR
      have hA := VP.st _ _ _ _ hA hR
      have hE := hE.tr hR
      by_cases hlt : k < ps.length
      · go_upto_region 9 with (fail)
        refine vregion0 7 (by kernel_rfl) ?_
        refine VWalk.move _ rfl (want_none rfl) (opd_frame 0 rfl (by kernel_rfl)) ?_
        refine VWalk.move _ rfl (want_none rfl) (opd_fr 1 rfl hA (Ext.rf _) (by kernel_rfl)) ?_
        refine VWalk.move _ rfl (want_none rfl) (opd_fr 2 rfl hP (Ext.rf _) (by kernel_rfl)) ?_
        refine VWalk.move _ rfl (want_none rfl) (opd_frame 8 rfl (by kernel_rfl)) ?_
        refine VWalk.indexP 23 22 _ _ .i64 k rfl Try.underlying23 (by kernel_rfl) (want_none rfl) (opd_dep 2 38 1 rfl rfl rfl rfl) (opd_dep 3 39 0 rfl rfl rfl rfl) hlt ?_
        refine VWalk.loadP 22 _ rfl (want_none rfl) (opd_dep 4 40 0 rfl rfl rfl rfl) (fun _ => by kernel_rfl) ?_
        refine VWalk.call3 14 _ _ _ _ rfl (enters_of Try.func14 (by kernel_rfl) rfl) (want_none rfl) (opd_dep 0 36 5 rfl rfl rfl rfl) (opd_dep 1 37 4 rfl rfl rfl rfl) (opd_dep 5 41 0 rfl rfl rfl rfl) (c_same _ _ _) ?_
        refine ⟨rfl, fun W9 hE9 => ?_⟩
        refine VFin.eq ?_  -- 0
        refine VFin.any fun v9_1 hv9_1 => ?_
        refine VFin.any fun v9_2 hv9_2 => ?_
        refine VFin.eq ?_  -- 3
        refine VFin.any fun v9_4 hv9_4 => ?_
        refine VFin.any fun v9_5 hv9_5 => ?_
        refine VFin.eq ?_  -- 6
        refine VFin.nil ?_
        simp only [Act.put, List.setIfInBounds_toArray, List.set_cons_zero, List.set_cons_succ]
        clear hv9_1 hv9_2 hv9_4 hv9_5
        have hA := VP.st _ _ _ _ hA hE9
        have hP := VP.st _ _ _ _ hP hE9
        have hE := hE.tr hE9
        rw [hall _ (List.getElem_mem hlt)]
        go_wp2
        exact ⟨⟨k + 1, by omega, by go_num, Ext.tr hR hE9⟩, by simp [intOf]; omega⟩
      · obtain rfl : k = ps.length := by omega
        go_upto_region 12 with (fail)
        refine law_end0 (r := .bool true) (by assumption) 1 6 62 _ (by kernel_rfl) rfl rfl rfl rfl rfl (by kernel_rfl) rfl 0 rfl rfl ?_
        refine VWalk.call0 9 _ rfl (enters_of Try.func9 (by kernel_rfl) rfl) (want_none rfl) c_wakes ?_
        refine ⟨rfl, rfl, rfl, fun W12 hE12 => ?_⟩
        exact Ret.mk (hE.tr hE12) rfl
  · rw [Nat.zero_add] at hk
    rw [hk]
    have hKi : (K : Int) < (ps.length : Int) := by omega
    have hKi2 : ¬ ((K : Int) < -1) := by omega
    go_wp2
    go_loopw [8] (fun i wr => ∃ k : Nat, k ≤ ps.length ∧ i = .int .i64 k ∧ Below W3.heap.size W3 wr) (fun i _ => ps.length - (intOf i).toNat)
    case atStart => exact ⟨0, by omega, rfl, Below.refl _ _⟩
    case round =>
      obtain ⟨k, hk, rfl, hR⟩ := hrel
      have hP := VP.st _ _ _ _ hP hR
      have hA := VP.st _ _ _ _ hA hR
      have hE := hE.tr hR
      by_cases hlt : k < ps.length
      · go_upto_region 9 with (fail)
        refine vregion0 7 (by kernel_rfl) ?_
        refine VWalk.move _ rfl (want_none rfl) (opd_frame 0 rfl (by kernel_rfl)) ?_
        refine VWalk.move _ rfl (want_none rfl) (opd_fr 1 rfl hA (Ext.rf _) (by kernel_rfl)) ?_
        refine VWalk.move _ rfl (want_none rfl) (opd_fr 2 rfl hP (Ext.rf _) (by kernel_rfl)) ?_
        refine VWalk.move _ rfl (want_none rfl) (opd_frame 8 rfl (by kernel_rfl)) ?_
        refine VWalk.indexP 23 22 _ _ .i64 k rfl Try.underlying23 (by kernel_rfl) (want_none rfl) (opd_dep 2 38 1 rfl rfl rfl rfl) (opd_dep 3 39 0 rfl rfl rfl rfl) hlt ?_
        refine VWalk.loadP 22 _ rfl (want_none rfl) (opd_dep 4 40 0 rfl rfl rfl rfl) (fun _ => by kernel_rfl) ?_
        refine VWalk.call3 14 _ _ _ _ rfl (enters_of Try.func14 (by kernel_rfl) rfl) (want_none rfl) (opd_dep 0 36 5 rfl rfl rfl rfl) (opd_dep 1 37 4 rfl rfl rfl rfl) (opd_dep 5 41 0 rfl rfl rfl rfl) (c_same _ _ _) ?_
        refine ⟨rfl, fun W9 hE9 => ?_⟩
        refine VFin.eq ?_  -- 0
        refine VFin.any fun v9_1 hv9_1 => ?_
        refine VFin.any fun v9_2 hv9_2 => ?_
        refine VFin.eq ?_  -- 3
        refine VFin.any fun v9_4 hv9_4 => ?_
        refine VFin.any fun v9_5 hv9_5 => ?_
        refine VFin.eq ?_  -- 6
        refine VFin.nil ?_
        simp only [Act.put, List.setIfInBounds_toArray, List.set_cons_zero, List.set_cons_succ]
        clear hv9_1 hv9_2 hv9_4 hv9_5
        have hA := VP.st _ _ _ _ hA hE9
        have hP := VP.st _ _ _ _ hP hE9
        have hE := hE.tr hE9
        rcases Nat.lt_trichotomy k K with h | h | h
        · have h1 : (k : Int) < (K : Int) := by omega
          have h2 : ((k : Int) == (K : Int)) = false := by rw [beq_eq_false_iff_ne]; omega
          rw [hn k h]
          go_wp2
          exact ⟨⟨k + 1, by omega, by go_num, Ext.tr hR hE9⟩, by simp [intOf]; omega⟩
        · subst h
          rw [hs]
          go_wp2
          exact ⟨⟨k + 1, by omega, by go_num, Ext.tr hR hE9⟩, by simp [intOf]; omega⟩
        · have h1 : ¬ (k : Int) < (K : Int) := by omega
          have h2 : ((k : Int) == (K : Int)) = false := by rw [beq_eq_false_iff_ne]; omega
          cases hq : sameB fold xs ps[k]
          · go_wp2
            exact ⟨⟨k + 1, by omega, by go_num, Ext.tr hR hE9⟩, by simp [intOf]; omega⟩
          · go_wp2
            exact ⟨⟨k + 1, by omega, by go_num, Ext.tr hR hE9⟩, by simp [intOf]; omega⟩
      · obtain rfl : k = ps.length := by omega
        go_upto_region 12 with (fail)
        refine law_end0 (r := .bool true) (by assumption) 1 6 62 _ (by kernel_rfl) rfl rfl rfl rfl rfl (by kernel_rfl) rfl 0 rfl rfl ?_
        refine VWalk.call0 9 _ rfl (enters_of Try.func9 (by kernel_rfl) rfl) (want_none rfl) c_wakes ?_
        refine ⟨rfl, rfl, rfl, fun W12 hE12 => ?_⟩
        exact Ret.mk (hE.tr hE12) rfl
end Go.Proofs.Ytnkagcaipndljaa
