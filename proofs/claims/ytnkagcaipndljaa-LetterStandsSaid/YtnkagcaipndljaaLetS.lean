/- LetterStands, walked. -/
import Derived.Test.YtnkagcaipndljaaLetT
import Derived.Laws.Bits64
import Derived.Deep.Cut
namespace Go.Proofs.Ytnkagcaipndljaa
open Go.RowKit LetM
/-- Where the first k texts end, when joined. -/
def flen (ps : List (List UInt8)) (k : Nat) : Nat := (ps.take k).flatten.length
theorem flen_succ (ps : List (List UInt8)) (k : Nat) (h : k < ps.length) : flen ps (k + 1) = flen ps k + ps[k].length := by
  unfold flen; rw [take_succ_flat ps k h, List.length_append]
theorem flen_le (ps : List (List UInt8)) (k : Nat) : flen ps k ≤ flen ps ps.length := by
  unfold flen; rw [List.take_length]; exact take_flat_le ps k
theorem stands_joined (fold : Bool) (ps : List (List UInt8)) (k : Nat) (h : k < ps.length) : standsB fold ps.flatten ((flen ps (k + 1) : Nat) : Int) ps[k] = true := by
  unfold flen
  have h1 := take_succ_flat ps k h
  have h2 := take_flat_le ps (k + 1)
  rw [stands_yes fold ps.flatten ps[k] _ (by rw [h1, List.length_append]; omega) h2]
  have h3 : ps.flatten = (ps.take (k + 1)).flatten ++ (ps.drop (k + 1)).flatten := by rw [← List.flatten_append, List.take_append_drop]
  have h4 : ps.flatten.take (ps.take (k + 1)).flatten.length = (ps.take (k + 1)).flatten := by
    conv => lhs; rw [h3]
    rw [List.take_left']; rfl
  rw [h4, h1, List.length_append, Nat.add_sub_cancel, List.drop_left]
  exact sameB_refl fold _
set_option maxRecDepth 100000 in
set_option maxHeartbeats 4000000 in
theorem letterStands_any (fold : Bool) (ps : List (List UInt8)) (wd : List UInt8) (place : Int) (vp vw : Value) (w : World) (hP : VParts ps vp w) (hW : VBytes wd vw w) : Calls Try.prog 5 #[.bool fold, vp, vw, .int .i64 place] w (Ret w (VEq (.bool true))) := by
  obtain ⟨A1, c1, rfl, -⟩ := VParts.form hP
  obtain ⟨A2, c2, rfl, -⟩ := VBytes.form hW
  go_enter Try.func5, Try.ntmps5
  go_wp2_with fail
  refine (great_any ps _ _ hP).mono ?_
  rintro e W1 ⟨v, rfl, hE, rfl⟩
  have hP := VP.st _ _ _ _ hP hE
  have hW := VP.st _ _ _ _ hW hE
  by_cases hg : greatB ps = true
  · rw [hg]
    go_upto_region 2 with (fail)
    refine vregion0 1 (by kernel_rfl) ?_
    refine VWalk.call0 9 _ rfl (enters_of Try.func9 (by kernel_rfl) rfl) (want_none rfl) c_wakes ?_
    refine ⟨rfl, fun W2 hE2 => ?_⟩
    refine VFin.eq ?_  -- 0
    refine VFin.nil ?_
    simp only [Act.put, List.setIfInBounds_toArray, List.set_cons_zero, List.set_cons_succ]
    have hP := VP.st _ _ _ _ hP hE2
    have hW := VP.st _ _ _ _ hW hE2
    have hE := hE.tr hE2
    go_wp2
    go_ret
    exact Ret.mk hE rfl
  have hg' : greatB ps = false := by simpa using hg
  rw [hg']
  obtain ⟨hpl, hfl⟩ := greatB_false hg'
  have hws : ∀ b ∈ ps, b.length ≤ 3000 := fun b hb => by
    have := flat_mem_le hb
    omega
  clear hg hg'
  by_cases hlw : (400 : Int) < wd.length
  · go_upto_region 2 with (fail)
    refine vregion0 1 (by kernel_rfl) ?_
    refine VWalk.call0 9 _ rfl (enters_of Try.func9 (by kernel_rfl) rfl) (want_none rfl) c_wakes ?_
    refine ⟨rfl, fun W2 hE2 => ?_⟩
    refine VFin.eq ?_  -- 0
    refine VFin.nil ?_
    simp only [Act.put, List.setIfInBounds_toArray, List.set_cons_zero, List.set_cons_succ]
    have hP := VP.st _ _ _ _ hP hE2
    have hW := VP.st _ _ _ _ hW hE2
    have hE := hE.tr hE2
    go_wp2
    go_ret
    exact Ret.mk hE rfl
  have hlw' : wd.length ≤ 400 := by omega
  clear hlw
  go_upto_region 3 with (fail)
  refine vregion0 2 (by kernel_rfl) ?_
  refine VWalk.move _ rfl (want_none rfl) (opd_fr 1 rfl hP (Ext.rf _) (by kernel_rfl)) ?_
  refine VWalk.call1 20 _ _ rfl (enters_of Try.func20 (by kernel_rfl) rfl) (want_none rfl) (opd_dep 0 21 0 rfl rfl rfl rfl) (c_join ps (by omega)) ?_
  refine ⟨rfl, fun W3 hE3 => ?_⟩
  refine VFin.any fun v3_0 hv3_0 => ?_
  refine VFin.any fun v3_1 hv3_1 => ?_
  refine VFin.nil ?_
  simp only [Act.put, List.setIfInBounds_toArray, List.set_cons_zero, List.set_cons_succ]
  clear hv3_0
  have hP := VP.st _ _ _ _ hP hE3
  have hW := VP.st _ _ _ _ hW hE3
  have hE := hE.tr hE3
  obtain ⟨A3, c3, rfl, -⟩ := VBytes.form hv3_1
  obtain ⟨all, hall⟩ : ∃ all, all = ps.flatten := ⟨_, rfl⟩
  have hal : all.length = flen ps ps.length := by unfold flen; rw [List.take_length, hall]
  rw [← hall] at hv3_1 ⊢
  have hst := fun f k h => stands_joined f ps k h
  rw [← hall] at hst hfl
  have Hal := hide hal
  clear hal hall
  have hf0 : flen ps 0 = 0 := rfl
  go_wp2
  go_loopw [10, 11] (fun a i wr => ∃ k : Nat, k ≤ ps.length ∧ i = .int .i64 k ∧ a = .int .i64 (flen ps k : Nat) ∧ Below W3.heap.size W3 wr) (fun _ i _ => ps.length - (intOf i).toNat)
  case atStart => exact ⟨0, by omega, rfl, rfl, Below.refl _ _⟩
  case round =>
    obtain ⟨k, hk, rfl, rfl, hR⟩ := hrel
    have hP := VP.st _ _ _ _ hP hR
    have hW := VP.st _ _ _ _ hW hR
    have hv3_1 := VP.st _ _ _ _ hv3_1 hR
    have hE := hE.tr hR
    by_cases hlt : k < ps.length
    · have e2 := flen_succ ps k hlt
      have e3 : ((flen ps k : Nat) : Int) + (ps[k].length : Int) = (flen ps (k + 1) : Nat) := by omega
      have hfl3 : flen ps (k + 1) ≤ all.length := by have := flen_le ps (k + 1); have := Hal.out; omega
      go_upto_region 8 with (fail)
      refine vregion0 7 (by kernel_rfl) ?_
      refine VWalk.move _ rfl (want_none rfl) (opd_frame 10 rfl (by kernel_rfl)) ?_
      refine VWalk.move _ rfl (want_none rfl) (opd_fr 1 rfl hP (Ext.rf _) (by kernel_rfl)) ?_
      refine VWalk.move _ rfl (want_none rfl) (opd_frame 11 rfl (by kernel_rfl)) ?_
      refine VWalk.indexP 23 22 _ _ .i64 k rfl Try.underlying23 (by kernel_rfl) (want_none rfl) (opd_dep 1 30 1 rfl rfl rfl rfl) (opd_dep 2 31 0 rfl rfl rfl rfl) hlt ?_
      refine VWalk.loadP 22 _ rfl (want_none rfl) (opd_dep 3 32 0 rfl rfl rfl rfl) (fun _ => by kernel_rfl) ?_
      refine VWalk.lenB 22 5 _ rfl Try.underlying22 (want_none rfl) (opd_dep 4 33 0 rfl rfl rfl rfl) ?_
      refine VWalk.add64 _ _ _ _ rfl (want_none rfl) (opd_dep 0 29 5 rfl rfl rfl rfl) (opd_dep 5 34 0 rfl rfl rfl rfl) (by omega) ?_
      refine ⟨rfl, fun W8 hE8 => ?_⟩
      refine VFin.eq ?_  -- 0
      refine VFin.any fun v8_1 hv8_1 => ?_
      refine VFin.eq ?_  -- 2
      refine VFin.any fun v8_3 hv8_3 => ?_
      refine VFin.any fun v8_4 hv8_4 => ?_
      refine VFin.eq ?_  -- 5
      refine VFin.eq ?_  -- 6
      refine VFin.nil ?_
      simp only [Act.put, List.setIfInBounds_toArray, List.set_cons_zero, List.set_cons_succ]
      clear hv8_1 hv8_3 hv8_4
      have hP := VP.st _ _ _ _ hP hE8
      have hW := VP.st _ _ _ _ hW hE8
      have hv3_1 := VP.st _ _ _ _ hv3_1 hE8
      have hE := hE.tr hE8
      rw [e3]
      go_upto_region 9 with (fail)
      refine vregion0 18 (by kernel_rfl) ?_
      refine VWalk.move _ rfl (want_none rfl) (opd_fr 9 rfl hv3_1 (Ext.rf _) (by kernel_rfl)) ?_
      refine VWalk.move _ rfl (want_none rfl) (opd_frame 10 rfl (by kernel_rfl)) ?_
      refine VWalk.move _ rfl (want_none rfl) (opd_fr 1 rfl hP (Ext.rf _) (by kernel_rfl)) ?_
      refine VWalk.move _ rfl (want_none rfl) (opd_frame 11 rfl (by kernel_rfl)) ?_
      refine VWalk.indexP 23 22 _ _ .i64 k rfl Try.underlying23 (by kernel_rfl) (want_none rfl) (opd_dep 2 38 1 rfl rfl rfl rfl) (opd_dep 3 39 0 rfl rfl rfl rfl) hlt ?_
      refine VWalk.loadP 22 _ rfl (want_none rfl) (opd_dep 4 40 0 rfl rfl rfl rfl) (fun _ => by kernel_rfl) ?_
      refine VWalk.call4 16 _ _ _ _ _ rfl (enters_of Try.func16 (by kernel_rfl) rfl) (want_none rfl) (opd_const _) (opd_dep 0 36 5 rfl rfl rfl rfl) (opd_dep 1 37 4 rfl rfl rfl rfl) (opd_dep 5 41 0 rfl rfl rfl rfl) (c_at _ _ _ _) ?_
      refine VWalk.headT (hst false k hlt) ?_
      refine VWalk.notB _ _ rfl (want_none rfl) (opd_dep 6 42 0 rfl rfl rfl rfl) rfl ?_
      refine VWalk.move _ rfl (want_none rfl) (opd_dep 7 43 0 rfl rfl rfl rfl) ?_
      refine VWalk.move _ rfl (want_ff 8 44 0 rfl (by kernel_rfl) rfl rfl rfl rfl) (opd_fr 9 rfl hv3_1 (Ext.rf _) (by kernel_rfl)) ?_
      refine VWalk.move _ rfl (want_ff 8 44 1 rfl (by kernel_rfl) rfl rfl rfl rfl) (opd_frame 10 rfl (by kernel_rfl)) ?_
      refine VWalk.move _ rfl (want_ff 8 44 2 rfl (by kernel_rfl) rfl rfl rfl rfl) (opd_fr 1 rfl hP (Ext.rf _) (by kernel_rfl)) ?_
      refine VWalk.move _ rfl (want_ff 8 44 3 rfl (by kernel_rfl) rfl rfl rfl rfl) (opd_frame 11 rfl (by kernel_rfl)) ?_
      refine VWalk.indexP 23 22 _ _ .i64 k rfl Try.underlying23 (by kernel_rfl) (want_ff 8 44 4 rfl (by kernel_rfl) rfl rfl rfl rfl) (opd_dep 11 47 1 rfl rfl rfl rfl) (opd_dep 12 48 0 rfl rfl rfl rfl) hlt ?_
      refine VWalk.loadP 22 _ rfl (want_ff 8 44 5 rfl (by kernel_rfl) rfl rfl rfl rfl) (opd_dep 13 49 0 rfl rfl rfl rfl) (fun _ => by kernel_rfl) ?_
      refine VWalk.call4 16 _ _ _ _ _ rfl (enters_of Try.func16 (by kernel_rfl) rfl) (want_ff 8 44 6 rfl (by kernel_rfl) rfl rfl rfl rfl) (opd_const _) (opd_dep 9 45 5 rfl rfl rfl rfl) (opd_dep 10 46 4 rfl rfl rfl rfl) (opd_dep 14 50 0 rfl rfl rfl rfl) (c_at _ _ _ _) ?_
      refine VWalk.headT (hst true k hlt) ?_
      refine VWalk.notB _ _ rfl (want_ff 8 44 7 rfl (by kernel_rfl) rfl rfl rfl rfl) (opd_dep 15 51 0 rfl rfl rfl rfl) rfl ?_
      refine VWalk.pickF _ _ _ rfl (want_none rfl) (opd_dep 8 44 8 rfl rfl rfl rfl) (opd_dep 16 52 0 rfl rfl rfl rfl) ?_
      refine ⟨rfl, fun W9 hE9 => ?_⟩
      refine VFin.any fun v9_0 hv9_0 => ?_
      refine VFin.eq ?_  -- 1
      refine VFin.any fun v9_2 hv9_2 => ?_
      refine VFin.eq ?_  -- 3
      refine VFin.any fun v9_4 hv9_4 => ?_
      refine VFin.any fun v9_5 hv9_5 => ?_
      refine VFin.eq ?_  -- 6
      refine VFin.eq ?_  -- 7
      refine VFin.eq ?_  -- 8
      refine VFin.any fun v9_9 hv9_9 => ?_
      refine VFin.eq ?_  -- 10
      refine VFin.any fun v9_11 hv9_11 => ?_
      refine VFin.eq ?_  -- 12
      refine VFin.any fun v9_13 hv9_13 => ?_
      refine VFin.any fun v9_14 hv9_14 => ?_
      refine VFin.eq ?_  -- 15
      refine VFin.eq ?_  -- 16
      refine VFin.eq ?_  -- 17
      refine VFin.nil ?_
      simp only [Act.put, List.setIfInBounds_toArray, List.set_cons_zero, List.set_cons_succ]
      clear hv9_0 hv9_2 hv9_4 hv9_5 hv9_9 hv9_11 hv9_13 hv9_14
      have hP := VP.st _ _ _ _ hP hE9
      have hW := VP.st _ _ _ _ hW hE9
      have hv3_1 := VP.st _ _ _ _ hv3_1 hE9
      have hE := hE.tr hE9
      go_wp2
      exact ⟨⟨k + 1, by omega, by go_num, rfl, Ext.tr hR (Ext.tr hE8 hE9)⟩, by simp [intOf]; omega⟩
    · obtain rfl : k = ps.length := by omega
      go_upto_region 11 with (fail)
      refine vregion0 4 (by kernel_rfl) ?_
      refine VWalk.move _ rfl (want_none rfl) (opd_frame 10 rfl (by kernel_rfl)) ?_
      refine VWalk.move _ rfl (want_none rfl) (opd_fr 9 rfl hv3_1 (Ext.rf _) (by kernel_rfl)) ?_
      refine VWalk.lenB 22 5 _ rfl Try.underlying22 (want_none rfl) (opd_dep 1 55 0 rfl rfl rfl rfl) ?_
      refine VWalk.neT _ _ _ _ rfl (want_none rfl) (opd_dep 0 54 2 rfl rfl rfl rfl) (opd_dep 2 56 0 rfl rfl rfl rfl) (by rw [Hal.out]) ?_
      refine ⟨rfl, fun W11 hE11 => ?_⟩
      refine VFin.eq ?_  -- 0
      refine VFin.any fun v11_1 hv11_1 => ?_
      refine VFin.eq ?_  -- 2
      refine VFin.eq ?_  -- 3
      refine VFin.nil ?_
      simp only [Act.put, List.setIfInBounds_toArray, List.set_cons_zero, List.set_cons_succ]
      clear hv11_1
      have hP := VP.st _ _ _ _ hP hE11
      have hW := VP.st _ _ _ _ hW hE11
      have hv3_1 := VP.st _ _ _ _ hv3_1 hE11
      have hE := hE.tr hE11
      go_upto_region 13 with (fail)
      refine vregion0 5 (by kernel_rfl) ?_
      refine VWalk.move _ rfl (want_none rfl) (opd_frame 0 rfl (by kernel_rfl)) ?_
      refine VWalk.move _ rfl (want_none rfl) (opd_fr 9 rfl hv3_1 (Ext.rf _) (by kernel_rfl)) ?_
      refine VWalk.move _ rfl (want_none rfl) (opd_frame 3 rfl (by kernel_rfl)) ?_
      refine VWalk.move _ rfl (want_none rfl) (opd_fr 2 rfl hW (Ext.rf _) (by kernel_rfl)) ?_
      refine VWalk.call4 16 _ _ _ _ _ rfl (enters_of Try.func16 (by kernel_rfl) rfl) (want_none rfl) (opd_dep 0 58 3 rfl rfl rfl rfl) (opd_dep 1 59 2 rfl rfl rfl rfl) (opd_dep 2 60 1 rfl rfl rfl rfl) (opd_dep 3 61 0 rfl rfl rfl rfl) (c_at _ _ _ _) ?_
      refine ⟨rfl, fun W13 hE13 => ?_⟩
      refine VFin.eq ?_  -- 0
      refine VFin.any fun v13_1 hv13_1 => ?_
      refine VFin.eq ?_  -- 2
      refine VFin.any fun v13_3 hv13_3 => ?_
      refine VFin.eq ?_  -- 4
      refine VFin.nil ?_
      simp only [Act.put, List.setIfInBounds_toArray, List.set_cons_zero, List.set_cons_succ]
      clear hv13_1 hv13_3
      have hP := VP.st _ _ _ _ hP hE13
      have hW := VP.st _ _ _ _ hW hE13
      have hv3_1 := VP.st _ _ _ _ hv3_1 hE13
      have hE := hE.tr hE13
      by_cases h1 : place < (wd.length : Int)
      · rw [stands_no1 fold _ wd place h1]
        go_upto_region 15 with (fail)
        refine vregion0 5 (by kernel_rfl) ?_
        refine VWalk.move _ rfl (want_none rfl) (opd_frame 12 rfl (by kernel_rfl)) ?_
        refine VWalk.notB _ _ rfl (want_none rfl) (opd_dep 0 73 0 rfl rfl rfl rfl) rfl ?_
        refine VWalk.move _ rfl (want_none rfl) (opd_dep 1 74 0 rfl rfl rfl rfl) ?_
        refine VWalk.call0 9 _ rfl (enters_of Try.func9 (by kernel_rfl) rfl) (want_tt 2 75 0 rfl (by kernel_rfl) rfl rfl rfl rfl) c_wakes ?_
        refine VWalk.pickT _ _ _ rfl (want_none rfl) (opd_dep 2 75 1 rfl rfl rfl rfl) (opd_dep 3 76 0 rfl rfl rfl rfl) ?_
        refine ⟨rfl, fun W15 hE15 => ?_⟩
        refine VFin.eq ?_  -- 0
        refine VFin.eq ?_  -- 1
        refine VFin.eq ?_  -- 2
        refine VFin.eq ?_  -- 3
        refine VFin.eq ?_  -- 4
        refine VFin.nil ?_
        simp only [Act.put, List.setIfInBounds_toArray, List.set_cons_zero, List.set_cons_succ]
        have hP := VP.st _ _ _ _ hP hE15
        have hW := VP.st _ _ _ _ hW hE15
        have hv3_1 := VP.st _ _ _ _ hv3_1 hE15
        have hE := hE.tr hE15
        go_wp2
        go_ret
        exact Ret.mk hE rfl
      by_cases h2 : (all.length : Int) < place
      · rw [stands_no2 fold _ wd place h2]
        go_upto_region 15 with (fail)
        refine vregion0 5 (by kernel_rfl) ?_
        refine VWalk.move _ rfl (want_none rfl) (opd_frame 12 rfl (by kernel_rfl)) ?_
        refine VWalk.notB _ _ rfl (want_none rfl) (opd_dep 0 73 0 rfl rfl rfl rfl) rfl ?_
        refine VWalk.move _ rfl (want_none rfl) (opd_dep 1 74 0 rfl rfl rfl rfl) ?_
        refine VWalk.call0 9 _ rfl (enters_of Try.func9 (by kernel_rfl) rfl) (want_tt 2 75 0 rfl (by kernel_rfl) rfl rfl rfl rfl) c_wakes ?_
        refine VWalk.pickT _ _ _ rfl (want_none rfl) (opd_dep 2 75 1 rfl rfl rfl rfl) (opd_dep 3 76 0 rfl rfl rfl rfl) ?_
        refine ⟨rfl, fun W15 hE15 => ?_⟩
        refine VFin.eq ?_  -- 0
        refine VFin.eq ?_  -- 1
        refine VFin.eq ?_  -- 2
        refine VFin.eq ?_  -- 3
        refine VFin.eq ?_  -- 4
        refine VFin.nil ?_
        simp only [Act.put, List.setIfInBounds_toArray, List.set_cons_zero, List.set_cons_succ]
        have hP := VP.st _ _ _ _ hP hE15
        have hW := VP.st _ _ _ _ hW hE15
        have hv3_1 := VP.st _ _ _ _ hv3_1 hE15
        have hE := hE.tr hE15
        go_wp2
        go_ret
        exact Ret.mk hE rfl
      obtain ⟨K, rfl⟩ : ∃ k : Nat, place = (k : Int) := ⟨place.toNat, by omega⟩
      have h3 : wd.length ≤ K := by omega
      have h4 : K ≤ all.length := by omega
      have hs : (K : Int) - (wd.length : Int) = ((K - wd.length : Nat) : Int) := by omega
      go_upto_region 16 with (fail)
      refine vregion0 15 (by kernel_rfl) ?_
      refine VWalk.move _ rfl (want_none rfl) (opd_frame 12 rfl (by kernel_rfl)) ?_
      refine VWalk.move _ rfl (want_none rfl) (opd_frame 0 rfl (by kernel_rfl)) ?_
      refine VWalk.move _ rfl (want_none rfl) (opd_fr 9 rfl hv3_1 (Ext.rf _) (by kernel_rfl)) ?_
      refine VWalk.move _ rfl (want_none rfl) (opd_frame 3 rfl (by kernel_rfl)) ?_
      refine VWalk.move _ rfl (want_none rfl) (opd_fr 2 rfl hW (Ext.rf _) (by kernel_rfl)) ?_
      refine VWalk.lenB 22 5 _ rfl Try.underlying22 (want_none rfl) (opd_dep 4 82 0 rfl rfl rfl rfl) ?_
      refine VWalk.sub64 _ _ _ _ rfl (want_none rfl) (opd_dep 3 81 2 rfl rfl rfl rfl) (opd_dep 5 83 0 rfl rfl rfl rfl) (by omega) ?_
      rw [hs]
      refine VWalk.move _ rfl (want_none rfl) (opd_frame 3 rfl (by kernel_rfl)) ?_
      refine VWalk.cut2B 22 5 _ _ _ .i64 .i64 (K - wd.length) K rfl Try.underlying22 (by kernel_rfl) (want_none rfl) (opd_dep 2 80 5 rfl rfl rfl rfl) (opd_dep 6 84 1 rfl rfl rfl rfl) (opd_dep 7 85 0 rfl rfl rfl rfl) (by omega) h4 ?_
      refine VWalk.move _ rfl (want_none rfl) (opd_fr 2 rfl hW (Ext.rf _) (by kernel_rfl)) ?_
      refine VWalk.call3 14 _ _ _ _ rfl (enters_of Try.func14 (by kernel_rfl) rfl) (want_none rfl) (opd_dep 1 79 8 rfl rfl rfl rfl) (opd_dep 8 86 1 rfl rfl rfl rfl) (opd_dep 9 87 0 rfl rfl rfl rfl) (c_same _ _ _) ?_
      refine VWalk.eqTb _ _ _ _ rfl (want_none rfl) (opd_dep 0 78 10 rfl rfl rfl rfl) (opd_dep 10 88 0 rfl rfl rfl rfl) Try.underlying4 (stands_yes fold all wd K h3 h4) ?_
      refine VWalk.move _ rfl (want_none rfl) (opd_dep 11 89 0 rfl rfl rfl rfl) ?_
      refine VWalk.call0 9 _ rfl (enters_of Try.func9 (by kernel_rfl) rfl) (want_tt 12 90 0 rfl (by kernel_rfl) rfl rfl rfl rfl) c_wakes ?_
      refine VWalk.pickT _ _ _ rfl (want_none rfl) (opd_dep 12 90 1 rfl rfl rfl rfl) (opd_dep 13 91 0 rfl rfl rfl rfl) ?_
      refine ⟨rfl, fun W16 hE16 => ?_⟩
      refine VFin.eq ?_  -- 0
      refine VFin.eq ?_  -- 1
      refine VFin.any fun v16_2 hv16_2 => ?_
      refine VFin.eq ?_  -- 3
      refine VFin.any fun v16_4 hv16_4 => ?_
      refine VFin.eq ?_  -- 5
      refine VFin.eq ?_  -- 6
      refine VFin.eq ?_  -- 7
      refine VFin.any fun v16_8 hv16_8 => ?_
      refine VFin.any fun v16_9 hv16_9 => ?_
      refine VFin.eq ?_  -- 10
      refine VFin.eq ?_  -- 11
      refine VFin.eq ?_  -- 12
      refine VFin.eq ?_  -- 13
      refine VFin.eq ?_  -- 14
      refine VFin.nil ?_
      simp only [Act.put, List.setIfInBounds_toArray, List.set_cons_zero, List.set_cons_succ]
      clear hv16_2 hv16_4 hv16_8 hv16_9
      have hP := VP.st _ _ _ _ hP hE16
      have hW := VP.st _ _ _ _ hW hE16
      have hv3_1 := VP.st _ _ _ _ hv3_1 hE16
      have hE := hE.tr hE16
      go_wp2
      go_ret
      exact Ret.mk hE rfl
end Go.Proofs.Ytnkagcaipndljaa
