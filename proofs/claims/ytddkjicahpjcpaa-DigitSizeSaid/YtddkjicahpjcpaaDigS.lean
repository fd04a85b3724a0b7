/- DigitSize, walked. -/
import Derived.Test.YtddkjicahpjcpaaDigI
import Derived.Test.YtddkjicahpjcpaaDigLaw
import Derived.Deep.Cut
namespace Go.Proofs.Ytddkjicahpjcpaa
open Go.RowKit DigM
theorem puts_bad {n : Int} (h : mayB n = false) : puts [n] = ([], 2) := by rw [puts_one, h]; rfl
theorem puts_ok (m : Nat) (h : m ≤ most) : puts [(m : Int)] = (putN m, 0) := by
  rw [puts_one, if_pos (mayB_iff.2 ⟨by omega, by unfold most at h; omega⟩), Int.toNat_natCast]
theorem shr_seven (m i : Nat) (h : i ≤ 4) : (m : Int) / 2 ^ (7 * (i : Int)).toNat = ((m / 128 ^ i : Nat) : Int) := by
  rw [show (7 * (i : Int)).toNat = 7 * i by omega, pow_seven]; push_cast; rfl
set_option maxRecDepth 100000 in
set_option maxHeartbeats 4000000 in
theorem digitSize_any (n : Int) (w : World) : Calls Try.prog 6 #[.int .i64 n] w (Ret w (VEq (.bool true))) := by
  go_enter Try.func6, Try.ntmps6
  by_cases h1 : n < 0
  · have hp := puts_bad (n := n) (by cases h : mayB n; rfl; have := mayB_iff.1 h; omega)
    go_upto_region 2 with (fail)
    refine vregion0 5 (by kernel_rfl) ?_
    refine VWalk.move _ rfl (want_none rfl) (opd_frame 0 rfl (by kernel_rfl)) ?_
    refine VWalk.call1 8 _ _ rfl (enters_of Try.func8 (by kernel_rfl) rfl) (want_none rfl) (opd_dep 0 17 0 rfl rfl rfl rfl) (c_put _) ?_
    rw [hp]
    refine VWalk.move _ rfl (want_none rfl) (opd_dep 1 18 0 rfl rfl rfl rfl) ?_
    refine VWalk.extract _ 0 rfl rfl (want_none rfl) (opd_dep 2 16 0 rfl rfl rfl rfl) ?_
    refine VWalk.extract _ 1 rfl rfl (want_none rfl) (opd_dep 2 16 1 rfl rfl rfl rfl) ?_
    refine ⟨rfl, fun W2 hE2 => ?_⟩
    refine VFin.eq ?_  -- 0
    refine VFin.any fun v2_1 hv2_1 => ?_
    refine VFin.any fun v2_2 hv2_2 => ?_
    refine VFin.any fun v2_3 hv2_3 => ?_
    refine VFin.eq ?_  -- 4
    refine VFin.nil ?_
    simp only [Act.put, List.setIfInBounds_toArray, List.set_cons_zero, List.set_cons_succ]
    clear hv2_1 hv2_2
    have hE := hE2
    go_upto_region 3 with (fail)
    refine vregion0 16 (by kernel_rfl) ?_
    refine VWalk.move _ rfl (want_none rfl) (opd_frame 4 rfl (by kernel_rfl)) ?_
    refine VWalk.eqT _ _ _ _ rfl (want_none rfl) (opd_dep 0 21 0 rfl rfl rfl rfl) (opd_const _) rfl ?_
    refine VWalk.move _ rfl (want_none rfl) (opd_dep 1 22 0 rfl rfl rfl rfl) ?_
    refine VWalk.move _ rfl (want_tt 2 23 0 rfl (by kernel_rfl) rfl rfl rfl rfl) (opd_fr 3 rfl hv2_3 (Ext.rf _) (by kernel_rfl)) ?_
    refine VWalk.lenB 23 5 _ rfl Try.underlying23 (want_tt 2 23 1 rfl (by kernel_rfl) rfl rfl rfl rfl) (opd_dep 3 24 0 rfl rfl rfl rfl) ?_
    refine VWalk.eqT _ _ _ _ rfl (want_tt 2 23 2 rfl (by kernel_rfl) rfl rfl rfl rfl) (opd_dep 4 25 0 rfl rfl rfl rfl) (opd_const _) rfl ?_
    refine VWalk.pickT _ _ _ rfl (want_none rfl) (opd_dep 2 23 3 rfl rfl rfl rfl) (opd_dep 5 26 0 rfl rfl rfl rfl) ?_
    refine VWalk.move _ rfl (want_none rfl) (opd_dep 6 27 0 rfl rfl rfl rfl) ?_
    refine VWalk.move _ rfl (want_tt 7 28 0 rfl (by kernel_rfl) rfl rfl rfl rfl) (opd_frame 0 rfl (by kernel_rfl)) ?_
    refine VWalk.lit (Fs := [_]) [Operand.tmp 29] 22 3 1 _ rfl rfl (by decide) (by decide) rfl Try.underlying22 (by kernel_rfl) (by kernel_rfl) ⟨oneCell_eq rfl, trivial⟩ (want_tt 7 28 1 rfl (by kernel_rfl) rfl rfl rfl rfl) ⟨(opd_dep 8 29 0 rfl rfl rfl rfl), trivial⟩ ?_
    refine VWalk.call1 12 _ _ rfl (enters_of Try.func12 (by kernel_rfl) rfl) (want_tt 7 28 2 rfl (by kernel_rfl) rfl rfl rfl rfl) (opd_dep 9 30 0 rfl rfl rfl rfl) (c_size [_] (by simp)) ?_
    refine VWalk.eqT _ _ _ _ rfl (want_tt 7 28 3 rfl (by kernel_rfl) rfl rfl rfl rfl) (opd_dep 10 31 0 rfl rfl rfl rfl) (opd_const _) (by rw [hp]; rfl) ?_
    refine VWalk.pickT _ _ _ rfl (want_none rfl) (opd_dep 7 28 4 rfl rfl rfl rfl) (opd_dep 11 32 0 rfl rfl rfl rfl) ?_
    refine VWalk.move _ rfl (want_none rfl) (opd_dep 12 33 0 rfl rfl rfl rfl) ?_
    refine VWalk.call0 7 _ rfl (enters_of Try.func7 (by kernel_rfl) rfl) (want_tt 13 34 0 rfl (by kernel_rfl) rfl rfl rfl rfl) c_wakes ?_
    refine VWalk.pickT _ _ _ rfl (want_none rfl) (opd_dep 13 34 1 rfl rfl rfl rfl) (opd_dep 14 35 0 rfl rfl rfl rfl) ?_
    refine ⟨rfl, fun W3 hE3 => ?_⟩
    refine VFin.eq ?_  -- 0
    refine VFin.eq ?_  -- 1
    refine VFin.eq ?_  -- 2
    refine VFin.any fun v3_3 hv3_3 => ?_
    refine VFin.eq ?_  -- 4
    refine VFin.eq ?_  -- 5
    refine VFin.eq ?_  -- 6
    refine VFin.eq ?_  -- 7
    refine VFin.eq ?_  -- 8
    refine VFin.any fun v3_9 hv3_9 => ?_
    refine VFin.eq ?_  -- 10
    refine VFin.eq ?_  -- 11
    refine VFin.eq ?_  -- 12
    refine VFin.eq ?_  -- 13
    refine VFin.eq ?_  -- 14
    refine VFin.eq ?_  -- 15
    refine VFin.nil ?_
    simp only [Act.put, List.setIfInBounds_toArray, List.set_cons_zero, List.set_cons_succ]
    clear hv3_3 hv3_9
    have hv2_3 := VP.st _ _ _ _ hv2_3 hE3
    have hE := hE.tr hE3
    go_wp2
    go_ret
    exact Ret.mk hE rfl
  by_cases h2 : 2147483647 < n
  · have hp := puts_bad (n := n) (by cases h : mayB n; rfl; have := mayB_iff.1 h; omega)
    go_upto_region 2 with (fail)
    refine vregion0 5 (by kernel_rfl) ?_
    refine VWalk.move _ rfl (want_none rfl) (opd_frame 0 rfl (by kernel_rfl)) ?_
    refine VWalk.call1 8 _ _ rfl (enters_of Try.func8 (by kernel_rfl) rfl) (want_none rfl) (opd_dep 0 17 0 rfl rfl rfl rfl) (c_put _) ?_
    rw [hp]
    refine VWalk.move _ rfl (want_none rfl) (opd_dep 1 18 0 rfl rfl rfl rfl) ?_
    refine VWalk.extract _ 0 rfl rfl (want_none rfl) (opd_dep 2 16 0 rfl rfl rfl rfl) ?_
    refine VWalk.extract _ 1 rfl rfl (want_none rfl) (opd_dep 2 16 1 rfl rfl rfl rfl) ?_
    refine ⟨rfl, fun W2 hE2 => ?_⟩
    refine VFin.eq ?_  -- 0
    refine VFin.any fun v2_1 hv2_1 => ?_
    refine VFin.any fun v2_2 hv2_2 => ?_
    refine VFin.any fun v2_3 hv2_3 => ?_
    refine VFin.eq ?_  -- 4
    refine VFin.nil ?_
    simp only [Act.put, List.setIfInBounds_toArray, List.set_cons_zero, List.set_cons_succ]
    clear hv2_1 hv2_2
    have hE := hE2
    go_upto_region 3 with (fail)
    refine vregion0 16 (by kernel_rfl) ?_
    refine VWalk.move _ rfl (want_none rfl) (opd_frame 4 rfl (by kernel_rfl)) ?_
    refine VWalk.eqT _ _ _ _ rfl (want_none rfl) (opd_dep 0 21 0 rfl rfl rfl rfl) (opd_const _) rfl ?_
    refine VWalk.move _ rfl (want_none rfl) (opd_dep 1 22 0 rfl rfl rfl rfl) ?_
    refine VWalk.move _ rfl (want_tt 2 23 0 rfl (by kernel_rfl) rfl rfl rfl rfl) (opd_fr 3 rfl hv2_3 (Ext.rf _) (by kernel_rfl)) ?_
    refine VWalk.lenB 23 5 _ rfl Try.underlying23 (want_tt 2 23 1 rfl (by kernel_rfl) rfl rfl rfl rfl) (opd_dep 3 24 0 rfl rfl rfl rfl) ?_
    refine VWalk.eqT _ _ _ _ rfl (want_tt 2 23 2 rfl (by kernel_rfl) rfl rfl rfl rfl) (opd_dep 4 25 0 rfl rfl rfl rfl) (opd_const _) rfl ?_
    refine VWalk.pickT _ _ _ rfl (want_none rfl) (opd_dep 2 23 3 rfl rfl rfl rfl) (opd_dep 5 26 0 rfl rfl rfl rfl) ?_
    refine VWalk.move _ rfl (want_none rfl) (opd_dep 6 27 0 rfl rfl rfl rfl) ?_
    refine VWalk.move _ rfl (want_tt 7 28 0 rfl (by kernel_rfl) rfl rfl rfl rfl) (opd_frame 0 rfl (by kernel_rfl)) ?_
    refine VWalk.lit (Fs := [_]) [Operand.tmp 29] 22 3 1 _ rfl rfl (by decide) (by decide) rfl Try.underlying22 (by kernel_rfl) (by kernel_rfl) ⟨oneCell_eq rfl, trivial⟩ (want_tt 7 28 1 rfl (by kernel_rfl) rfl rfl rfl rfl) ⟨(opd_dep 8 29 0 rfl rfl rfl rfl), trivial⟩ ?_
    refine VWalk.call1 12 _ _ rfl (enters_of Try.func12 (by kernel_rfl) rfl) (want_tt 7 28 2 rfl (by kernel_rfl) rfl rfl rfl rfl) (opd_dep 9 30 0 rfl rfl rfl rfl) (c_size [_] (by simp)) ?_
    refine VWalk.eqT _ _ _ _ rfl (want_tt 7 28 3 rfl (by kernel_rfl) rfl rfl rfl rfl) (opd_dep 10 31 0 rfl rfl rfl rfl) (opd_const _) (by rw [hp]; rfl) ?_
    refine VWalk.pickT _ _ _ rfl (want_none rfl) (opd_dep 7 28 4 rfl rfl rfl rfl) (opd_dep 11 32 0 rfl rfl rfl rfl) ?_
    refine VWalk.move _ rfl (want_none rfl) (opd_dep 12 33 0 rfl rfl rfl rfl) ?_
    refine VWalk.call0 7 _ rfl (enters_of Try.func7 (by kernel_rfl) rfl) (want_tt 13 34 0 rfl (by kernel_rfl) rfl rfl rfl rfl) c_wakes ?_
    refine VWalk.pickT _ _ _ rfl (want_none rfl) (opd_dep 13 34 1 rfl rfl rfl rfl) (opd_dep 14 35 0 rfl rfl rfl rfl) ?_
    refine ⟨rfl, fun W3 hE3 => ?_⟩
    refine VFin.eq ?_  -- 0
    refine VFin.eq ?_  -- 1
    refine VFin.eq ?_  -- 2
    refine VFin.any fun v3_3 hv3_3 => ?_
    refine VFin.eq ?_  -- 4
    refine VFin.eq ?_  -- 5
    refine VFin.eq ?_  -- 6
    refine VFin.eq ?_  -- 7
    refine VFin.eq ?_  -- 8
    refine VFin.any fun v3_9 hv3_9 => ?_
    refine VFin.eq ?_  -- 10
    refine VFin.eq ?_  -- 11
    refine VFin.eq ?_  -- 12
    refine VFin.eq ?_  -- 13
    refine VFin.eq ?_  -- 14
    refine VFin.eq ?_  -- 15
    refine VFin.nil ?_
    simp only [Act.put, List.setIfInBounds_toArray, List.set_cons_zero, List.set_cons_succ]
    clear hv3_3 hv3_9
    have hv2_3 := VP.st _ _ _ _ hv2_3 hE3
    have hE := hE.tr hE3
    go_wp2
    go_ret
    exact Ret.mk hE rfl
  obtain ⟨m, rfl⟩ : ∃ m : Nat, n = (m : Int) := ⟨n.toNat, by omega⟩
  have hm : m ≤ most := by unfold most; omega
  have hm31 : m ≤ 2147483647 := by omega
  have hp := puts_ok m hm
  have hl5 := putN_most hm
  have hpos := putN_pos m
  go_upto_region 4 with (fail)
  refine vregion0 5 (by kernel_rfl) ?_
  refine VWalk.move _ rfl (want_none rfl) (opd_frame 0 rfl (by kernel_rfl)) ?_
  refine VWalk.call1 8 _ _ rfl (enters_of Try.func8 (by kernel_rfl) rfl) (want_none rfl) (opd_dep 0 38 0 rfl rfl rfl rfl) (c_put _) ?_
  rw [hp]
  refine VWalk.move _ rfl (want_none rfl) (opd_dep 1 39 0 rfl rfl rfl rfl) ?_
  refine VWalk.extract _ 0 rfl rfl (want_none rfl) (opd_dep 2 37 0 rfl rfl rfl rfl) ?_
  refine VWalk.extract _ 1 rfl rfl (want_none rfl) (opd_dep 2 37 1 rfl rfl rfl rfl) ?_
  refine ⟨rfl, fun W4 hE4 => ?_⟩
  refine VFin.eq ?_  -- 0
  refine VFin.any fun v4_1 hv4_1 => ?_
  refine VFin.any fun v4_2 hv4_2 => ?_
  refine VFin.any fun v4_3 hv4_3 => ?_
  refine VFin.eq ?_  -- 4
  refine VFin.nil ?_
  simp only [Act.put, List.setIfInBounds_toArray, List.set_cons_zero, List.set_cons_succ]
  clear hv4_1 hv4_2
  have hE := hE4
  have hv4_3 : VBytes (putN m) v4_3 W4 := hv4_3
  obtain ⟨A5, c5, rfl, -⟩ := VBytes.form hv4_3
  have Hp := hide hp
  clear hp
  go_wp2
  go_loopw [7, 8] (fun k x wr => ∃ j q : Nat, j < (putN m).length ∧ q ≤ 2147483647 ∧ x = .int .i64 (q : Int) ∧ k = .int .i64 ((j : Nat) + 1 : Int) ∧ Hid (m / 128 ^ (j + 1) = q) ∧ Below W4.heap.size W4 wr) (fun _ x _ => (intOf x).toNat)
  case atStart => exact ⟨0, m / 128, hpos, by omega, by go_num, rfl, by show _ = _; rw [Nat.pow_one], Below.refl _ _⟩
  case round =>
    obtain ⟨j, q, hj, hqb, rfl, rfl, Hq, hR⟩ := hrel
    have hv4_3 := VP.st _ _ _ _ hv4_3 hR
    have hE := hE.tr hR
    have he := putN_end hj
    rw [Hq.out] at he
    have hs := div_step m (j + 1)
    rw [Hq.out] at hs
    by_cases hz : q = 0
    · subst hz
      have hlen := he.1 rfl
      clear he hs Hq
      have hjl : (j : Int) + 1 = ((putN m).length : Int) := by omega
      go_upto_region 10 with (fail)
      refine vregion0 15 (by kernel_rfl) ?_
      refine VWalk.move _ rfl (want_none rfl) (opd_frame 6 rfl (by kernel_rfl)) ?_
      refine VWalk.neT _ _ _ _ rfl (want_none rfl) (opd_dep 0 50 0 rfl rfl rfl rfl) (opd_const _) rfl ?_
      refine VWalk.move _ rfl (want_none rfl) (opd_dep 1 51 0 rfl rfl rfl rfl) ?_
      refine VWalk.move _ rfl (want_ff 2 52 0 rfl (by kernel_rfl) rfl rfl rfl rfl) (opd_fr 5 rfl hv4_3 (Ext.rf _) (by kernel_rfl)) ?_
      refine VWalk.lenB 23 5 _ rfl Try.underlying23 (want_ff 2 52 1 rfl (by kernel_rfl) rfl rfl rfl rfl) (opd_dep 3 53 0 rfl rfl rfl rfl) ?_
      refine VWalk.move _ rfl (want_ff 2 52 2 rfl (by kernel_rfl) rfl rfl rfl rfl) (opd_frame 7 rfl (by kernel_rfl)) ?_
      refine VWalk.neT _ _ _ _ rfl (want_ff 2 52 3 rfl (by kernel_rfl) rfl rfl rfl rfl) (opd_dep 4 54 1 rfl rfl rfl rfl) (opd_dep 5 55 0 rfl rfl rfl rfl) hjl.symm ?_
      refine VWalk.pickF _ _ _ rfl (want_none rfl) (opd_dep 2 52 4 rfl rfl rfl rfl) (opd_dep 6 56 0 rfl rfl rfl rfl) ?_
      refine VWalk.move _ rfl (want_none rfl) (opd_dep 7 57 0 rfl rfl rfl rfl) ?_
      refine VWalk.move _ rfl (want_ff 8 58 0 rfl (by kernel_rfl) rfl rfl rfl rfl) (opd_frame 0 rfl (by kernel_rfl)) ?_
      refine VWalk.lit (Fs := [_]) [Operand.tmp 59] 22 3 1 _ rfl rfl (by decide) (by decide) rfl Try.underlying22 (by kernel_rfl) (by kernel_rfl) ⟨oneCell_eq rfl, trivial⟩ (want_ff 8 58 1 rfl (by kernel_rfl) rfl rfl rfl rfl) ⟨(opd_dep 9 59 0 rfl rfl rfl rfl), trivial⟩ ?_
      refine VWalk.call1 12 _ _ rfl (enters_of Try.func12 (by kernel_rfl) rfl) (want_ff 8 58 2 rfl (by kernel_rfl) rfl rfl rfl rfl) (opd_dep 10 60 0 rfl rfl rfl rfl) (c_size [_] (by simp)) ?_
      refine VWalk.move _ rfl (want_ff 8 58 3 rfl (by kernel_rfl) rfl rfl rfl rfl) (opd_frame 7 rfl (by kernel_rfl)) ?_
      refine VWalk.neT _ _ _ _ rfl (want_ff 8 58 4 rfl (by kernel_rfl) rfl rfl rfl rfl) (opd_dep 11 61 1 rfl rfl rfl rfl) (opd_dep 12 62 0 rfl rfl rfl rfl) (by rw [Hp.out]; exact hjl.symm) ?_
      refine VWalk.pickF _ _ _ rfl (want_none rfl) (opd_dep 8 58 5 rfl rfl rfl rfl) (opd_dep 13 63 0 rfl rfl rfl rfl) ?_
      refine ⟨rfl, fun W10 hE10 => ?_⟩
      refine VFin.eq ?_  -- 0
      refine VFin.eq ?_  -- 1
      refine VFin.eq ?_  -- 2
      refine VFin.any fun v10_3 hv10_3 => ?_
      refine VFin.eq ?_  -- 4
      refine VFin.eq ?_  -- 5
      refine VFin.eq ?_  -- 6
      refine VFin.eq ?_  -- 7
      refine VFin.eq ?_  -- 8
      refine VFin.eq ?_  -- 9
      refine VFin.any fun v10_10 hv10_10 => ?_
      refine VFin.eq ?_  -- 11
      refine VFin.eq ?_  -- 12
      refine VFin.eq ?_  -- 13
      refine VFin.eq ?_  -- 14
      refine VFin.nil ?_
      simp only [Act.put, List.setIfInBounds_toArray, List.set_cons_zero, List.set_cons_succ]
      clear hv10_3 hv10_10
      have hv4_3 := VP.st _ _ _ _ hv4_3 hE10
      have hE := hE.tr hE10
      go_wp2
      go_loopw [9] (fun i wr => ∃ i' : Nat, i' ≤ (putN m).length ∧ i = .int .i64 (i' : Int) ∧ Below W10.heap.size W10 wr) (fun i _ => (putN m).length - (intOf i).toNat)
      case atStart => exact ⟨0, by omega, rfl, Below.refl _ _⟩
      case round =>
        obtain ⟨i, hi, rfl, hR⟩ := hrel
        have hv4_3 := VP.st _ _ _ _ hv4_3 hR
        have hE := hE.tr hR
        by_cases hlt : i < (putN m).length
        · have hget := putN_get hlt
          have hshr := shr_seven m i (by omega)
          have hq31 : m / 128 ^ i ≤ 2147483647 := Nat.le_trans (Nat.div_le_self _ _) (by omega)
          have hlo := @putN_lo_of m i
          generalize m / 128 ^ i = q at *
          by_cases hlast : i + 1 = (putN m).length
          · have hq := hlo hlast
            rw [if_pos hlast] at hget
            have hx : ((putN m)[i].toNat : Int) = (q : Int) := by rw [hget, UInt8.toNat_ofNat']; omega
            have hrem : (q : Int).tmod 128 = (q : Int) := by rw [Int.tmod_eq_emod_of_nonneg (by omega)]; omega
            go_upto_region 15 with (fail)
            refine vregion0 26 (by kernel_rfl) ?_
            refine VWalk.move _ rfl (want_none rfl) (opd_fr 5 rfl hv4_3 (Ext.rf _) (by kernel_rfl)) ?_
            refine VWalk.move _ rfl (want_none rfl) (opd_frame 9 rfl (by kernel_rfl)) ?_
            refine VWalk.indexB 23 5 _ _ .i64 i rfl Try.underlying23 (by kernel_rfl) (want_none rfl) (opd_dep 0 71 1 rfl rfl rfl rfl) (opd_dep 1 72 0 rfl rfl rfl rfl) hlt ?_
            refine VWalk.loadP 5 _ rfl (want_none rfl) (opd_dep 2 73 0 rfl rfl rfl rfl) (fun _ => by kernel_rfl) ?_
            refine VWalk.geqF _ _ _ _ rfl (want_none rfl) (opd_dep 3 74 0 rfl rfl rfl rfl) (opd_const _) (by rw [hx]; omega) ?_
            refine VWalk.move _ rfl (want_none rfl) (opd_frame 9 rfl (by kernel_rfl)) ?_
            refine VWalk.move _ rfl (want_none rfl) (opd_fr 5 rfl hv4_3 (Ext.rf _) (by kernel_rfl)) ?_
            refine VWalk.lenB 23 5 _ rfl Try.underlying23 (want_none rfl) (opd_dep 6 77 0 rfl rfl rfl rfl) ?_
            refine VWalk.sub64 _ _ _ _ rfl (want_none rfl) (opd_dep 7 78 0 rfl rfl rfl rfl) (opd_const _) (by omega) ?_
            refine VWalk.lssF _ _ _ _ rfl (want_none rfl) (opd_dep 5 76 3 rfl rfl rfl rfl) (opd_dep 8 79 0 rfl rfl rfl rfl) (by omega) ?_
            refine VWalk.neTb _ _ _ _ rfl (want_none rfl) (opd_dep 4 75 5 rfl rfl rfl rfl) (opd_dep 9 80 0 rfl rfl rfl rfl) Try.underlying4 rfl ?_
            refine VWalk.move _ rfl (want_none rfl) (opd_dep 10 81 0 rfl rfl rfl rfl) ?_
            refine VWalk.move _ rfl (want_ff 11 82 0 rfl (by kernel_rfl) rfl rfl rfl rfl) (opd_fr 5 rfl hv4_3 (Ext.rf _) (by kernel_rfl)) ?_
            refine VWalk.move _ rfl (want_ff 11 82 1 rfl (by kernel_rfl) rfl rfl rfl rfl) (opd_frame 9 rfl (by kernel_rfl)) ?_
            refine VWalk.indexB 23 5 _ _ .i64 i rfl Try.underlying23 (by kernel_rfl) (want_ff 11 82 2 rfl (by kernel_rfl) rfl rfl rfl rfl) (opd_dep 12 83 1 rfl rfl rfl rfl) (opd_dep 13 84 0 rfl rfl rfl rfl) hlt ?_
            refine VWalk.loadP 5 _ rfl (want_ff 11 82 3 rfl (by kernel_rfl) rfl rfl rfl rfl) (opd_dep 14 85 0 rfl rfl rfl rfl) (fun _ => by kernel_rfl) ?_
            refine VWalk.det2 (r := .int .u8 (q : Int)) (Operand.tmp 86) (Operand.const (Value.int IntKind.u8 128)) (want_ff 11 82 4 rfl (by kernel_rfl) rfl rfl rfl rfl) (opd_dep 15 86 0 rfl rfl rfl rfl) (opd_const _) (fun ρ W hE h1 h2 => by simp [execOp, h1, h2, byteV, hx, go_sem, hrem]) ?_
            refine VWalk.det1 (r := .int .i64 (q : Int)) (Operand.tmp 87) (want_ff 11 82 5 rfl (by kernel_rfl) rfl rfl rfl rfl) (opd_dep 16 87 0 rfl rfl rfl rfl) (fun ρ W hE h1 => by have h3 : IntKind.i64.wrap (q : Int) = q := IntWalk.i64_in _ ⟨by omega, by omega⟩; simp [execOp, h1, go_sem, h3]) ?_
            refine VWalk.move _ rfl (want_ff 11 82 6 rfl (by kernel_rfl) rfl rfl rfl rfl) (opd_frame 0 rfl (by kernel_rfl)) ?_
            refine VWalk.move _ rfl (want_ff 11 82 7 rfl (by kernel_rfl) rfl rfl rfl rfl) (opd_frame 9 rfl (by kernel_rfl)) ?_
            refine VWalk.mul64 _ _ _ _ rfl (want_ff 11 82 8 rfl (by kernel_rfl) rfl rfl rfl rfl) (opd_const _) (opd_dep 19 90 0 rfl rfl rfl rfl) (by omega) ?_
            refine VWalk.det1 (r := .int .u64 (7 * (i : Int))) (Operand.tmp 91) (want_ff 11 82 9 rfl (by kernel_rfl) rfl rfl rfl rfl) (opd_dep 20 91 0 rfl rfl rfl rfl) (fun ρ W hE h1 => by have h3 : IntKind.u64.wrap (7 * (i : Int)) = 7 * (i : Int) := IntWalk.u64_in _ ⟨by omega, by omega⟩; simp [execOp, h1, go_sem, h3]) ?_
            refine VWalk.det2 (r := .int .i64 (q : Int)) (Operand.tmp 89) (Operand.tmp 92) (want_ff 11 82 10 rfl (by kernel_rfl) rfl rfl rfl rfl) (opd_dep 18 89 3 rfl rfl rfl rfl) (opd_dep 21 92 0 rfl rfl rfl rfl) (fun ρ W hE h1 h2 => by simp [execOp, h1, h2, go_sem, hshr]) ?_
            refine VWalk.det2 (r := .int .i64 (q : Int)) (Operand.tmp 93) (Operand.const (Value.int IntKind.i64 128)) (want_ff 11 82 11 rfl (by kernel_rfl) rfl rfl rfl rfl) (opd_dep 22 93 0 rfl rfl rfl rfl) (opd_const _) (fun ρ W hE h1 h2 => by simp [execOp, h1, h2, go_sem, hrem]) ?_
            refine VWalk.neT _ _ _ _ rfl (want_ff 11 82 12 rfl (by kernel_rfl) rfl rfl rfl rfl) (opd_dep 17 88 6 rfl rfl rfl rfl) (opd_dep 23 94 0 rfl rfl rfl rfl) rfl ?_
            refine VWalk.pickF _ _ _ rfl (want_none rfl) (opd_dep 11 82 13 rfl rfl rfl rfl) (opd_dep 24 95 0 rfl rfl rfl rfl) ?_
            refine ⟨rfl, fun W15 hE15 => ?_⟩
            refine VFin.any fun v15_0 hv15_0 => ?_
            refine VFin.eq ?_  -- 1
            refine VFin.any fun v15_2 hv15_2 => ?_
            refine VFin.eq ?_  -- 3
            refine VFin.eq ?_  -- 4
            refine VFin.eq ?_  -- 5
            refine VFin.any fun v15_6 hv15_6 => ?_
            refine VFin.eq ?_  -- 7
            refine VFin.eq ?_  -- 8
            refine VFin.eq ?_  -- 9
            refine VFin.eq ?_  -- 10
            refine VFin.eq ?_  -- 11
            refine VFin.any fun v15_12 hv15_12 => ?_
            refine VFin.eq ?_  -- 13
            refine VFin.any fun v15_14 hv15_14 => ?_
            refine VFin.eq ?_  -- 15
            refine VFin.eq ?_  -- 16
            refine VFin.eq ?_  -- 17
            refine VFin.eq ?_  -- 18
            refine VFin.eq ?_  -- 19
            refine VFin.eq ?_  -- 20
            refine VFin.eq ?_  -- 21
            refine VFin.eq ?_  -- 22
            refine VFin.eq ?_  -- 23
            refine VFin.eq ?_  -- 24
            refine VFin.eq ?_  -- 25
            refine VFin.nil ?_
            simp only [Act.put, List.setIfInBounds_toArray, List.set_cons_zero, List.set_cons_succ]
            clear hv15_0 hv15_2 hv15_6 hv15_12 hv15_14
            have hv4_3 := VP.st _ _ _ _ hv4_3 hE15
            go_wp2
            exact ⟨⟨i + 1, by omega, by go_num, Ext.tr hR hE15⟩, by simp [intOf]; omega⟩
          · rw [if_neg hlast] at hget
            have hx : ((putN m)[i].toNat : Int) = 128 + (q : Int) % 128 := by rw [hget, UInt8.toNat_ofNat']; omega
            have hrem : (128 + (q : Int) % 128).tmod 128 = (q : Int) % 128 := by rw [Int.tmod_eq_emod_of_nonneg (by omega)]; omega
            have hrem2 : (q : Int).tmod 128 = (q : Int) % 128 := Int.tmod_eq_emod_of_nonneg (by omega)
            go_upto_region 15 with (fail)
            refine vregion0 26 (by kernel_rfl) ?_
            refine VWalk.move _ rfl (want_none rfl) (opd_fr 5 rfl hv4_3 (Ext.rf _) (by kernel_rfl)) ?_
            refine VWalk.move _ rfl (want_none rfl) (opd_frame 9 rfl (by kernel_rfl)) ?_
            refine VWalk.indexB 23 5 _ _ .i64 i rfl Try.underlying23 (by kernel_rfl) (want_none rfl) (opd_dep 0 71 1 rfl rfl rfl rfl) (opd_dep 1 72 0 rfl rfl rfl rfl) hlt ?_
            refine VWalk.loadP 5 _ rfl (want_none rfl) (opd_dep 2 73 0 rfl rfl rfl rfl) (fun _ => by kernel_rfl) ?_
            refine VWalk.geqT _ _ _ _ rfl (want_none rfl) (opd_dep 3 74 0 rfl rfl rfl rfl) (opd_const _) (by rw [hx]; omega) ?_
            refine VWalk.move _ rfl (want_none rfl) (opd_frame 9 rfl (by kernel_rfl)) ?_
            refine VWalk.move _ rfl (want_none rfl) (opd_fr 5 rfl hv4_3 (Ext.rf _) (by kernel_rfl)) ?_
            refine VWalk.lenB 23 5 _ rfl Try.underlying23 (want_none rfl) (opd_dep 6 77 0 rfl rfl rfl rfl) ?_
            refine VWalk.sub64 _ _ _ _ rfl (want_none rfl) (opd_dep 7 78 0 rfl rfl rfl rfl) (opd_const _) (by omega) ?_
            refine VWalk.lssT _ _ _ _ rfl (want_none rfl) (opd_dep 5 76 3 rfl rfl rfl rfl) (opd_dep 8 79 0 rfl rfl rfl rfl) (by omega) ?_
            refine VWalk.neTb _ _ _ _ rfl (want_none rfl) (opd_dep 4 75 5 rfl rfl rfl rfl) (opd_dep 9 80 0 rfl rfl rfl rfl) Try.underlying4 rfl ?_
            refine VWalk.move _ rfl (want_none rfl) (opd_dep 10 81 0 rfl rfl rfl rfl) ?_
            refine VWalk.move _ rfl (want_ff 11 82 0 rfl (by kernel_rfl) rfl rfl rfl rfl) (opd_fr 5 rfl hv4_3 (Ext.rf _) (by kernel_rfl)) ?_
            refine VWalk.move _ rfl (want_ff 11 82 1 rfl (by kernel_rfl) rfl rfl rfl rfl) (opd_frame 9 rfl (by kernel_rfl)) ?_
            refine VWalk.indexB 23 5 _ _ .i64 i rfl Try.underlying23 (by kernel_rfl) (want_ff 11 82 2 rfl (by kernel_rfl) rfl rfl rfl rfl) (opd_dep 12 83 1 rfl rfl rfl rfl) (opd_dep 13 84 0 rfl rfl rfl rfl) hlt ?_
            refine VWalk.loadP 5 _ rfl (want_ff 11 82 3 rfl (by kernel_rfl) rfl rfl rfl rfl) (opd_dep 14 85 0 rfl rfl rfl rfl) (fun _ => by kernel_rfl) ?_
            refine VWalk.det2 (r := .int .u8 ((q : Int) % 128)) (Operand.tmp 86) (Operand.const (Value.int IntKind.u8 128)) (want_ff 11 82 4 rfl (by kernel_rfl) rfl rfl rfl rfl) (opd_dep 15 86 0 rfl rfl rfl rfl) (opd_const _) (fun ρ W hE h1 h2 => by simp [execOp, h1, h2, byteV, hx, go_sem, hrem]) ?_
            refine VWalk.det1 (r := .int .i64 ((q : Int) % 128)) (Operand.tmp 87) (want_ff 11 82 5 rfl (by kernel_rfl) rfl rfl rfl rfl) (opd_dep 16 87 0 rfl rfl rfl rfl) (fun ρ W hE h1 => by have h3 : IntKind.i64.wrap ((q : Int) % 128) = (q : Int) % 128 := IntWalk.i64_in _ ⟨by omega, by omega⟩; simp [execOp, h1, go_sem, h3]) ?_
            refine VWalk.move _ rfl (want_ff 11 82 6 rfl (by kernel_rfl) rfl rfl rfl rfl) (opd_frame 0 rfl (by kernel_rfl)) ?_
            refine VWalk.move _ rfl (want_ff 11 82 7 rfl (by kernel_rfl) rfl rfl rfl rfl) (opd_frame 9 rfl (by kernel_rfl)) ?_
            refine VWalk.mul64 _ _ _ _ rfl (want_ff 11 82 8 rfl (by kernel_rfl) rfl rfl rfl rfl) (opd_const _) (opd_dep 19 90 0 rfl rfl rfl rfl) (by omega) ?_
            refine VWalk.det1 (r := .int .u64 (7 * (i : Int))) (Operand.tmp 91) (want_ff 11 82 9 rfl (by kernel_rfl) rfl rfl rfl rfl) (opd_dep 20 91 0 rfl rfl rfl rfl) (fun ρ W hE h1 => by have h3 : IntKind.u64.wrap (7 * (i : Int)) = 7 * (i : Int) := IntWalk.u64_in _ ⟨by omega, by omega⟩; simp [execOp, h1, go_sem, h3]) ?_
            refine VWalk.det2 (r := .int .i64 (q : Int)) (Operand.tmp 89) (Operand.tmp 92) (want_ff 11 82 10 rfl (by kernel_rfl) rfl rfl rfl rfl) (opd_dep 18 89 3 rfl rfl rfl rfl) (opd_dep 21 92 0 rfl rfl rfl rfl) (fun ρ W hE h1 h2 => by simp [execOp, h1, h2, go_sem, hshr]) ?_
            refine VWalk.det2 (r := .int .i64 ((q : Int) % 128)) (Operand.tmp 93) (Operand.const (Value.int IntKind.i64 128)) (want_ff 11 82 11 rfl (by kernel_rfl) rfl rfl rfl rfl) (opd_dep 22 93 0 rfl rfl rfl rfl) (opd_const _) (fun ρ W hE h1 h2 => by simp [execOp, h1, h2, go_sem, hrem2]) ?_
            refine VWalk.neT _ _ _ _ rfl (want_ff 11 82 12 rfl (by kernel_rfl) rfl rfl rfl rfl) (opd_dep 17 88 6 rfl rfl rfl rfl) (opd_dep 23 94 0 rfl rfl rfl rfl) rfl ?_
            refine VWalk.pickF _ _ _ rfl (want_none rfl) (opd_dep 11 82 13 rfl rfl rfl rfl) (opd_dep 24 95 0 rfl rfl rfl rfl) ?_
            refine ⟨rfl, fun W15 hE15 => ?_⟩
            refine VFin.any fun v15_0 hv15_0 => ?_
            refine VFin.eq ?_  -- 1
            refine VFin.any fun v15_2 hv15_2 => ?_
            refine VFin.eq ?_  -- 3
            refine VFin.eq ?_  -- 4
            refine VFin.eq ?_  -- 5
            refine VFin.any fun v15_6 hv15_6 => ?_
            refine VFin.eq ?_  -- 7
            refine VFin.eq ?_  -- 8
            refine VFin.eq ?_  -- 9
            refine VFin.eq ?_  -- 10
            refine VFin.eq ?_  -- 11
            refine VFin.any fun v15_12 hv15_12 => ?_
            refine VFin.eq ?_  -- 13
            refine VFin.any fun v15_14 hv15_14 => ?_
            refine VFin.eq ?_  -- 15
            refine VFin.eq ?_  -- 16
            refine VFin.eq ?_  -- 17
            refine VFin.eq ?_  -- 18
            refine VFin.eq ?_  -- 19
            refine VFin.eq ?_  -- 20
            refine VFin.eq ?_  -- 21
            refine VFin.eq ?_  -- 22
            refine VFin.eq ?_  -- 23
            refine VFin.eq ?_  -- 24
            refine VFin.eq ?_  -- 25
            refine VFin.nil ?_
            simp only [Act.put, List.setIfInBounds_toArray, List.set_cons_zero, List.set_cons_succ]
            clear hv15_0 hv15_2 hv15_6 hv15_12 hv15_14
            have hv4_3 := VP.st _ _ _ _ hv4_3 hE15
            go_wp2
            exact ⟨⟨i + 1, by omega, by go_num, Ext.tr hR hE15⟩, by simp [intOf]; omega⟩
        · obtain rfl : i = (putN m).length := by omega
          go_upto_region 17 with (fail)
          refine vregion0 1 (by kernel_rfl) ?_
          refine VWalk.call0 7 _ rfl (enters_of Try.func7 (by kernel_rfl) rfl) (want_none rfl) c_wakes ?_
          refine ⟨rfl, fun W17 hE17 => ?_⟩
          refine VFin.eq ?_  -- 0
          refine VFin.nil ?_
          simp only [Act.put, List.setIfInBounds_toArray, List.set_cons_zero, List.set_cons_succ]
          have hv4_3 := VP.st _ _ _ _ hv4_3 hE17
          have hE := hE.tr hE17
          go_wp2
          go_ret
          exact Ret.mk hE rfl
    · have hlen : j + 1 ≠ (putN m).length := fun e => hz (he.2 e)
      have Hs := hide hs
      clear he hs
      go_wp2
      exact ⟨⟨j + 1, q / 128, by omega, by omega, by go_num, by go_num, Hs, hR⟩, by simp [intOf]; omega⟩
end Go.Proofs.Ytddkjicahpjcpaa
