/- LetterFolds, walked. -/
import Derived.Test.YtnkagcaipndljaaLetW
import Derived.Deep.Cut
namespace Go.Proofs.Ytnkagcaipndljaa
open Go.RowKit LetM
set_option maxRecDepth 100000 in
set_option maxHeartbeats 4000000 in
theorem letterFolds_any (c : UInt8) (xs ys : List UInt8) (va vb : Value) (w : World) (hA : VBytes xs va w) (hB : VBytes ys vb w) : Calls Try.prog 4 #[byteV c, va, vb] w (Ret w (VEq (.bool true))) := by
  obtain ⟨A1, c1, rfl, -⟩ := VBytes.form hA
  obtain ⟨A2, c2, rfl, -⟩ := VBytes.form hB
  go_enter Try.func4, Try.ntmps4
  by_cases hla : (400 : Int) < xs.length
  · go_upto_region 2 with (fail)
    refine vregion0 1 (by kernel_rfl) ?_
    refine VWalk.call0 9 _ rfl (enters_of Try.func9 (by kernel_rfl) rfl) (want_none rfl) c_wakes ?_
    refine ⟨rfl, fun W2 hE2 => ?_⟩
    refine VFin.eq ?_  -- 0
    refine VFin.nil ?_
    simp only [Act.put, List.setIfInBounds_toArray, List.set_cons_zero, List.set_cons_succ]
    have hA := VP.st _ _ _ _ hA hE2
    have hB := VP.st _ _ _ _ hB hE2
    have hE := hE2
    go_wp2
    go_ret
    exact Ret.mk hE rfl
  have hla' : xs.length ≤ 400 := by omega
  by_cases hlb : (400 : Int) < ys.length
  · go_upto_region 2 with (fail)
    refine vregion0 1 (by kernel_rfl) ?_
    refine VWalk.call0 9 _ rfl (enters_of Try.func9 (by kernel_rfl) rfl) (want_none rfl) c_wakes ?_
    refine ⟨rfl, fun W2 hE2 => ?_⟩
    refine VFin.eq ?_  -- 0
    refine VFin.nil ?_
    simp only [Act.put, List.setIfInBounds_toArray, List.set_cons_zero, List.set_cons_succ]
    have hA := VP.st _ _ _ _ hA hE2
    have hB := VP.st _ _ _ _ hB hE2
    have hE := hE2
    go_wp2
    go_ret
    exact Ret.mk hE rfl
  have hlb' : ys.length ≤ 400 := by omega
  clear hla hlb
  go_wp2_with fail
  refine (fold_any c _).mono ?_
  rintro e W1 ⟨v, rfl, hE, rfl⟩
  have hA := VP.st _ _ _ _ hA hE
  have hB := VP.st _ _ _ _ hB hE
  have hc := UInt8.toNat_lt c
  have hff := fold_any (foldC c)
  rw [foldC_idem] at hff
  have H1 := @foldC_no c
  have H2 := @foldC_yes c
  unfold byteV at hff ⊢
  generalize ((foldC c).toNat : Int) = y at *
  generalize c.toNat = x at *
  have key : (65 ≤ x ∧ x ≤ 90 ∧ y = (x : Int) + 32) ∨ (¬ 65 ≤ x ∧ y = x) ∨ (65 ≤ x ∧ ¬ x ≤ 90 ∧ y = x) := by
    by_cases h : 65 ≤ x
    · by_cases h2 : x ≤ 90
      · exact .inl ⟨h, h2, (H2 ⟨h, h2⟩).symm⟩
      · exact .inr (.inr ⟨h, h2, (H1 (by omega)).symm⟩)
    · exact .inr (.inl ⟨h, (H1 (by omega)).symm⟩)
  clear H1 H2
  have hff := hide hff
  rcases key with ⟨h1, h2, rfl⟩ | ⟨h1, rfl⟩ | ⟨h1, h2, rfl⟩
  · go_upto_region 4 with (fail)
    refine vregion0 35 (by kernel_rfl) ?_
    refine VWalk.move _ rfl (want_none rfl) (opd_frame 7 rfl (by kernel_rfl)) ?_
    refine VWalk.move _ rfl (want_none rfl) (opd_frame 0 rfl (by kernel_rfl)) ?_
    refine VWalk.neT' _ _ _ _ rfl (want_none rfl) (opd_dep 0 24 1 rfl rfl rfl rfl) (opd_dep 1 25 0 rfl rfl rfl rfl) (by omega) ?_
    refine VWalk.move _ rfl (want_none rfl) (opd_frame 0 rfl (by kernel_rfl)) ?_
    refine VWalk.geqT _ _ _ _ rfl (want_none rfl) (opd_dep 3 27 0 rfl rfl rfl rfl) (opd_const _) (by omega) ?_
    refine VWalk.move _ rfl (want_none rfl) (opd_dep 4 28 0 rfl rfl rfl rfl) ?_
    refine VWalk.move _ rfl (want_tt 5 29 0 rfl (by kernel_rfl) rfl rfl rfl rfl) (opd_frame 0 rfl (by kernel_rfl)) ?_
    refine VWalk.leqT _ _ _ _ rfl (want_tt 5 29 1 rfl (by kernel_rfl) rfl rfl rfl rfl) (opd_dep 6 30 0 rfl rfl rfl rfl) (opd_const _) (by omega) ?_
    refine VWalk.pickT _ _ _ rfl (want_none rfl) (opd_dep 5 29 2 rfl rfl rfl rfl) (opd_dep 7 31 0 rfl rfl rfl rfl) ?_
    refine VWalk.neTb _ _ _ _ rfl (want_none rfl) (opd_dep 2 26 6 rfl rfl rfl rfl) (opd_dep 8 32 0 rfl rfl rfl rfl) Try.underlying4 rfl ?_
    refine VWalk.move _ rfl (want_none rfl) (opd_dep 9 33 0 rfl rfl rfl rfl) ?_
    refine VWalk.move _ rfl (want_ff 10 34 0 rfl (by kernel_rfl) rfl rfl rfl rfl) (opd_frame 7 rfl (by kernel_rfl)) ?_
    refine VWalk.move _ rfl (want_ff 10 34 1 rfl (by kernel_rfl) rfl rfl rfl rfl) (opd_frame 0 rfl (by kernel_rfl)) ?_
    refine VWalk.neT' _ _ _ _ rfl (want_ff 10 34 2 rfl (by kernel_rfl) rfl rfl rfl rfl) (opd_dep 11 35 1 rfl rfl rfl rfl) (opd_dep 12 36 0 rfl rfl rfl rfl) (by omega) ?_
    refine VWalk.move _ rfl (want_ff 10 34 3 rfl (by kernel_rfl) rfl rfl rfl rfl) (opd_dep 13 37 0 rfl rfl rfl rfl) ?_
    refine VWalk.move _ rfl (want_tt 14 38 0 rfl (by kernel_rfl) rfl rfl rfl rfl) (opd_frame 7 rfl (by kernel_rfl)) ?_
    refine VWalk.lssF _ _ _ _ rfl (want_tt 14 38 1 rfl (by kernel_rfl) rfl rfl rfl rfl) (opd_dep 15 39 0 rfl rfl rfl rfl) (opd_const _) (by omega) ?_
    refine VWalk.move _ rfl (want_tt 14 38 2 rfl (by kernel_rfl) rfl rfl rfl rfl) (opd_dep 16 40 0 rfl rfl rfl rfl) ?_
    refine VWalk.move _ rfl (want_ff 17 41 0 rfl (by kernel_rfl) rfl rfl rfl rfl) (opd_frame 7 rfl (by kernel_rfl)) ?_
    refine VWalk.gtrF _ _ _ _ rfl (want_ff 17 41 1 rfl (by kernel_rfl) rfl rfl rfl rfl) (opd_dep 18 42 0 rfl rfl rfl rfl) (opd_const _) (by omega) ?_
    refine VWalk.pickF _ _ _ rfl (want_tt 14 38 5 rfl (by kernel_rfl) rfl rfl rfl rfl) (opd_dep 17 41 2 rfl rfl rfl rfl) (opd_dep 19 43 0 rfl rfl rfl rfl) ?_
    refine VWalk.move _ rfl (want_tt 14 38 6 rfl (by kernel_rfl) rfl rfl rfl rfl) (opd_dep 20 44 0 rfl rfl rfl rfl) ?_
    refine VWalk.move _ rfl (want_ff 21 45 0 rfl (by kernel_rfl) rfl rfl rfl rfl) (opd_frame 7 rfl (by kernel_rfl)) ?_
    refine VWalk.move _ rfl (want_ff 21 45 1 rfl (by kernel_rfl) rfl rfl rfl rfl) (opd_frame 0 rfl (by kernel_rfl)) ?_
    refine VWalk.subW (c := 32) _ _ _ _ rfl (want_ff 21 45 2 rfl (by kernel_rfl) rfl rfl rfl rfl) (opd_dep 22 46 1 rfl rfl rfl rfl) (opd_dep 23 47 0 rfl rfl rfl rfl) (by rw [show (x : Int) + 32 - x = 32 by omega]; rfl) ?_
    refine VWalk.neT _ _ _ _ rfl (want_ff 21 45 3 rfl (by kernel_rfl) rfl rfl rfl rfl) (opd_dep 24 48 0 rfl rfl rfl rfl) (opd_const _) rfl ?_
    refine VWalk.pickF _ _ _ rfl (want_tt 14 38 11 rfl (by kernel_rfl) rfl rfl rfl rfl) (opd_dep 21 45 4 rfl rfl rfl rfl) (opd_dep 25 49 0 rfl rfl rfl rfl) ?_
    refine VWalk.pickT _ _ _ rfl (want_ff 10 34 16 rfl (by kernel_rfl) rfl rfl rfl rfl) (opd_dep 14 38 12 rfl rfl rfl rfl) (opd_dep 26 50 0 rfl rfl rfl rfl) ?_
    refine VWalk.pickF _ _ _ rfl (want_none rfl) (opd_dep 10 34 17 rfl rfl rfl rfl) (opd_dep 27 51 0 rfl rfl rfl rfl) ?_
    refine VWalk.move _ rfl (want_none rfl) (opd_dep 28 52 0 rfl rfl rfl rfl) ?_
    refine VWalk.move _ rfl (want_ff 29 53 0 rfl (by kernel_rfl) rfl rfl rfl rfl) (opd_frame 7 rfl (by kernel_rfl)) ?_
    refine VWalk.call1 10 _ _ rfl (enters_of Try.func10 (by kernel_rfl) rfl) (want_ff 29 53 1 rfl (by kernel_rfl) rfl rfl rfl rfl) (opd_dep 30 54 0 rfl rfl rfl rfl) (fun u W _ hu => by rw [show u = _ from hu]; exact hff.out W) ?_
    refine VWalk.move _ rfl (want_ff 29 53 2 rfl (by kernel_rfl) rfl rfl rfl rfl) (opd_frame 7 rfl (by kernel_rfl)) ?_
    refine VWalk.neT _ _ _ _ rfl (want_ff 29 53 3 rfl (by kernel_rfl) rfl rfl rfl rfl) (opd_dep 31 55 1 rfl rfl rfl rfl) (opd_dep 32 56 0 rfl rfl rfl rfl) rfl ?_
    refine VWalk.pickF _ _ _ rfl (want_none rfl) (opd_dep 29 53 4 rfl rfl rfl rfl) (opd_dep 33 57 0 rfl rfl rfl rfl) ?_
    refine ⟨rfl, fun W4 hE4 => ?_⟩
    refine VFin.eq ?_  -- 0
    refine VFin.eq ?_  -- 1
    refine VFin.eq ?_  -- 2
    refine VFin.eq ?_  -- 3
    refine VFin.eq ?_  -- 4
    refine VFin.eq ?_  -- 5
    refine VFin.eq ?_  -- 6
    refine VFin.eq ?_  -- 7
    refine VFin.eq ?_  -- 8
    refine VFin.eq ?_  -- 9
    refine VFin.eq ?_  -- 10
    refine VFin.eq ?_  -- 11
    refine VFin.eq ?_  -- 12
    refine VFin.eq ?_  -- 13
    refine VFin.eq ?_  -- 14
    refine VFin.eq ?_  -- 15
    refine VFin.eq ?_  -- 16
    refine VFin.eq ?_  -- 17
    refine VFin.eq ?_  -- 18
    refine VFin.eq ?_  -- 19
    refine VFin.eq ?_  -- 20
    refine VFin.eq ?_  -- 21
    refine VFin.eq ?_  -- 22
    refine VFin.eq ?_  -- 23
    refine VFin.eq ?_  -- 24
    refine VFin.eq ?_  -- 25
    refine VFin.eq ?_  -- 26
    refine VFin.eq ?_  -- 27
    refine VFin.eq ?_  -- 28
    refine VFin.eq ?_  -- 29
    refine VFin.eq ?_  -- 30
    refine VFin.eq ?_  -- 31
    refine VFin.eq ?_  -- 32
    refine VFin.eq ?_  -- 33
    refine VFin.eq ?_  -- 34
    refine VFin.nil ?_
    simp only [Act.put, List.setIfInBounds_toArray, List.set_cons_zero, List.set_cons_succ]
    have hA := VP.st _ _ _ _ hA hE4
    have hB := VP.st _ _ _ _ hB hE4
    have hE := hE.tr hE4
    go_upto_region 6 with (fail)
    refine vregion0 4 (by kernel_rfl) ?_
    refine VWalk.move _ rfl (want_none rfl) (opd_fr 1 rfl hA (Ext.rf _) (by kernel_rfl)) ?_
    refine VWalk.call1 12 _ _ rfl (enters_of Try.func12 (by kernel_rfl) rfl) (want_none rfl) (opd_dep 0 59 0 rfl rfl rfl rfl) (c_folded _ (by omega)) ?_
    refine VWalk.move _ rfl (want_none rfl) (opd_fr 2 rfl hB (Ext.rf _) (by kernel_rfl)) ?_
    refine VWalk.call1 12 _ _ rfl (enters_of Try.func12 (by kernel_rfl) rfl) (want_none rfl) (opd_dep 2 61 0 rfl rfl rfl rfl) (c_folded _ (by omega)) ?_
    refine ⟨rfl, fun W6 hE6 => ?_⟩
    refine VFin.any fun v6_0 hv6_0 => ?_
    refine VFin.any fun v6_1 hv6_1 => ?_
    refine VFin.any fun v6_2 hv6_2 => ?_
    refine VFin.any fun v6_3 hv6_3 => ?_
    refine VFin.nil ?_
    simp only [Act.put, List.setIfInBounds_toArray, List.set_cons_zero, List.set_cons_succ]
    clear hv6_0 hv6_2
    have hA := VP.st _ _ _ _ hA hE6
    have hB := VP.st _ _ _ _ hB hE6
    have hE := hE.tr hE6
    go_upto_region 7 with (fail)
    refine vregion 13 [] (by kernel_rfl) (by kernel_rfl) (fun _ _ _ _ _ h => h) ?_
    refine VWalk.move _ rfl (want_none rfl) (opd_fr 8 rfl hv6_1 (ext_drew _) (by kernel_rfl)) ?_
    refine VWalk.lenB 22 5 _ rfl Try.underlying22 (want_none rfl) (opd_dep 0 63 0 rfl rfl rfl rfl) ?_
    refine VWalk.move _ rfl (want_none rfl) (opd_fr 1 rfl hA (ext_drew _) (by kernel_rfl)) ?_
    refine VWalk.lenB 22 5 _ rfl Try.underlying22 (want_none rfl) (opd_dep 2 65 0 rfl rfl rfl rfl) ?_
    refine VWalk.neT _ _ _ _ rfl (want_none rfl) (opd_dep 1 64 2 rfl rfl rfl rfl) (opd_dep 3 66 0 rfl rfl rfl rfl) (by rw [folds_length]) ?_
    refine VWalk.move _ rfl (want_none rfl) (opd_dep 4 67 0 rfl rfl rfl rfl) ?_
    refine VWalk.move _ rfl (want_ff 5 68 0 rfl (by kernel_rfl) rfl rfl rfl rfl) (opd_fr 8 rfl hv6_1 (ext_drew _) (by kernel_rfl)) ?_
    refine VWalk.call1 12 _ _ rfl (enters_of Try.func12 (by kernel_rfl) rfl) (want_ff 5 68 1 rfl (by kernel_rfl) rfl rfl rfl rfl) (opd_dep 6 69 0 rfl rfl rfl rfl) (c_folded _ (by rw [folds_length]; omega)) ?_
    refine VWalk.string 22 9 5 _ rfl Try.underlying22 Try.underlying5 Try.underlying9 (want_ff 5 68 2 rfl (by kernel_rfl) rfl rfl rfl rfl) (opd_dep 7 70 0 rfl rfl rfl rfl) ?_
    refine VWalk.move _ rfl (want_ff 5 68 3 rfl (by kernel_rfl) rfl rfl rfl rfl) (opd_fr 8 rfl hv6_1 (ext_drew _) (by kernel_rfl)) ?_
    refine VWalk.string 22 9 5 _ rfl Try.underlying22 Try.underlying5 Try.underlying9 (want_ff 5 68 4 rfl (by kernel_rfl) rfl rfl rfl rfl) (opd_dep 9 72 0 rfl rfl rfl rfl) ?_
    refine VWalk.neTs _ _ _ _ rfl (want_ff 5 68 5 rfl (by kernel_rfl) rfl rfl rfl rfl) (opd_dep 8 71 2 rfl rfl rfl rfl) (opd_dep 10 73 0 rfl rfl rfl rfl) (by rw [folds_idem]) ?_
    refine VWalk.pickF _ _ _ rfl (want_none rfl) (opd_dep 5 68 6 rfl rfl rfl rfl) (opd_dep 11 74 0 rfl rfl rfl rfl) ?_
    refine ⟨rfl, fun W7 hE7 => ?_⟩
    refine VFin.any fun v7_0 hv7_0 => ?_
    refine VFin.eq ?_  -- 1
    refine VFin.any fun v7_2 hv7_2 => ?_
    refine VFin.eq ?_  -- 3
    refine VFin.eq ?_  -- 4
    refine VFin.eq ?_  -- 5
    refine VFin.any fun v7_6 hv7_6 => ?_
    refine VFin.any fun v7_7 hv7_7 => ?_
    refine VFin.eq ?_  -- 8
    refine VFin.any fun v7_9 hv7_9 => ?_
    refine VFin.eq ?_  -- 10
    refine VFin.eq ?_  -- 11
    refine VFin.eq ?_  -- 12
    refine VFin.nil ?_
    simp only [Act.put, List.setIfInBounds_toArray, List.set_cons_zero, List.set_cons_succ]
    clear hv7_0 hv7_2 hv7_6 hv7_7 hv7_9
    have hA := VP.st _ _ _ _ hA ((ext_drew _).tr hE7)
    have hB := VP.st _ _ _ _ hB ((ext_drew _).tr hE7)
    have hv6_1 := VP.st _ _ _ _ hv6_1 ((ext_drew _).tr hE7)
    have hv6_3 := VP.st _ _ _ _ hv6_3 ((ext_drew _).tr hE7)
    have hE := hE.tr ((ext_drew _).tr hE7)
    go_wp2
    go_loopw [10] (fun i wr => ∃ k : Nat, k ≤ xs.length ∧ i = .int .i64 k ∧ Below W7.heap.size W7 wr) (fun i _ => xs.length - (intOf i).toNat)
    case atStart => exact ⟨0, by omega, rfl, Below.refl _ _⟩
    case round =>
      obtain ⟨k, hk, rfl, hR⟩ := hrel
      have hA := VP.st _ _ _ _ hA hR
      have hB := VP.st _ _ _ _ hB hR
      have hv6_1 := VP.st _ _ _ _ hv6_1 hR
      have hv6_3 := VP.st _ _ _ _ hv6_3 hR
      have hE := hE.tr hR
      by_cases hlt : k < xs.length
      · go_upto_region 12 with (fail)
        refine vregion 10 [] (by kernel_rfl) (by kernel_rfl) (fun _ _ _ _ _ h => h) ?_
        refine VWalk.move _ rfl (want_none rfl) (opd_fr 8 rfl hv6_1 (ext_drew _) (by kernel_rfl)) ?_
        refine VWalk.move _ rfl (want_none rfl) (opd_frame 10 rfl (by kernel_rfl)) ?_
        refine VWalk.indexB 22 5 _ _ .i64 k rfl Try.underlying22 (by kernel_rfl) (want_none rfl) (opd_dep 0 82 1 rfl rfl rfl rfl) (opd_dep 1 83 0 rfl rfl rfl rfl) (by rw [folds_length]; exact hlt) ?_
        refine VWalk.loadP 5 _ rfl (want_none rfl) (opd_dep 2 84 0 rfl rfl rfl rfl) (fun _ => by kernel_rfl) ?_
        refine VWalk.move _ rfl (want_none rfl) (opd_fr 1 rfl hA (ext_drew _) (by kernel_rfl)) ?_
        refine VWalk.move _ rfl (want_none rfl) (opd_frame 10 rfl (by kernel_rfl)) ?_
        refine VWalk.indexB 22 5 _ _ .i64 k rfl Try.underlying22 (by kernel_rfl) (want_none rfl) (opd_dep 4 86 1 rfl rfl rfl rfl) (opd_dep 5 87 0 rfl rfl rfl rfl) hlt ?_
        refine VWalk.loadP 5 _ rfl (want_none rfl) (opd_dep 6 88 0 rfl rfl rfl rfl) (fun _ => by kernel_rfl) ?_
        refine VWalk.call1 10 _ _ rfl (enters_of Try.func10 (by kernel_rfl) rfl) (want_none rfl) (opd_dep 7 89 0 rfl rfl rfl rfl) (c_fold _) ?_
        refine VWalk.neT _ _ _ _ rfl (want_none rfl) (opd_dep 3 85 5 rfl rfl rfl rfl) (opd_dep 8 90 0 rfl rfl rfl rfl) (by simp [folds]) ?_
        refine ⟨rfl, fun W12 hE12 => ?_⟩
        refine VFin.any fun v12_0 hv12_0 => ?_
        refine VFin.eq ?_  -- 1
        refine VFin.any fun v12_2 hv12_2 => ?_
        refine VFin.eq ?_  -- 3
        refine VFin.any fun v12_4 hv12_4 => ?_
        refine VFin.eq ?_  -- 5
        refine VFin.any fun v12_6 hv12_6 => ?_
        refine VFin.eq ?_  -- 7
        refine VFin.eq ?_  -- 8
        refine VFin.eq ?_  -- 9
        refine VFin.nil ?_
        simp only [Act.put, List.setIfInBounds_toArray, List.set_cons_zero, List.set_cons_succ]
        clear hv12_0 hv12_2 hv12_4 hv12_6
        have hA := VP.st _ _ _ _ hA ((ext_drew _).tr hE12)
        have hB := VP.st _ _ _ _ hB ((ext_drew _).tr hE12)
        have hv6_1 := VP.st _ _ _ _ hv6_1 ((ext_drew _).tr hE12)
        have hv6_3 := VP.st _ _ _ _ hv6_3 ((ext_drew _).tr hE12)
        go_wp2
        exact ⟨⟨k + 1, by omega, by go_num, Ext.tr hR ((ext_drew _).tr hE12)⟩, by simp [intOf]; omega⟩
      · obtain rfl : k = xs.length := by omega
        go_upto_region 14 with (fail)
        refine vregion0 6 (by kernel_rfl) ?_
        refine VWalk.move _ rfl (want_none rfl) (opd_fr 1 rfl hA (Ext.rf _) (by kernel_rfl)) ?_
        refine VWalk.move _ rfl (want_none rfl) (opd_fr 2 rfl hB (Ext.rf _) (by kernel_rfl)) ?_
        refine VWalk.call3 14 _ _ _ _ rfl (enters_of Try.func14 (by kernel_rfl) rfl) (want_none rfl) (opd_const _) (opd_dep 0 92 1 rfl rfl rfl rfl) (opd_dep 1 93 0 rfl rfl rfl rfl) (c_same _ _ _) ?_
        refine VWalk.move _ rfl (want_none rfl) (opd_fr 1 rfl hA (Ext.rf _) (by kernel_rfl)) ?_
        refine VWalk.move _ rfl (want_none rfl) (opd_fr 2 rfl hB (Ext.rf _) (by kernel_rfl)) ?_
        refine VWalk.call3 14 _ _ _ _ rfl (enters_of Try.func14 (by kernel_rfl) rfl) (want_none rfl) (opd_const _) (opd_dep 3 95 1 rfl rfl rfl rfl) (opd_dep 4 96 0 rfl rfl rfl rfl) (c_same _ _ _) ?_
        refine ⟨rfl, fun W14 hE14 => ?_⟩
        refine VFin.any fun v14_0 hv14_0 => ?_
        refine VFin.any fun v14_1 hv14_1 => ?_
        refine VFin.eq ?_  -- 2
        refine VFin.any fun v14_3 hv14_3 => ?_
        refine VFin.any fun v14_4 hv14_4 => ?_
        refine VFin.eq ?_  -- 5
        refine VFin.nil ?_
        simp only [Act.put, List.setIfInBounds_toArray, List.set_cons_zero, List.set_cons_succ]
        clear hv14_0 hv14_1 hv14_3 hv14_4
        have hA := VP.st _ _ _ _ hA hE14
        have hB := VP.st _ _ _ _ hB hE14
        have hv6_1 := VP.st _ _ _ _ hv6_1 hE14
        have hv6_3 := VP.st _ _ _ _ hv6_3 hE14
        have hE := hE.tr hE14
        cases hs : sameB true xs ys
        · have hp : sameB false xs ys = false := by
            cases hp : sameB false xs ys with
            | false => rfl
            | true =>
              rw [show xs = ys from of_decide_eq_true hp, sameB_refl] at hs
              cases hs
          rw [hp]
          go_upto_region 15 with (fail)
          refine law_end0 (r := .bool true) (by assumption) 29 6 126 _ (by kernel_rfl) rfl rfl rfl rfl rfl (by kernel_rfl) rfl 28 rfl rfl ?_
          refine VWalk.move _ rfl (want_none rfl) (opd_frame 11 rfl (by kernel_rfl)) ?_
          refine VWalk.move _ rfl (want_none rfl) (opd_fr 8 rfl hv6_1 (Ext.rf _) (by kernel_rfl)) ?_
          refine VWalk.move _ rfl (want_none rfl) (opd_fr 9 rfl hv6_3 (Ext.rf _) (by kernel_rfl)) ?_
          refine VWalk.call3 14 _ _ _ _ rfl (enters_of Try.func14 (by kernel_rfl) rfl) (want_none rfl) (opd_const _) (opd_dep 1 99 1 rfl rfl rfl rfl) (opd_dep 2 100 0 rfl rfl rfl rfl) (c_same _ _ _) ?_
          refine VWalk.eqTb _ _ _ _ rfl (want_none rfl) (opd_dep 0 98 3 rfl rfl rfl rfl) (opd_dep 3 101 0 rfl rfl rfl rfl) Try.underlying4 hs.symm ?_
          refine VWalk.move _ rfl (want_none rfl) (opd_dep 4 102 0 rfl rfl rfl rfl) ?_
          refine VWalk.move _ rfl (want_tt 5 103 0 rfl (by kernel_rfl) rfl rfl rfl rfl) (opd_frame 12 rfl (by kernel_rfl)) ?_
          refine VWalk.move _ rfl (want_tt 5 103 1 rfl (by kernel_rfl) rfl rfl rfl rfl) (opd_fr 1 rfl hA (Ext.rf _) (by kernel_rfl)) ?_
          refine VWalk.string 22 9 5 _ rfl Try.underlying22 Try.underlying5 Try.underlying9 (want_tt 5 103 2 rfl (by kernel_rfl) rfl rfl rfl rfl) (opd_dep 7 105 0 rfl rfl rfl rfl) ?_
          refine VWalk.move _ rfl (want_tt 5 103 3 rfl (by kernel_rfl) rfl rfl rfl rfl) (opd_fr 2 rfl hB (Ext.rf _) (by kernel_rfl)) ?_
          refine VWalk.string 22 9 5 _ rfl Try.underlying22 Try.underlying5 Try.underlying9 (want_tt 5 103 4 rfl (by kernel_rfl) rfl rfl rfl rfl) (opd_dep 9 107 0 rfl rfl rfl rfl) ?_
          refine VWalk.eqTd _ _ _ _ rfl (want_tt 5 103 5 rfl (by kernel_rfl) rfl rfl rfl rfl) (opd_dep 8 106 2 rfl rfl rfl rfl) (opd_dep 10 108 0 rfl rfl rfl rfl) ?_
          refine VWalk.eqTb _ _ _ _ rfl (want_tt 5 103 6 rfl (by kernel_rfl) rfl rfl rfl rfl) (opd_dep 6 104 5 rfl rfl rfl rfl) (opd_dep 11 109 0 rfl rfl rfl rfl) Try.underlying4 hp.symm ?_
          refine VWalk.pickT _ _ _ rfl (want_none rfl) (opd_dep 5 103 7 rfl rfl rfl rfl) (opd_dep 12 110 0 rfl rfl rfl rfl) ?_
          refine VWalk.move _ rfl (want_none rfl) (opd_dep 13 111 0 rfl rfl rfl rfl) ?_
          refine VWalk.move _ rfl (want_tt 14 112 0 rfl (by kernel_rfl) rfl rfl rfl rfl) (opd_frame 11 rfl (by kernel_rfl)) ?_
          refine VWalk.move _ rfl (want_tt 14 112 1 rfl (by kernel_rfl) rfl rfl rfl rfl) (opd_dep 15 113 0 rfl rfl rfl rfl) ?_
          refine VWalk.move _ rfl (want_ff 16 114 0 rfl (by kernel_rfl) rfl rfl rfl rfl) (opd_frame 12 rfl (by kernel_rfl)) ?_
          refine VWalk.notB _ _ rfl (want_ff 16 114 1 rfl (by kernel_rfl) rfl rfl rfl rfl) (opd_dep 17 115 0 rfl rfl rfl rfl) rfl ?_
          refine VWalk.pickF _ _ _ rfl (want_tt 14 112 4 rfl (by kernel_rfl) rfl rfl rfl rfl) (opd_dep 16 114 2 rfl rfl rfl rfl) (opd_dep 18 116 0 rfl rfl rfl rfl) ?_
          refine VWalk.pickT _ _ _ rfl (want_none rfl) (opd_dep 14 112 5 rfl rfl rfl rfl) (opd_dep 19 117 0 rfl rfl rfl rfl) ?_
          refine VWalk.move _ rfl (want_none rfl) (opd_dep 20 118 0 rfl rfl rfl rfl) ?_
          refine VWalk.move _ rfl (want_tt 21 119 0 rfl (by kernel_rfl) rfl rfl rfl rfl) (opd_fr 1 rfl hA (Ext.rf _) (by kernel_rfl)) ?_
          refine VWalk.move _ rfl (want_tt 21 119 1 rfl (by kernel_rfl) rfl rfl rfl rfl) (opd_fr 8 rfl hv6_1 (Ext.rf _) (by kernel_rfl)) ?_
          refine VWalk.call3 14 _ _ _ _ rfl (enters_of Try.func14 (by kernel_rfl) rfl) (want_tt 21 119 2 rfl (by kernel_rfl) rfl rfl rfl rfl) (opd_const _) (opd_dep 22 120 1 rfl rfl rfl rfl) (opd_dep 23 121 0 rfl rfl rfl rfl) (c_same _ _ _) ?_
          refine VWalk.headT (decide_eq_true (folds_idem xs).symm) ?_
          refine VWalk.pickT _ _ _ rfl (want_none rfl) (opd_dep 21 119 3 rfl rfl rfl rfl) (opd_dep 24 122 0 rfl rfl rfl rfl) ?_
          refine VWalk.move _ rfl (want_none rfl) (opd_dep 25 123 0 rfl rfl rfl rfl) ?_
          refine VWalk.call0 9 _ rfl (enters_of Try.func9 (by kernel_rfl) rfl) (want_tt 26 124 0 rfl (by kernel_rfl) rfl rfl rfl rfl) c_wakes ?_
          refine VWalk.pickT _ _ _ rfl (want_none rfl) (opd_dep 26 124 1 rfl rfl rfl rfl) (opd_dep 27 125 0 rfl rfl rfl rfl) ?_
          refine ⟨rfl, rfl, rfl, fun W15 hE15 => ?_⟩
          exact Ret.mk (hE.tr hE15) rfl
        · go_upto_region 15 with (fail)
          refine law_end0 (r := .bool true) (by assumption) 29 6 126 _ (by kernel_rfl) rfl rfl rfl rfl rfl (by kernel_rfl) rfl 28 rfl rfl ?_
          refine VWalk.move _ rfl (want_none rfl) (opd_frame 11 rfl (by kernel_rfl)) ?_
          refine VWalk.move _ rfl (want_none rfl) (opd_fr 8 rfl hv6_1 (Ext.rf _) (by kernel_rfl)) ?_
          refine VWalk.move _ rfl (want_none rfl) (opd_fr 9 rfl hv6_3 (Ext.rf _) (by kernel_rfl)) ?_
          refine VWalk.call3 14 _ _ _ _ rfl (enters_of Try.func14 (by kernel_rfl) rfl) (want_none rfl) (opd_const _) (opd_dep 1 99 1 rfl rfl rfl rfl) (opd_dep 2 100 0 rfl rfl rfl rfl) (c_same _ _ _) ?_
          refine VWalk.eqTb _ _ _ _ rfl (want_none rfl) (opd_dep 0 98 3 rfl rfl rfl rfl) (opd_dep 3 101 0 rfl rfl rfl rfl) Try.underlying4 hs.symm ?_
          refine VWalk.move _ rfl (want_none rfl) (opd_dep 4 102 0 rfl rfl rfl rfl) ?_
          refine VWalk.move _ rfl (want_tt 5 103 0 rfl (by kernel_rfl) rfl rfl rfl rfl) (opd_frame 12 rfl (by kernel_rfl)) ?_
          refine VWalk.move _ rfl (want_tt 5 103 1 rfl (by kernel_rfl) rfl rfl rfl rfl) (opd_fr 1 rfl hA (Ext.rf _) (by kernel_rfl)) ?_
          refine VWalk.string 22 9 5 _ rfl Try.underlying22 Try.underlying5 Try.underlying9 (want_tt 5 103 2 rfl (by kernel_rfl) rfl rfl rfl rfl) (opd_dep 7 105 0 rfl rfl rfl rfl) ?_
          refine VWalk.move _ rfl (want_tt 5 103 3 rfl (by kernel_rfl) rfl rfl rfl rfl) (opd_fr 2 rfl hB (Ext.rf _) (by kernel_rfl)) ?_
          refine VWalk.string 22 9 5 _ rfl Try.underlying22 Try.underlying5 Try.underlying9 (want_tt 5 103 4 rfl (by kernel_rfl) rfl rfl rfl rfl) (opd_dep 9 107 0 rfl rfl rfl rfl) ?_
          refine VWalk.eqTd _ _ _ _ rfl (want_tt 5 103 5 rfl (by kernel_rfl) rfl rfl rfl rfl) (opd_dep 8 106 2 rfl rfl rfl rfl) (opd_dep 10 108 0 rfl rfl rfl rfl) ?_
          refine VWalk.eqTb _ _ _ _ rfl (want_tt 5 103 6 rfl (by kernel_rfl) rfl rfl rfl rfl) (opd_dep 6 104 5 rfl rfl rfl rfl) (opd_dep 11 109 0 rfl rfl rfl rfl) Try.underlying4 rfl ?_
          refine VWalk.pickT _ _ _ rfl (want_none rfl) (opd_dep 5 103 7 rfl rfl rfl rfl) (opd_dep 12 110 0 rfl rfl rfl rfl) ?_
          refine VWalk.move _ rfl (want_none rfl) (opd_dep 13 111 0 rfl rfl rfl rfl) ?_
          refine VWalk.move _ rfl (want_tt 14 112 0 rfl (by kernel_rfl) rfl rfl rfl rfl) (opd_frame 11 rfl (by kernel_rfl)) ?_
          refine VWalk.move _ rfl (want_tt 14 112 1 rfl (by kernel_rfl) rfl rfl rfl rfl) (opd_dep 15 113 0 rfl rfl rfl rfl) ?_
          refine VWalk.skip (want_tf 16 114 0 rfl (by kernel_rfl) rfl rfl rfl rfl) ?_
          refine VWalk.skip (want_tf 16 114 1 rfl (by kernel_rfl) rfl rfl rfl rfl) ?_
          refine VWalk.pickT _ _ _ rfl (want_tt 14 112 4 rfl (by kernel_rfl) rfl rfl rfl rfl) (opd_dep 16 114 2 rfl rfl rfl rfl) (opd_const _) ?_
          refine VWalk.pickT _ _ _ rfl (want_none rfl) (opd_dep 14 112 5 rfl rfl rfl rfl) (opd_dep 19 117 0 rfl rfl rfl rfl) ?_
          refine VWalk.move _ rfl (want_none rfl) (opd_dep 20 118 0 rfl rfl rfl rfl) ?_
          refine VWalk.move _ rfl (want_tt 21 119 0 rfl (by kernel_rfl) rfl rfl rfl rfl) (opd_fr 1 rfl hA (Ext.rf _) (by kernel_rfl)) ?_
          refine VWalk.move _ rfl (want_tt 21 119 1 rfl (by kernel_rfl) rfl rfl rfl rfl) (opd_fr 8 rfl hv6_1 (Ext.rf _) (by kernel_rfl)) ?_
          refine VWalk.call3 14 _ _ _ _ rfl (enters_of Try.func14 (by kernel_rfl) rfl) (want_tt 21 119 2 rfl (by kernel_rfl) rfl rfl rfl rfl) (opd_const _) (opd_dep 22 120 1 rfl rfl rfl rfl) (opd_dep 23 121 0 rfl rfl rfl rfl) (c_same _ _ _) ?_
          refine VWalk.headT (decide_eq_true (folds_idem xs).symm) ?_
          refine VWalk.pickT _ _ _ rfl (want_none rfl) (opd_dep 21 119 3 rfl rfl rfl rfl) (opd_dep 24 122 0 rfl rfl rfl rfl) ?_
          refine VWalk.move _ rfl (want_none rfl) (opd_dep 25 123 0 rfl rfl rfl rfl) ?_
          refine VWalk.call0 9 _ rfl (enters_of Try.func9 (by kernel_rfl) rfl) (want_tt 26 124 0 rfl (by kernel_rfl) rfl rfl rfl rfl) c_wakes ?_
          refine VWalk.pickT _ _ _ rfl (want_none rfl) (opd_dep 26 124 1 rfl rfl rfl rfl) (opd_dep 27 125 0 rfl rfl rfl rfl) ?_
          refine ⟨rfl, rfl, rfl, fun W15 hE15 => ?_⟩
          exact Ret.mk (hE.tr hE15) rfl
  · go_upto_region 4 with (fail)
    refine vregion0 35 (by kernel_rfl) ?_
    refine VWalk.move _ rfl (want_none rfl) (opd_frame 7 rfl (by kernel_rfl)) ?_
    refine VWalk.move _ rfl (want_none rfl) (opd_frame 0 rfl (by kernel_rfl)) ?_
    refine VWalk.neT _ _ _ _ rfl (want_none rfl) (opd_dep 0 24 1 rfl rfl rfl rfl) (opd_dep 1 25 0 rfl rfl rfl rfl) rfl ?_
    refine VWalk.move _ rfl (want_none rfl) (opd_frame 0 rfl (by kernel_rfl)) ?_
    refine VWalk.geqF _ _ _ _ rfl (want_none rfl) (opd_dep 3 27 0 rfl rfl rfl rfl) (opd_const _) (by omega) ?_
    refine VWalk.move _ rfl (want_none rfl) (opd_dep 4 28 0 rfl rfl rfl rfl) ?_
    refine VWalk.skip (want_ft 5 29 0 rfl (by kernel_rfl) rfl rfl rfl rfl) ?_
    refine VWalk.skip (want_ft 5 29 1 rfl (by kernel_rfl) rfl rfl rfl rfl) ?_
    refine VWalk.pickF _ _ _ rfl (want_none rfl) (opd_dep 5 29 2 rfl rfl rfl rfl) (opd_const _) ?_
    refine VWalk.neTb _ _ _ _ rfl (want_none rfl) (opd_dep 2 26 6 rfl rfl rfl rfl) (opd_dep 8 32 0 rfl rfl rfl rfl) Try.underlying4 rfl ?_
    refine VWalk.move _ rfl (want_none rfl) (opd_dep 9 33 0 rfl rfl rfl rfl) ?_
    refine VWalk.move _ rfl (want_ff 10 34 0 rfl (by kernel_rfl) rfl rfl rfl rfl) (opd_frame 7 rfl (by kernel_rfl)) ?_
    refine VWalk.move _ rfl (want_ff 10 34 1 rfl (by kernel_rfl) rfl rfl rfl rfl) (opd_frame 0 rfl (by kernel_rfl)) ?_
    refine VWalk.neT _ _ _ _ rfl (want_ff 10 34 2 rfl (by kernel_rfl) rfl rfl rfl rfl) (opd_dep 11 35 1 rfl rfl rfl rfl) (opd_dep 12 36 0 rfl rfl rfl rfl) rfl ?_
    refine VWalk.move _ rfl (want_ff 10 34 3 rfl (by kernel_rfl) rfl rfl rfl rfl) (opd_dep 13 37 0 rfl rfl rfl rfl) ?_
    refine VWalk.skip (want_ft 14 38 0 rfl (by kernel_rfl) rfl rfl rfl rfl) ?_
    refine VWalk.skip (want_ft 14 38 1 rfl (by kernel_rfl) rfl rfl rfl rfl) ?_
    refine VWalk.skip (want_ft 14 38 2 rfl (by kernel_rfl) rfl rfl rfl rfl) ?_
    refine VWalk.skip (want_un 17 41 0 rfl (by kernel_rfl) rfl rfl rfl rfl) ?_
    refine VWalk.skip (want_un 17 41 1 rfl (by kernel_rfl) rfl rfl rfl rfl) ?_
    refine VWalk.skip (want_ft 14 38 5 rfl (by kernel_rfl) rfl rfl rfl rfl) ?_
    refine VWalk.skip (want_ft 14 38 6 rfl (by kernel_rfl) rfl rfl rfl rfl) ?_
    refine VWalk.skip (want_un 21 45 0 rfl (by kernel_rfl) rfl rfl rfl rfl) ?_
    refine VWalk.skip (want_un 21 45 1 rfl (by kernel_rfl) rfl rfl rfl rfl) ?_
    refine VWalk.skip (want_un 21 45 2 rfl (by kernel_rfl) rfl rfl rfl rfl) ?_
    refine VWalk.skip (want_un 21 45 3 rfl (by kernel_rfl) rfl rfl rfl rfl) ?_
    refine VWalk.skip (want_ft 14 38 11 rfl (by kernel_rfl) rfl rfl rfl rfl) ?_
    refine VWalk.pickF _ _ _ rfl (want_ff 10 34 16 rfl (by kernel_rfl) rfl rfl rfl rfl) (opd_dep 14 38 12 rfl rfl rfl rfl) (opd_const _) ?_
    refine VWalk.pickF _ _ _ rfl (want_none rfl) (opd_dep 10 34 17 rfl rfl rfl rfl) (opd_dep 27 51 0 rfl rfl rfl rfl) ?_
    refine VWalk.move _ rfl (want_none rfl) (opd_dep 28 52 0 rfl rfl rfl rfl) ?_
    refine VWalk.move _ rfl (want_ff 29 53 0 rfl (by kernel_rfl) rfl rfl rfl rfl) (opd_frame 7 rfl (by kernel_rfl)) ?_
    refine VWalk.call1 10 _ _ rfl (enters_of Try.func10 (by kernel_rfl) rfl) (want_ff 29 53 1 rfl (by kernel_rfl) rfl rfl rfl rfl) (opd_dep 30 54 0 rfl rfl rfl rfl) (fun u W _ hu => by rw [show u = _ from hu]; exact hff.out W) ?_
    refine VWalk.move _ rfl (want_ff 29 53 2 rfl (by kernel_rfl) rfl rfl rfl rfl) (opd_frame 7 rfl (by kernel_rfl)) ?_
    refine VWalk.neT _ _ _ _ rfl (want_ff 29 53 3 rfl (by kernel_rfl) rfl rfl rfl rfl) (opd_dep 31 55 1 rfl rfl rfl rfl) (opd_dep 32 56 0 rfl rfl rfl rfl) rfl ?_
    refine VWalk.pickF _ _ _ rfl (want_none rfl) (opd_dep 29 53 4 rfl rfl rfl rfl) (opd_dep 33 57 0 rfl rfl rfl rfl) ?_
    refine ⟨rfl, fun W4 hE4 => ?_⟩
    refine VFin.eq ?_  -- 0
    refine VFin.eq ?_  -- 1
    refine VFin.eq ?_  -- 2
    refine VFin.eq ?_  -- 3
    refine VFin.eq ?_  -- 4
    refine VFin.eq ?_  -- 5
    refine VFin.eq ?_  -- 6
    refine VFin.eq ?_  -- 7
    refine VFin.eq ?_  -- 8
    refine VFin.eq ?_  -- 9
    refine VFin.eq ?_  -- 10
    refine VFin.eq ?_  -- 11
    refine VFin.eq ?_  -- 12
    refine VFin.eq ?_  -- 13
    refine VFin.eq ?_  -- 14
    refine VFin.eq ?_  -- 15
    refine VFin.eq ?_  -- 16
    refine VFin.eq ?_  -- 17
    refine VFin.eq ?_  -- 18
    refine VFin.eq ?_  -- 19
    refine VFin.eq ?_  -- 20
    refine VFin.eq ?_  -- 21
    refine VFin.eq ?_  -- 22
    refine VFin.eq ?_  -- 23
    refine VFin.eq ?_  -- 24
    refine VFin.eq ?_  -- 25
    refine VFin.eq ?_  -- 26
    refine VFin.eq ?_  -- 27
    refine VFin.eq ?_  -- 28
    refine VFin.eq ?_  -- 29
    refine VFin.eq ?_  -- 30
    refine VFin.eq ?_  -- 31
    refine VFin.eq ?_  -- 32
    refine VFin.eq ?_  -- 33
    refine VFin.eq ?_  -- 34
    refine VFin.nil ?_
    simp only [Act.put, List.setIfInBounds_toArray, List.set_cons_zero, List.set_cons_succ]
    have hA := VP.st _ _ _ _ hA hE4
    have hB := VP.st _ _ _ _ hB hE4
    have hE := hE.tr hE4
    go_upto_region 6 with (fail)
    refine vregion0 4 (by kernel_rfl) ?_
    refine VWalk.move _ rfl (want_none rfl) (opd_fr 1 rfl hA (Ext.rf _) (by kernel_rfl)) ?_
    refine VWalk.call1 12 _ _ rfl (enters_of Try.func12 (by kernel_rfl) rfl) (want_none rfl) (opd_dep 0 59 0 rfl rfl rfl rfl) (c_folded _ (by omega)) ?_
    refine VWalk.move _ rfl (want_none rfl) (opd_fr 2 rfl hB (Ext.rf _) (by kernel_rfl)) ?_
    refine VWalk.call1 12 _ _ rfl (enters_of Try.func12 (by kernel_rfl) rfl) (want_none rfl) (opd_dep 2 61 0 rfl rfl rfl rfl) (c_folded _ (by omega)) ?_
    refine ⟨rfl, fun W6 hE6 => ?_⟩
    refine VFin.any fun v6_0 hv6_0 => ?_
    refine VFin.any fun v6_1 hv6_1 => ?_
    refine VFin.any fun v6_2 hv6_2 => ?_
    refine VFin.any fun v6_3 hv6_3 => ?_
    refine VFin.nil ?_
    simp only [Act.put, List.setIfInBounds_toArray, List.set_cons_zero, List.set_cons_succ]
    clear hv6_0 hv6_2
    have hA := VP.st _ _ _ _ hA hE6
    have hB := VP.st _ _ _ _ hB hE6
    have hE := hE.tr hE6
    go_upto_region 7 with (fail)
    refine vregion 13 [] (by kernel_rfl) (by kernel_rfl) (fun _ _ _ _ _ h => h) ?_
    refine VWalk.move _ rfl (want_none rfl) (opd_fr 8 rfl hv6_1 (ext_drew _) (by kernel_rfl)) ?_
    refine VWalk.lenB 22 5 _ rfl Try.underlying22 (want_none rfl) (opd_dep 0 63 0 rfl rfl rfl rfl) ?_
    refine VWalk.move _ rfl (want_none rfl) (opd_fr 1 rfl hA (ext_drew _) (by kernel_rfl)) ?_
    refine VWalk.lenB 22 5 _ rfl Try.underlying22 (want_none rfl) (opd_dep 2 65 0 rfl rfl rfl rfl) ?_
    refine VWalk.neT _ _ _ _ rfl (want_none rfl) (opd_dep 1 64 2 rfl rfl rfl rfl) (opd_dep 3 66 0 rfl rfl rfl rfl) (by rw [folds_length]) ?_
    refine VWalk.move _ rfl (want_none rfl) (opd_dep 4 67 0 rfl rfl rfl rfl) ?_
    refine VWalk.move _ rfl (want_ff 5 68 0 rfl (by kernel_rfl) rfl rfl rfl rfl) (opd_fr 8 rfl hv6_1 (ext_drew _) (by kernel_rfl)) ?_
    refine VWalk.call1 12 _ _ rfl (enters_of Try.func12 (by kernel_rfl) rfl) (want_ff 5 68 1 rfl (by kernel_rfl) rfl rfl rfl rfl) (opd_dep 6 69 0 rfl rfl rfl rfl) (c_folded _ (by rw [folds_length]; omega)) ?_
    refine VWalk.string 22 9 5 _ rfl Try.underlying22 Try.underlying5 Try.underlying9 (want_ff 5 68 2 rfl (by kernel_rfl) rfl rfl rfl rfl) (opd_dep 7 70 0 rfl rfl rfl rfl) ?_
    refine VWalk.move _ rfl (want_ff 5 68 3 rfl (by kernel_rfl) rfl rfl rfl rfl) (opd_fr 8 rfl hv6_1 (ext_drew _) (by kernel_rfl)) ?_
    refine VWalk.string 22 9 5 _ rfl Try.underlying22 Try.underlying5 Try.underlying9 (want_ff 5 68 4 rfl (by kernel_rfl) rfl rfl rfl rfl) (opd_dep 9 72 0 rfl rfl rfl rfl) ?_
    refine VWalk.neTs _ _ _ _ rfl (want_ff 5 68 5 rfl (by kernel_rfl) rfl rfl rfl rfl) (opd_dep 8 71 2 rfl rfl rfl rfl) (opd_dep 10 73 0 rfl rfl rfl rfl) (by rw [folds_idem]) ?_
    refine VWalk.pickF _ _ _ rfl (want_none rfl) (opd_dep 5 68 6 rfl rfl rfl rfl) (opd_dep 11 74 0 rfl rfl rfl rfl) ?_
    refine ⟨rfl, fun W7 hE7 => ?_⟩
    refine VFin.any fun v7_0 hv7_0 => ?_
    refine VFin.eq ?_  -- 1
    refine VFin.any fun v7_2 hv7_2 => ?_
    refine VFin.eq ?_  -- 3
    refine VFin.eq ?_  -- 4
    refine VFin.eq ?_  -- 5
    refine VFin.any fun v7_6 hv7_6 => ?_
    refine VFin.any fun v7_7 hv7_7 => ?_
    refine VFin.eq ?_  -- 8
    refine VFin.any fun v7_9 hv7_9 => ?_
    refine VFin.eq ?_  -- 10
    refine VFin.eq ?_  -- 11
    refine VFin.eq ?_  -- 12
    refine VFin.nil ?_
    simp only [Act.put, List.setIfInBounds_toArray, List.set_cons_zero, List.set_cons_succ]
    clear hv7_0 hv7_2 hv7_6 hv7_7 hv7_9
    have hA := VP.st _ _ _ _ hA ((ext_drew _).tr hE7)
    have hB := VP.st _ _ _ _ hB ((ext_drew _).tr hE7)
    have hv6_1 := VP.st _ _ _ _ hv6_1 ((ext_drew _).tr hE7)
    have hv6_3 := VP.st _ _ _ _ hv6_3 ((ext_drew _).tr hE7)
    have hE := hE.tr ((ext_drew _).tr hE7)
    go_wp2
    go_loopw [10] (fun i wr => ∃ k : Nat, k ≤ xs.length ∧ i = .int .i64 k ∧ Below W7.heap.size W7 wr) (fun i _ => xs.length - (intOf i).toNat)
    case atStart => exact ⟨0, by omega, rfl, Below.refl _ _⟩
    case round =>
      obtain ⟨k, hk, rfl, hR⟩ := hrel
      have hA := VP.st _ _ _ _ hA hR
      have hB := VP.st _ _ _ _ hB hR
      have hv6_1 := VP.st _ _ _ _ hv6_1 hR
      have hv6_3 := VP.st _ _ _ _ hv6_3 hR
      have hE := hE.tr hR
      by_cases hlt : k < xs.length
      · go_upto_region 12 with (fail)
        refine vregion 10 [] (by kernel_rfl) (by kernel_rfl) (fun _ _ _ _ _ h => h) ?_
        refine VWalk.move _ rfl (want_none rfl) (opd_fr 8 rfl hv6_1 (ext_drew _) (by kernel_rfl)) ?_
        refine VWalk.move _ rfl (want_none rfl) (opd_frame 10 rfl (by kernel_rfl)) ?_
        refine VWalk.indexB 22 5 _ _ .i64 k rfl Try.underlying22 (by kernel_rfl) (want_none rfl) (opd_dep 0 82 1 rfl rfl rfl rfl) (opd_dep 1 83 0 rfl rfl rfl rfl) (by rw [folds_length]; exact hlt) ?_
        refine VWalk.loadP 5 _ rfl (want_none rfl) (opd_dep 2 84 0 rfl rfl rfl rfl) (fun _ => by kernel_rfl) ?_
        refine VWalk.move _ rfl (want_none rfl) (opd_fr 1 rfl hA (ext_drew _) (by kernel_rfl)) ?_
        refine VWalk.move _ rfl (want_none rfl) (opd_frame 10 rfl (by kernel_rfl)) ?_
        refine VWalk.indexB 22 5 _ _ .i64 k rfl Try.underlying22 (by kernel_rfl) (want_none rfl) (opd_dep 4 86 1 rfl rfl rfl rfl) (opd_dep 5 87 0 rfl rfl rfl rfl) hlt ?_
        refine VWalk.loadP 5 _ rfl (want_none rfl) (opd_dep 6 88 0 rfl rfl rfl rfl) (fun _ => by kernel_rfl) ?_
        refine VWalk.call1 10 _ _ rfl (enters_of Try.func10 (by kernel_rfl) rfl) (want_none rfl) (opd_dep 7 89 0 rfl rfl rfl rfl) (c_fold _) ?_
        refine VWalk.neT _ _ _ _ rfl (want_none rfl) (opd_dep 3 85 5 rfl rfl rfl rfl) (opd_dep 8 90 0 rfl rfl rfl rfl) (by simp [folds]) ?_
        refine ⟨rfl, fun W12 hE12 => ?_⟩
        refine VFin.any fun v12_0 hv12_0 => ?_
        refine VFin.eq ?_  -- 1
        refine VFin.any fun v12_2 hv12_2 => ?_
        refine VFin.eq ?_  -- 3
        refine VFin.any fun v12_4 hv12_4 => ?_
        refine VFin.eq ?_  -- 5
        refine VFin.any fun v12_6 hv12_6 => ?_
        refine VFin.eq ?_  -- 7
        refine VFin.eq ?_  -- 8
        refine VFin.eq ?_  -- 9
        refine VFin.nil ?_
        simp only [Act.put, List.setIfInBounds_toArray, List.set_cons_zero, List.set_cons_succ]
        clear hv12_0 hv12_2 hv12_4 hv12_6
        have hA := VP.st _ _ _ _ hA ((ext_drew _).tr hE12)
        have hB := VP.st _ _ _ _ hB ((ext_drew _).tr hE12)
        have hv6_1 := VP.st _ _ _ _ hv6_1 ((ext_drew _).tr hE12)
        have hv6_3 := VP.st _ _ _ _ hv6_3 ((ext_drew _).tr hE12)
        go_wp2
        exact ⟨⟨k + 1, by omega, by go_num, Ext.tr hR ((ext_drew _).tr hE12)⟩, by simp [intOf]; omega⟩
      · obtain rfl : k = xs.length := by omega
        go_upto_region 14 with (fail)
        refine vregion0 6 (by kernel_rfl) ?_
        refine VWalk.move _ rfl (want_none rfl) (opd_fr 1 rfl hA (Ext.rf _) (by kernel_rfl)) ?_
        refine VWalk.move _ rfl (want_none rfl) (opd_fr 2 rfl hB (Ext.rf _) (by kernel_rfl)) ?_
        refine VWalk.call3 14 _ _ _ _ rfl (enters_of Try.func14 (by kernel_rfl) rfl) (want_none rfl) (opd_const _) (opd_dep 0 92 1 rfl rfl rfl rfl) (opd_dep 1 93 0 rfl rfl rfl rfl) (c_same _ _ _) ?_
        refine VWalk.move _ rfl (want_none rfl) (opd_fr 1 rfl hA (Ext.rf _) (by kernel_rfl)) ?_
        refine VWalk.move _ rfl (want_none rfl) (opd_fr 2 rfl hB (Ext.rf _) (by kernel_rfl)) ?_
        refine VWalk.call3 14 _ _ _ _ rfl (enters_of Try.func14 (by kernel_rfl) rfl) (want_none rfl) (opd_const _) (opd_dep 3 95 1 rfl rfl rfl rfl) (opd_dep 4 96 0 rfl rfl rfl rfl) (c_same _ _ _) ?_
        refine ⟨rfl, fun W14 hE14 => ?_⟩
        refine VFin.any fun v14_0 hv14_0 => ?_
        refine VFin.any fun v14_1 hv14_1 => ?_
        refine VFin.eq ?_  -- 2
        refine VFin.any fun v14_3 hv14_3 => ?_
        refine VFin.any fun v14_4 hv14_4 => ?_
        refine VFin.eq ?_  -- 5
        refine VFin.nil ?_
        simp only [Act.put, List.setIfInBounds_toArray, List.set_cons_zero, List.set_cons_succ]
        clear hv14_0 hv14_1 hv14_3 hv14_4
        have hA := VP.st _ _ _ _ hA hE14
        have hB := VP.st _ _ _ _ hB hE14
        have hv6_1 := VP.st _ _ _ _ hv6_1 hE14
        have hv6_3 := VP.st _ _ _ _ hv6_3 hE14
        have hE := hE.tr hE14
        cases hs : sameB true xs ys
        · have hp : sameB false xs ys = false := by
            cases hp : sameB false xs ys with
            | false => rfl
            | true =>
              rw [show xs = ys from of_decide_eq_true hp, sameB_refl] at hs
              cases hs
          rw [hp]
          go_upto_region 15 with (fail)
          refine law_end0 (r := .bool true) (by assumption) 29 6 126 _ (by kernel_rfl) rfl rfl rfl rfl rfl (by kernel_rfl) rfl 28 rfl rfl ?_
          refine VWalk.move _ rfl (want_none rfl) (opd_frame 11 rfl (by kernel_rfl)) ?_
          refine VWalk.move _ rfl (want_none rfl) (opd_fr 8 rfl hv6_1 (Ext.rf _) (by kernel_rfl)) ?_
          refine VWalk.move _ rfl (want_none rfl) (opd_fr 9 rfl hv6_3 (Ext.rf _) (by kernel_rfl)) ?_
          refine VWalk.call3 14 _ _ _ _ rfl (enters_of Try.func14 (by kernel_rfl) rfl) (want_none rfl) (opd_const _) (opd_dep 1 99 1 rfl rfl rfl rfl) (opd_dep 2 100 0 rfl rfl rfl rfl) (c_same _ _ _) ?_
          refine VWalk.eqTb _ _ _ _ rfl (want_none rfl) (opd_dep 0 98 3 rfl rfl rfl rfl) (opd_dep 3 101 0 rfl rfl rfl rfl) Try.underlying4 hs.symm ?_
          refine VWalk.move _ rfl (want_none rfl) (opd_dep 4 102 0 rfl rfl rfl rfl) ?_
          refine VWalk.move _ rfl (want_tt 5 103 0 rfl (by kernel_rfl) rfl rfl rfl rfl) (opd_frame 12 rfl (by kernel_rfl)) ?_
          refine VWalk.move _ rfl (want_tt 5 103 1 rfl (by kernel_rfl) rfl rfl rfl rfl) (opd_fr 1 rfl hA (Ext.rf _) (by kernel_rfl)) ?_
          refine VWalk.string 22 9 5 _ rfl Try.underlying22 Try.underlying5 Try.underlying9 (want_tt 5 103 2 rfl (by kernel_rfl) rfl rfl rfl rfl) (opd_dep 7 105 0 rfl rfl rfl rfl) ?_
          refine VWalk.move _ rfl (want_tt 5 103 3 rfl (by kernel_rfl) rfl rfl rfl rfl) (opd_fr 2 rfl hB (Ext.rf _) (by kernel_rfl)) ?_
          refine VWalk.string 22 9 5 _ rfl Try.underlying22 Try.underlying5 Try.underlying9 (want_tt 5 103 4 rfl (by kernel_rfl) rfl rfl rfl rfl) (opd_dep 9 107 0 rfl rfl rfl rfl) ?_
          refine VWalk.eqTd _ _ _ _ rfl (want_tt 5 103 5 rfl (by kernel_rfl) rfl rfl rfl rfl) (opd_dep 8 106 2 rfl rfl rfl rfl) (opd_dep 10 108 0 rfl rfl rfl rfl) ?_
          refine VWalk.eqTb _ _ _ _ rfl (want_tt 5 103 6 rfl (by kernel_rfl) rfl rfl rfl rfl) (opd_dep 6 104 5 rfl rfl rfl rfl) (opd_dep 11 109 0 rfl rfl rfl rfl) Try.underlying4 hp.symm ?_
          refine VWalk.pickT _ _ _ rfl (want_none rfl) (opd_dep 5 103 7 rfl rfl rfl rfl) (opd_dep 12 110 0 rfl rfl rfl rfl) ?_
          refine VWalk.move _ rfl (want_none rfl) (opd_dep 13 111 0 rfl rfl rfl rfl) ?_
          refine VWalk.move _ rfl (want_tt 14 112 0 rfl (by kernel_rfl) rfl rfl rfl rfl) (opd_frame 11 rfl (by kernel_rfl)) ?_
          refine VWalk.move _ rfl (want_tt 14 112 1 rfl (by kernel_rfl) rfl rfl rfl rfl) (opd_dep 15 113 0 rfl rfl rfl rfl) ?_
          refine VWalk.move _ rfl (want_ff 16 114 0 rfl (by kernel_rfl) rfl rfl rfl rfl) (opd_frame 12 rfl (by kernel_rfl)) ?_
          refine VWalk.notB _ _ rfl (want_ff 16 114 1 rfl (by kernel_rfl) rfl rfl rfl rfl) (opd_dep 17 115 0 rfl rfl rfl rfl) rfl ?_
          refine VWalk.pickF _ _ _ rfl (want_tt 14 112 4 rfl (by kernel_rfl) rfl rfl rfl rfl) (opd_dep 16 114 2 rfl rfl rfl rfl) (opd_dep 18 116 0 rfl rfl rfl rfl) ?_
          refine VWalk.pickT _ _ _ rfl (want_none rfl) (opd_dep 14 112 5 rfl rfl rfl rfl) (opd_dep 19 117 0 rfl rfl rfl rfl) ?_
          refine VWalk.move _ rfl (want_none rfl) (opd_dep 20 118 0 rfl rfl rfl rfl) ?_
          refine VWalk.move _ rfl (want_tt 21 119 0 rfl (by kernel_rfl) rfl rfl rfl rfl) (opd_fr 1 rfl hA (Ext.rf _) (by kernel_rfl)) ?_
          refine VWalk.move _ rfl (want_tt 21 119 1 rfl (by kernel_rfl) rfl rfl rfl rfl) (opd_fr 8 rfl hv6_1 (Ext.rf _) (by kernel_rfl)) ?_
          refine VWalk.call3 14 _ _ _ _ rfl (enters_of Try.func14 (by kernel_rfl) rfl) (want_tt 21 119 2 rfl (by kernel_rfl) rfl rfl rfl rfl) (opd_const _) (opd_dep 22 120 1 rfl rfl rfl rfl) (opd_dep 23 121 0 rfl rfl rfl rfl) (c_same _ _ _) ?_
          refine VWalk.headT (decide_eq_true (folds_idem xs).symm) ?_
          refine VWalk.pickT _ _ _ rfl (want_none rfl) (opd_dep 21 119 3 rfl rfl rfl rfl) (opd_dep 24 122 0 rfl rfl rfl rfl) ?_
          refine VWalk.move _ rfl (want_none rfl) (opd_dep 25 123 0 rfl rfl rfl rfl) ?_
          refine VWalk.call0 9 _ rfl (enters_of Try.func9 (by kernel_rfl) rfl) (want_tt 26 124 0 rfl (by kernel_rfl) rfl rfl rfl rfl) c_wakes ?_
          refine VWalk.pickT _ _ _ rfl (want_none rfl) (opd_dep 26 124 1 rfl rfl rfl rfl) (opd_dep 27 125 0 rfl rfl rfl rfl) ?_
          refine ⟨rfl, rfl, rfl, fun W15 hE15 => ?_⟩
          exact Ret.mk (hE.tr hE15) rfl
        · go_upto_region 15 with (fail)
          refine law_end0 (r := .bool true) (by assumption) 29 6 126 _ (by kernel_rfl) rfl rfl rfl rfl rfl (by kernel_rfl) rfl 28 rfl rfl ?_
          refine VWalk.move _ rfl (want_none rfl) (opd_frame 11 rfl (by kernel_rfl)) ?_
          refine VWalk.move _ rfl (want_none rfl) (opd_fr 8 rfl hv6_1 (Ext.rf _) (by kernel_rfl)) ?_
          refine VWalk.move _ rfl (want_none rfl) (opd_fr 9 rfl hv6_3 (Ext.rf _) (by kernel_rfl)) ?_
          refine VWalk.call3 14 _ _ _ _ rfl (enters_of Try.func14 (by kernel_rfl) rfl) (want_none rfl) (opd_const _) (opd_dep 1 99 1 rfl rfl rfl rfl) (opd_dep 2 100 0 rfl rfl rfl rfl) (c_same _ _ _) ?_
          refine VWalk.eqTb _ _ _ _ rfl (want_none rfl) (opd_dep 0 98 3 rfl rfl rfl rfl) (opd_dep 3 101 0 rfl rfl rfl rfl) Try.underlying4 hs.symm ?_
          refine VWalk.move _ rfl (want_none rfl) (opd_dep 4 102 0 rfl rfl rfl rfl) ?_
          refine VWalk.move _ rfl (want_tt 5 103 0 rfl (by kernel_rfl) rfl rfl rfl rfl) (opd_frame 12 rfl (by kernel_rfl)) ?_
          refine VWalk.move _ rfl (want_tt 5 103 1 rfl (by kernel_rfl) rfl rfl rfl rfl) (opd_fr 1 rfl hA (Ext.rf _) (by kernel_rfl)) ?_
          refine VWalk.string 22 9 5 _ rfl Try.underlying22 Try.underlying5 Try.underlying9 (want_tt 5 103 2 rfl (by kernel_rfl) rfl rfl rfl rfl) (opd_dep 7 105 0 rfl rfl rfl rfl) ?_
          refine VWalk.move _ rfl (want_tt 5 103 3 rfl (by kernel_rfl) rfl rfl rfl rfl) (opd_fr 2 rfl hB (Ext.rf _) (by kernel_rfl)) ?_
          refine VWalk.string 22 9 5 _ rfl Try.underlying22 Try.underlying5 Try.underlying9 (want_tt 5 103 4 rfl (by kernel_rfl) rfl rfl rfl rfl) (opd_dep 9 107 0 rfl rfl rfl rfl) ?_
          refine VWalk.eqTd _ _ _ _ rfl (want_tt 5 103 5 rfl (by kernel_rfl) rfl rfl rfl rfl) (opd_dep 8 106 2 rfl rfl rfl rfl) (opd_dep 10 108 0 rfl rfl rfl rfl) ?_
          refine VWalk.eqTb _ _ _ _ rfl (want_tt 5 103 6 rfl (by kernel_rfl) rfl rfl rfl rfl) (opd_dep 6 104 5 rfl rfl rfl rfl) (opd_dep 11 109 0 rfl rfl rfl rfl) Try.underlying4 rfl ?_
          refine VWalk.pickT _ _ _ rfl (want_none rfl) (opd_dep 5 103 7 rfl rfl rfl rfl) (opd_dep 12 110 0 rfl rfl rfl rfl) ?_
          refine VWalk.move _ rfl (want_none rfl) (opd_dep 13 111 0 rfl rfl rfl rfl) ?_
          refine VWalk.move _ rfl (want_tt 14 112 0 rfl (by kernel_rfl) rfl rfl rfl rfl) (opd_frame 11 rfl (by kernel_rfl)) ?_
          refine VWalk.move _ rfl (want_tt 14 112 1 rfl (by kernel_rfl) rfl rfl rfl rfl) (opd_dep 15 113 0 rfl rfl rfl rfl) ?_
          refine VWalk.skip (want_tf 16 114 0 rfl (by kernel_rfl) rfl rfl rfl rfl) ?_
          refine VWalk.skip (want_tf 16 114 1 rfl (by kernel_rfl) rfl rfl rfl rfl) ?_
          refine VWalk.pickT _ _ _ rfl (want_tt 14 112 4 rfl (by kernel_rfl) rfl rfl rfl rfl) (opd_dep 16 114 2 rfl rfl rfl rfl) (opd_const _) ?_
          refine VWalk.pickT _ _ _ rfl (want_none rfl) (opd_dep 14 112 5 rfl rfl rfl rfl) (opd_dep 19 117 0 rfl rfl rfl rfl) ?_
          refine VWalk.move _ rfl (want_none rfl) (opd_dep 20 118 0 rfl rfl rfl rfl) ?_
          refine VWalk.move _ rfl (want_tt 21 119 0 rfl (by kernel_rfl) rfl rfl rfl rfl) (opd_fr 1 rfl hA (Ext.rf _) (by kernel_rfl)) ?_
          refine VWalk.move _ rfl (want_tt 21 119 1 rfl (by kernel_rfl) rfl rfl rfl rfl) (opd_fr 8 rfl hv6_1 (Ext.rf _) (by kernel_rfl)) ?_
          refine VWalk.call3 14 _ _ _ _ rfl (enters_of Try.func14 (by kernel_rfl) rfl) (want_tt 21 119 2 rfl (by kernel_rfl) rfl rfl rfl rfl) (opd_const _) (opd_dep 22 120 1 rfl rfl rfl rfl) (opd_dep 23 121 0 rfl rfl rfl rfl) (c_same _ _ _) ?_
          refine VWalk.headT (decide_eq_true (folds_idem xs).symm) ?_
          refine VWalk.pickT _ _ _ rfl (want_none rfl) (opd_dep 21 119 3 rfl rfl rfl rfl) (opd_dep 24 122 0 rfl rfl rfl rfl) ?_
          refine VWalk.move _ rfl (want_none rfl) (opd_dep 25 123 0 rfl rfl rfl rfl) ?_
          refine VWalk.call0 9 _ rfl (enters_of Try.func9 (by kernel_rfl) rfl) (want_tt 26 124 0 rfl (by kernel_rfl) rfl rfl rfl rfl) c_wakes ?_
          refine VWalk.pickT _ _ _ rfl (want_none rfl) (opd_dep 26 124 1 rfl rfl rfl rfl) (opd_dep 27 125 0 rfl rfl rfl rfl) ?_
          refine ⟨rfl, rfl, rfl, fun W15 hE15 => ?_⟩
          exact Ret.mk (hE.tr hE15) rfl
  · go_upto_region 4 with (fail)
    refine vregion0 35 (by kernel_rfl) ?_
    refine VWalk.move _ rfl (want_none rfl) (opd_frame 7 rfl (by kernel_rfl)) ?_
    refine VWalk.move _ rfl (want_none rfl) (opd_frame 0 rfl (by kernel_rfl)) ?_
    refine VWalk.neT _ _ _ _ rfl (want_none rfl) (opd_dep 0 24 1 rfl rfl rfl rfl) (opd_dep 1 25 0 rfl rfl rfl rfl) rfl ?_
    refine VWalk.move _ rfl (want_none rfl) (opd_frame 0 rfl (by kernel_rfl)) ?_
    refine VWalk.geqT _ _ _ _ rfl (want_none rfl) (opd_dep 3 27 0 rfl rfl rfl rfl) (opd_const _) (by omega) ?_
    refine VWalk.move _ rfl (want_none rfl) (opd_dep 4 28 0 rfl rfl rfl rfl) ?_
    refine VWalk.move _ rfl (want_tt 5 29 0 rfl (by kernel_rfl) rfl rfl rfl rfl) (opd_frame 0 rfl (by kernel_rfl)) ?_
    refine VWalk.leqF _ _ _ _ rfl (want_tt 5 29 1 rfl (by kernel_rfl) rfl rfl rfl rfl) (opd_dep 6 30 0 rfl rfl rfl rfl) (opd_const _) (by omega) ?_
    refine VWalk.pickT _ _ _ rfl (want_none rfl) (opd_dep 5 29 2 rfl rfl rfl rfl) (opd_dep 7 31 0 rfl rfl rfl rfl) ?_
    refine VWalk.neTb _ _ _ _ rfl (want_none rfl) (opd_dep 2 26 6 rfl rfl rfl rfl) (opd_dep 8 32 0 rfl rfl rfl rfl) Try.underlying4 rfl ?_
    refine VWalk.move _ rfl (want_none rfl) (opd_dep 9 33 0 rfl rfl rfl rfl) ?_
    refine VWalk.move _ rfl (want_ff 10 34 0 rfl (by kernel_rfl) rfl rfl rfl rfl) (opd_frame 7 rfl (by kernel_rfl)) ?_
    refine VWalk.move _ rfl (want_ff 10 34 1 rfl (by kernel_rfl) rfl rfl rfl rfl) (opd_frame 0 rfl (by kernel_rfl)) ?_
    refine VWalk.neT _ _ _ _ rfl (want_ff 10 34 2 rfl (by kernel_rfl) rfl rfl rfl rfl) (opd_dep 11 35 1 rfl rfl rfl rfl) (opd_dep 12 36 0 rfl rfl rfl rfl) rfl ?_
    refine VWalk.move _ rfl (want_ff 10 34 3 rfl (by kernel_rfl) rfl rfl rfl rfl) (opd_dep 13 37 0 rfl rfl rfl rfl) ?_
    refine VWalk.skip (want_ft 14 38 0 rfl (by kernel_rfl) rfl rfl rfl rfl) ?_
    refine VWalk.skip (want_ft 14 38 1 rfl (by kernel_rfl) rfl rfl rfl rfl) ?_
    refine VWalk.skip (want_ft 14 38 2 rfl (by kernel_rfl) rfl rfl rfl rfl) ?_
    refine VWalk.skip (want_un 17 41 0 rfl (by kernel_rfl) rfl rfl rfl rfl) ?_
    refine VWalk.skip (want_un 17 41 1 rfl (by kernel_rfl) rfl rfl rfl rfl) ?_
    refine VWalk.skip (want_ft 14 38 5 rfl (by kernel_rfl) rfl rfl rfl rfl) ?_
    refine VWalk.skip (want_ft 14 38 6 rfl (by kernel_rfl) rfl rfl rfl rfl) ?_
    refine VWalk.skip (want_un 21 45 0 rfl (by kernel_rfl) rfl rfl rfl rfl) ?_
    refine VWalk.skip (want_un 21 45 1 rfl (by kernel_rfl) rfl rfl rfl rfl) ?_
    refine VWalk.skip (want_un 21 45 2 rfl (by kernel_rfl) rfl rfl rfl rfl) ?_
    refine VWalk.skip (want_un 21 45 3 rfl (by kernel_rfl) rfl rfl rfl rfl) ?_
    refine VWalk.skip (want_ft 14 38 11 rfl (by kernel_rfl) rfl rfl rfl rfl) ?_
    refine VWalk.pickF _ _ _ rfl (want_ff 10 34 16 rfl (by kernel_rfl) rfl rfl rfl rfl) (opd_dep 14 38 12 rfl rfl rfl rfl) (opd_const _) ?_
    refine VWalk.pickF _ _ _ rfl (want_none rfl) (opd_dep 10 34 17 rfl rfl rfl rfl) (opd_dep 27 51 0 rfl rfl rfl rfl) ?_
    refine VWalk.move _ rfl (want_none rfl) (opd_dep 28 52 0 rfl rfl rfl rfl) ?_
    refine VWalk.move _ rfl (want_ff 29 53 0 rfl (by kernel_rfl) rfl rfl rfl rfl) (opd_frame 7 rfl (by kernel_rfl)) ?_
    refine VWalk.call1 10 _ _ rfl (enters_of Try.func10 (by kernel_rfl) rfl) (want_ff 29 53 1 rfl (by kernel_rfl) rfl rfl rfl rfl) (opd_dep 30 54 0 rfl rfl rfl rfl) (fun u W _ hu => by rw [show u = _ from hu]; exact hff.out W) ?_
    refine VWalk.move _ rfl (want_ff 29 53 2 rfl (by kernel_rfl) rfl rfl rfl rfl) (opd_frame 7 rfl (by kernel_rfl)) ?_
    refine VWalk.neT _ _ _ _ rfl (want_ff 29 53 3 rfl (by kernel_rfl) rfl rfl rfl rfl) (opd_dep 31 55 1 rfl rfl rfl rfl) (opd_dep 32 56 0 rfl rfl rfl rfl) rfl ?_
    refine VWalk.pickF _ _ _ rfl (want_none rfl) (opd_dep 29 53 4 rfl rfl rfl rfl) (opd_dep 33 57 0 rfl rfl rfl rfl) ?_
    refine ⟨rfl, fun W4 hE4 => ?_⟩
    refine VFin.eq ?_  -- 0
    refine VFin.eq ?_  -- 1
    refine VFin.eq ?_  -- 2
    refine VFin.eq ?_  -- 3
    refine VFin.eq ?_  -- 4
    refine VFin.eq ?_  -- 5
    refine VFin.eq ?_  -- 6
    refine VFin.eq ?_  -- 7
    refine VFin.eq ?_  -- 8
    refine VFin.eq ?_  -- 9
    refine VFin.eq ?_  -- 10
    refine VFin.eq ?_  -- 11
    refine VFin.eq ?_  -- 12
    refine VFin.eq ?_  -- 13
    refine VFin.eq ?_  -- 14
    refine VFin.eq ?_  -- 15
    refine VFin.eq ?_  -- 16
    refine VFin.eq ?_  -- 17
    refine VFin.eq ?_  -- 18
    refine VFin.eq ?_  -- 19
    refine VFin.eq ?_  -- 20
    refine VFin.eq ?_  -- 21
    refine VFin.eq ?_  -- 22
    refine VFin.eq ?_  -- 23
    refine VFin.eq ?_  -- 24
    refine VFin.eq ?_  -- 25
    refine VFin.eq ?_  -- 26
    refine VFin.eq ?_  -- 27
    refine VFin.eq ?_  -- 28
    refine VFin.eq ?_  -- 29
    refine VFin.eq ?_  -- 30
    refine VFin.eq ?_  -- 31
    refine VFin.eq ?_  -- 32
    refine VFin.eq ?_  -- 33
    refine VFin.eq ?_  -- 34
    refine VFin.nil ?_
    simp only [Act.put, List.setIfInBounds_toArray, List.set_cons_zero, List.set_cons_succ]
    have hA := VP.st _ _ _ _ hA hE4
    have hB := VP.st _ _ _ _ hB hE4
    have hE := hE.tr hE4
    go_upto_region 6 with (fail)
    refine vregion0 4 (by kernel_rfl) ?_
    refine VWalk.move _ rfl (want_none rfl) (opd_fr 1 rfl hA (Ext.rf _) (by kernel_rfl)) ?_
    refine VWalk.call1 12 _ _ rfl (enters_of Try.func12 (by kernel_rfl) rfl) (want_none rfl) (opd_dep 0 59 0 rfl rfl rfl rfl) (c_folded _ (by omega)) ?_
    refine VWalk.move _ rfl (want_none rfl) (opd_fr 2 rfl hB (Ext.rf _) (by kernel_rfl)) ?_
    refine VWalk.call1 12 _ _ rfl (enters_of Try.func12 (by kernel_rfl) rfl) (want_none rfl) (opd_dep 2 61 0 rfl rfl rfl rfl) (c_folded _ (by omega)) ?_
    refine ⟨rfl, fun W6 hE6 => ?_⟩
    refine VFin.any fun v6_0 hv6_0 => ?_
    refine VFin.any fun v6_1 hv6_1 => ?_
    refine VFin.any fun v6_2 hv6_2 => ?_
    refine VFin.any fun v6_3 hv6_3 => ?_
    refine VFin.nil ?_
    simp only [Act.put, List.setIfInBounds_toArray, List.set_cons_zero, List.set_cons_succ]
    clear hv6_0 hv6_2
    have hA := VP.st _ _ _ _ hA hE6
    have hB := VP.st _ _ _ _ hB hE6
    have hE := hE.tr hE6
    go_upto_region 7 with (fail)
    refine vregion 13 [] (by kernel_rfl) (by kernel_rfl) (fun _ _ _ _ _ h => h) ?_
    refine VWalk.move _ rfl (want_none rfl) (opd_fr 8 rfl hv6_1 (ext_drew _) (by kernel_rfl)) ?_
    refine VWalk.lenB 22 5 _ rfl Try.underlying22 (want_none rfl) (opd_dep 0 63 0 rfl rfl rfl rfl) ?_
    refine VWalk.move _ rfl (want_none rfl) (opd_fr 1 rfl hA (ext_drew _) (by kernel_rfl)) ?_
    refine VWalk.lenB 22 5 _ rfl Try.underlying22 (want_none rfl) (opd_dep 2 65 0 rfl rfl rfl rfl) ?_
    refine VWalk.neT _ _ _ _ rfl (want_none rfl) (opd_dep 1 64 2 rfl rfl rfl rfl) (opd_dep 3 66 0 rfl rfl rfl rfl) (by rw [folds_length]) ?_
    refine VWalk.move _ rfl (want_none rfl) (opd_dep 4 67 0 rfl rfl rfl rfl) ?_
    refine VWalk.move _ rfl (want_ff 5 68 0 rfl (by kernel_rfl) rfl rfl rfl rfl) (opd_fr 8 rfl hv6_1 (ext_drew _) (by kernel_rfl)) ?_
    refine VWalk.call1 12 _ _ rfl (enters_of Try.func12 (by kernel_rfl) rfl) (want_ff 5 68 1 rfl (by kernel_rfl) rfl rfl rfl rfl) (opd_dep 6 69 0 rfl rfl rfl rfl) (c_folded _ (by rw [folds_length]; omega)) ?_
    refine VWalk.string 22 9 5 _ rfl Try.underlying22 Try.underlying5 Try.underlying9 (want_ff 5 68 2 rfl (by kernel_rfl) rfl rfl rfl rfl) (opd_dep 7 70 0 rfl rfl rfl rfl) ?_
    refine VWalk.move _ rfl (want_ff 5 68 3 rfl (by kernel_rfl) rfl rfl rfl rfl) (opd_fr 8 rfl hv6_1 (ext_drew _) (by kernel_rfl)) ?_
    refine VWalk.string 22 9 5 _ rfl Try.underlying22 Try.underlying5 Try.underlying9 (want_ff 5 68 4 rfl (by kernel_rfl) rfl rfl rfl rfl) (opd_dep 9 72 0 rfl rfl rfl rfl) ?_
    refine VWalk.neTs _ _ _ _ rfl (want_ff 5 68 5 rfl (by kernel_rfl) rfl rfl rfl rfl) (opd_dep 8 71 2 rfl rfl rfl rfl) (opd_dep 10 73 0 rfl rfl rfl rfl) (by rw [folds_idem]) ?_
    refine VWalk.pickF _ _ _ rfl (want_none rfl) (opd_dep 5 68 6 rfl rfl rfl rfl) (opd_dep 11 74 0 rfl rfl rfl rfl) ?_
    refine ⟨rfl, fun W7 hE7 => ?_⟩
    refine VFin.any fun v7_0 hv7_0 => ?_
    refine VFin.eq ?_  -- 1
    refine VFin.any fun v7_2 hv7_2 => ?_
    refine VFin.eq ?_  -- 3
    refine VFin.eq ?_  -- 4
    refine VFin.eq ?_  -- 5
    refine VFin.any fun v7_6 hv7_6 => ?_
    refine VFin.any fun v7_7 hv7_7 => ?_
    refine VFin.eq ?_  -- 8
    refine VFin.any fun v7_9 hv7_9 => ?_
    refine VFin.eq ?_  -- 10
    refine VFin.eq ?_  -- 11
    refine VFin.eq ?_  -- 12
    refine VFin.nil ?_
    simp only [Act.put, List.setIfInBounds_toArray, List.set_cons_zero, List.set_cons_succ]
    clear hv7_0 hv7_2 hv7_6 hv7_7 hv7_9
    have hA := VP.st _ _ _ _ hA ((ext_drew _).tr hE7)
    have hB := VP.st _ _ _ _ hB ((ext_drew _).tr hE7)
    have hv6_1 := VP.st _ _ _ _ hv6_1 ((ext_drew _).tr hE7)
    have hv6_3 := VP.st _ _ _ _ hv6_3 ((ext_drew _).tr hE7)
    have hE := hE.tr ((ext_drew _).tr hE7)
    go_wp2
    go_loopw [10] (fun i wr => ∃ k : Nat, k ≤ xs.length ∧ i = .int .i64 k ∧ Below W7.heap.size W7 wr) (fun i _ => xs.length - (intOf i).toNat)
    case atStart => exact ⟨0, by omega, rfl, Below.refl _ _⟩
    case round =>
      obtain ⟨k, hk, rfl, hR⟩ := hrel
      have hA := VP.st _ _ _ _ hA hR
      have hB := VP.st _ _ _ _ hB hR
      have hv6_1 := VP.st _ _ _ _ hv6_1 hR
      have hv6_3 := VP.st _ _ _ _ hv6_3 hR
      have hE := hE.tr hR
      by_cases hlt : k < xs.length
      · go_upto_region 12 with (fail)
        refine vregion 10 [] (by kernel_rfl) (by kernel_rfl) (fun _ _ _ _ _ h => h) ?_
        refine VWalk.move _ rfl (want_none rfl) (opd_fr 8 rfl hv6_1 (ext_drew _) (by kernel_rfl)) ?_
        refine VWalk.move _ rfl (want_none rfl) (opd_frame 10 rfl (by kernel_rfl)) ?_
        refine VWalk.indexB 22 5 _ _ .i64 k rfl Try.underlying22 (by kernel_rfl) (want_none rfl) (opd_dep 0 82 1 rfl rfl rfl rfl) (opd_dep 1 83 0 rfl rfl rfl rfl) (by rw [folds_length]; exact hlt) ?_
        refine VWalk.loadP 5 _ rfl (want_none rfl) (opd_dep 2 84 0 rfl rfl rfl rfl) (fun _ => by kernel_rfl) ?_
        refine VWalk.move _ rfl (want_none rfl) (opd_fr 1 rfl hA (ext_drew _) (by kernel_rfl)) ?_
        refine VWalk.move _ rfl (want_none rfl) (opd_frame 10 rfl (by kernel_rfl)) ?_
        refine VWalk.indexB 22 5 _ _ .i64 k rfl Try.underlying22 (by kernel_rfl) (want_none rfl) (opd_dep 4 86 1 rfl rfl rfl rfl) (opd_dep 5 87 0 rfl rfl rfl rfl) hlt ?_
        refine VWalk.loadP 5 _ rfl (want_none rfl) (opd_dep 6 88 0 rfl rfl rfl rfl) (fun _ => by kernel_rfl) ?_
        refine VWalk.call1 10 _ _ rfl (enters_of Try.func10 (by kernel_rfl) rfl) (want_none rfl) (opd_dep 7 89 0 rfl rfl rfl rfl) (c_fold _) ?_
        refine VWalk.neT _ _ _ _ rfl (want_none rfl) (opd_dep 3 85 5 rfl rfl rfl rfl) (opd_dep 8 90 0 rfl rfl rfl rfl) (by simp [folds]) ?_
        refine ⟨rfl, fun W12 hE12 => ?_⟩
        refine VFin.any fun v12_0 hv12_0 => ?_
        refine VFin.eq ?_  -- 1
        refine VFin.any fun v12_2 hv12_2 => ?_
        refine VFin.eq ?_  -- 3
        refine VFin.any fun v12_4 hv12_4 => ?_
        refine VFin.eq ?_  -- 5
        refine VFin.any fun v12_6 hv12_6 => ?_
        refine VFin.eq ?_  -- 7
        refine VFin.eq ?_  -- 8
        refine VFin.eq ?_  -- 9
        refine VFin.nil ?_
        simp only [Act.put, List.setIfInBounds_toArray, List.set_cons_zero, List.set_cons_succ]
        clear hv12_0 hv12_2 hv12_4 hv12_6
        have hA := VP.st _ _ _ _ hA ((ext_drew _).tr hE12)
        have hB := VP.st _ _ _ _ hB ((ext_drew _).tr hE12)
        have hv6_1 := VP.st _ _ _ _ hv6_1 ((ext_drew _).tr hE12)
        have hv6_3 := VP.st _ _ _ _ hv6_3 ((ext_drew _).tr hE12)
        go_wp2
        exact ⟨⟨k + 1, by omega, by go_num, Ext.tr hR ((ext_drew _).tr hE12)⟩, by simp [intOf]; omega⟩
      · obtain rfl : k = xs.length := by omega
        go_upto_region 14 with (fail)
        refine vregion0 6 (by kernel_rfl) ?_
        refine VWalk.move _ rfl (want_none rfl) (opd_fr 1 rfl hA (Ext.rf _) (by kernel_rfl)) ?_
        refine VWalk.move _ rfl (want_none rfl) (opd_fr 2 rfl hB (Ext.rf _) (by kernel_rfl)) ?_
        refine VWalk.call3 14 _ _ _ _ rfl (enters_of Try.func14 (by kernel_rfl) rfl) (want_none rfl) (opd_const _) (opd_dep 0 92 1 rfl rfl rfl rfl) (opd_dep 1 93 0 rfl rfl rfl rfl) (c_same _ _ _) ?_
        refine VWalk.move _ rfl (want_none rfl) (opd_fr 1 rfl hA (Ext.rf _) (by kernel_rfl)) ?_
        refine VWalk.move _ rfl (want_none rfl) (opd_fr 2 rfl hB (Ext.rf _) (by kernel_rfl)) ?_
        refine VWalk.call3 14 _ _ _ _ rfl (enters_of Try.func14 (by kernel_rfl) rfl) (want_none rfl) (opd_const _) (opd_dep 3 95 1 rfl rfl rfl rfl) (opd_dep 4 96 0 rfl rfl rfl rfl) (c_same _ _ _) ?_
        refine ⟨rfl, fun W14 hE14 => ?_⟩
        refine VFin.any fun v14_0 hv14_0 => ?_
        refine VFin.any fun v14_1 hv14_1 => ?_
        refine VFin.eq ?_  -- 2
        refine VFin.any fun v14_3 hv14_3 => ?_
        refine VFin.any fun v14_4 hv14_4 => ?_
        refine VFin.eq ?_  -- 5
        refine VFin.nil ?_
        simp only [Act.put, List.setIfInBounds_toArray, List.set_cons_zero, List.set_cons_succ]
        clear hv14_0 hv14_1 hv14_3 hv14_4
        have hA := VP.st _ _ _ _ hA hE14
        have hB := VP.st _ _ _ _ hB hE14
        have hv6_1 := VP.st _ _ _ _ hv6_1 hE14
        have hv6_3 := VP.st _ _ _ _ hv6_3 hE14
        have hE := hE.tr hE14
        cases hs : sameB true xs ys
        · have hp : sameB false xs ys = false := by
            cases hp : sameB false xs ys with
            | false => rfl
            | true =>
              rw [show xs = ys from of_decide_eq_true hp, sameB_refl] at hs
              cases hs
          rw [hp]
          go_upto_region 15 with (fail)
          refine law_end0 (r := .bool true) (by assumption) 29 6 126 _ (by kernel_rfl) rfl rfl rfl rfl rfl (by kernel_rfl) rfl 28 rfl rfl ?_
          refine VWalk.move _ rfl (want_none rfl) (opd_frame 11 rfl (by kernel_rfl)) ?_
          refine VWalk.move _ rfl (want_none rfl) (opd_fr 8 rfl hv6_1 (Ext.rf _) (by kernel_rfl)) ?_
          refine VWalk.move _ rfl (want_none rfl) (opd_fr 9 rfl hv6_3 (Ext.rf _) (by kernel_rfl)) ?_
          refine VWalk.call3 14 _ _ _ _ rfl (enters_of Try.func14 (by kernel_rfl) rfl) (want_none rfl) (opd_const _) (opd_dep 1 99 1 rfl rfl rfl rfl) (opd_dep 2 100 0 rfl rfl rfl rfl) (c_same _ _ _) ?_
          refine VWalk.eqTb _ _ _ _ rfl (want_none rfl) (opd_dep 0 98 3 rfl rfl rfl rfl) (opd_dep 3 101 0 rfl rfl rfl rfl) Try.underlying4 hs.symm ?_
          refine VWalk.move _ rfl (want_none rfl) (opd_dep 4 102 0 rfl rfl rfl rfl) ?_
          refine VWalk.move _ rfl (want_tt 5 103 0 rfl (by kernel_rfl) rfl rfl rfl rfl) (opd_frame 12 rfl (by kernel_rfl)) ?_
          refine VWalk.move _ rfl (want_tt 5 103 1 rfl (by kernel_rfl) rfl rfl rfl rfl) (opd_fr 1 rfl hA (Ext.rf _) (by kernel_rfl)) ?_
          refine VWalk.string 22 9 5 _ rfl Try.underlying22 Try.underlying5 Try.underlying9 (want_tt 5 103 2 rfl (by kernel_rfl) rfl rfl rfl rfl) (opd_dep 7 105 0 rfl rfl rfl rfl) ?_
          refine VWalk.move _ rfl (want_tt 5 103 3 rfl (by kernel_rfl) rfl rfl rfl rfl) (opd_fr 2 rfl hB (Ext.rf _) (by kernel_rfl)) ?_
          refine VWalk.string 22 9 5 _ rfl Try.underlying22 Try.underlying5 Try.underlying9 (want_tt 5 103 4 rfl (by kernel_rfl) rfl rfl rfl rfl) (opd_dep 9 107 0 rfl rfl rfl rfl) ?_
          refine VWalk.eqTd _ _ _ _ rfl (want_tt 5 103 5 rfl (by kernel_rfl) rfl rfl rfl rfl) (opd_dep 8 106 2 rfl rfl rfl rfl) (opd_dep 10 108 0 rfl rfl rfl rfl) ?_
          refine VWalk.eqTb _ _ _ _ rfl (want_tt 5 103 6 rfl (by kernel_rfl) rfl rfl rfl rfl) (opd_dep 6 104 5 rfl rfl rfl rfl) (opd_dep 11 109 0 rfl rfl rfl rfl) Try.underlying4 hp.symm ?_
          refine VWalk.pickT _ _ _ rfl (want_none rfl) (opd_dep 5 103 7 rfl rfl rfl rfl) (opd_dep 12 110 0 rfl rfl rfl rfl) ?_
          refine VWalk.move _ rfl (want_none rfl) (opd_dep 13 111 0 rfl rfl rfl rfl) ?_
          refine VWalk.move _ rfl (want_tt 14 112 0 rfl (by kernel_rfl) rfl rfl rfl rfl) (opd_frame 11 rfl (by kernel_rfl)) ?_
          refine VWalk.move _ rfl (want_tt 14 112 1 rfl (by kernel_rfl) rfl rfl rfl rfl) (opd_dep 15 113 0 rfl rfl rfl rfl) ?_
          refine VWalk.move _ rfl (want_ff 16 114 0 rfl (by kernel_rfl) rfl rfl rfl rfl) (opd_frame 12 rfl (by kernel_rfl)) ?_
          refine VWalk.notB _ _ rfl (want_ff 16 114 1 rfl (by kernel_rfl) rfl rfl rfl rfl) (opd_dep 17 115 0 rfl rfl rfl rfl) rfl ?_
          refine VWalk.pickF _ _ _ rfl (want_tt 14 112 4 rfl (by kernel_rfl) rfl rfl rfl rfl) (opd_dep 16 114 2 rfl rfl rfl rfl) (opd_dep 18 116 0 rfl rfl rfl rfl) ?_
          refine VWalk.pickT _ _ _ rfl (want_none rfl) (opd_dep 14 112 5 rfl rfl rfl rfl) (opd_dep 19 117 0 rfl rfl rfl rfl) ?_
          refine VWalk.move _ rfl (want_none rfl) (opd_dep 20 118 0 rfl rfl rfl rfl) ?_
          refine VWalk.move _ rfl (want_tt 21 119 0 rfl (by kernel_rfl) rfl rfl rfl rfl) (opd_fr 1 rfl hA (Ext.rf _) (by kernel_rfl)) ?_
          refine VWalk.move _ rfl (want_tt 21 119 1 rfl (by kernel_rfl) rfl rfl rfl rfl) (opd_fr 8 rfl hv6_1 (Ext.rf _) (by kernel_rfl)) ?_
          refine VWalk.call3 14 _ _ _ _ rfl (enters_of Try.func14 (by kernel_rfl) rfl) (want_tt 21 119 2 rfl (by kernel_rfl) rfl rfl rfl rfl) (opd_const _) (opd_dep 22 120 1 rfl rfl rfl rfl) (opd_dep 23 121 0 rfl rfl rfl rfl) (c_same _ _ _) ?_
          refine VWalk.headT (decide_eq_true (folds_idem xs).symm) ?_
          refine VWalk.pickT _ _ _ rfl (want_none rfl) (opd_dep 21 119 3 rfl rfl rfl rfl) (opd_dep 24 122 0 rfl rfl rfl rfl) ?_
          refine VWalk.move _ rfl (want_none rfl) (opd_dep 25 123 0 rfl rfl rfl rfl) ?_
          refine VWalk.call0 9 _ rfl (enters_of Try.func9 (by kernel_rfl) rfl) (want_tt 26 124 0 rfl (by kernel_rfl) rfl rfl rfl rfl) c_wakes ?_
          refine VWalk.pickT _ _ _ rfl (want_none rfl) (opd_dep 26 124 1 rfl rfl rfl rfl) (opd_dep 27 125 0 rfl rfl rfl rfl) ?_
          refine ⟨rfl, rfl, rfl, fun W15 hE15 => ?_⟩
          exact Ret.mk (hE.tr hE15) rfl
        · go_upto_region 15 with (fail)
          refine law_end0 (r := .bool true) (by assumption) 29 6 126 _ (by kernel_rfl) rfl rfl rfl rfl rfl (by kernel_rfl) rfl 28 rfl rfl ?_
          refine VWalk.move _ rfl (want_none rfl) (opd_frame 11 rfl (by kernel_rfl)) ?_
          refine VWalk.move _ rfl (want_none rfl) (opd_fr 8 rfl hv6_1 (Ext.rf _) (by kernel_rfl)) ?_
          refine VWalk.move _ rfl (want_none rfl) (opd_fr 9 rfl hv6_3 (Ext.rf _) (by kernel_rfl)) ?_
          refine VWalk.call3 14 _ _ _ _ rfl (enters_of Try.func14 (by kernel_rfl) rfl) (want_none rfl) (opd_const _) (opd_dep 1 99 1 rfl rfl rfl rfl) (opd_dep 2 100 0 rfl rfl rfl rfl) (c_same _ _ _) ?_
          refine VWalk.eqTb _ _ _ _ rfl (want_none rfl) (opd_dep 0 98 3 rfl rfl rfl rfl) (opd_dep 3 101 0 rfl rfl rfl rfl) Try.underlying4 hs.symm ?_
          refine VWalk.move _ rfl (want_none rfl) (opd_dep 4 102 0 rfl rfl rfl rfl) ?_
          refine VWalk.move _ rfl (want_tt 5 103 0 rfl (by kernel_rfl) rfl rfl rfl rfl) (opd_frame 12 rfl (by kernel_rfl)) ?_
          refine VWalk.move _ rfl (want_tt 5 103 1 rfl (by kernel_rfl) rfl rfl rfl rfl) (opd_fr 1 rfl hA (Ext.rf _) (by kernel_rfl)) ?_
          refine VWalk.string 22 9 5 _ rfl Try.underlying22 Try.underlying5 Try.underlying9 (want_tt 5 103 2 rfl (by kernel_rfl) rfl rfl rfl rfl) (opd_dep 7 105 0 rfl rfl rfl rfl) ?_
          refine VWalk.move _ rfl (want_tt 5 103 3 rfl (by kernel_rfl) rfl rfl rfl rfl) (opd_fr 2 rfl hB (Ext.rf _) (by kernel_rfl)) ?_
          refine VWalk.string 22 9 5 _ rfl Try.underlying22 Try.underlying5 Try.underlying9 (want_tt 5 103 4 rfl (by kernel_rfl) rfl rfl rfl rfl) (opd_dep 9 107 0 rfl rfl rfl rfl) ?_
          refine VWalk.eqTd _ _ _ _ rfl (want_tt 5 103 5 rfl (by kernel_rfl) rfl rfl rfl rfl) (opd_dep 8 106 2 rfl rfl rfl rfl) (opd_dep 10 108 0 rfl rfl rfl rfl) ?_
          refine VWalk.eqTb _ _ _ _ rfl (want_tt 5 103 6 rfl (by kernel_rfl) rfl rfl rfl rfl) (opd_dep 6 104 5 rfl rfl rfl rfl) (opd_dep 11 109 0 rfl rfl rfl rfl) Try.underlying4 rfl ?_
          refine VWalk.pickT _ _ _ rfl (want_none rfl) (opd_dep 5 103 7 rfl rfl rfl rfl) (opd_dep 12 110 0 rfl rfl rfl rfl) ?_
          refine VWalk.move _ rfl (want_none rfl) (opd_dep 13 111 0 rfl rfl rfl rfl) ?_
          refine VWalk.move _ rfl (want_tt 14 112 0 rfl (by kernel_rfl) rfl rfl rfl rfl) (opd_frame 11 rfl (by kernel_rfl)) ?_
          refine VWalk.move _ rfl (want_tt 14 112 1 rfl (by kernel_rfl) rfl rfl rfl rfl) (opd_dep 15 113 0 rfl rfl rfl rfl) ?_
          refine VWalk.skip (want_tf 16 114 0 rfl (by kernel_rfl) rfl rfl rfl rfl) ?_
          refine VWalk.skip (want_tf 16 114 1 rfl (by kernel_rfl) rfl rfl rfl rfl) ?_
          refine VWalk.pickT _ _ _ rfl (want_tt 14 112 4 rfl (by kernel_rfl) rfl rfl rfl rfl) (opd_dep 16 114 2 rfl rfl rfl rfl) (opd_const _) ?_
          refine VWalk.pickT _ _ _ rfl (want_none rfl) (opd_dep 14 112 5 rfl rfl rfl rfl) (opd_dep 19 117 0 rfl rfl rfl rfl) ?_
          refine VWalk.move _ rfl (want_none rfl) (opd_dep 20 118 0 rfl rfl rfl rfl) ?_
          refine VWalk.move _ rfl (want_tt 21 119 0 rfl (by kernel_rfl) rfl rfl rfl rfl) (opd_fr 1 rfl hA (Ext.rf _) (by kernel_rfl)) ?_
          refine VWalk.move _ rfl (want_tt 21 119 1 rfl (by kernel_rfl) rfl rfl rfl rfl) (opd_fr 8 rfl hv6_1 (Ext.rf _) (by kernel_rfl)) ?_
          refine VWalk.call3 14 _ _ _ _ rfl (enters_of Try.func14 (by kernel_rfl) rfl) (want_tt 21 119 2 rfl (by kernel_rfl) rfl rfl rfl rfl) (opd_const _) (opd_dep 22 120 1 rfl rfl rfl rfl) (opd_dep 23 121 0 rfl rfl rfl rfl) (c_same _ _ _) ?_
          refine VWalk.headT (decide_eq_true (folds_idem xs).symm) ?_
          refine VWalk.pickT _ _ _ rfl (want_none rfl) (opd_dep 21 119 3 rfl rfl rfl rfl) (opd_dep 24 122 0 rfl rfl rfl rfl) ?_
          refine VWalk.move _ rfl (want_none rfl) (opd_dep 25 123 0 rfl rfl rfl rfl) ?_
          refine VWalk.call0 9 _ rfl (enters_of Try.func9 (by kernel_rfl) rfl) (want_tt 26 124 0 rfl (by kernel_rfl) rfl rfl rfl rfl) c_wakes ?_
          refine VWalk.pickT _ _ _ rfl (want_none rfl) (opd_dep 26 124 1 rfl rfl rfl rfl) (opd_dep 27 125 0 rfl rfl rfl rfl) ?_
          refine ⟨rfl, rfl, rfl, fun W15 hE15 => ?_⟩
          exact Ret.mk (hE.tr hE15) rfl
end Go.Proofs.Ytnkagcaipndljaa
