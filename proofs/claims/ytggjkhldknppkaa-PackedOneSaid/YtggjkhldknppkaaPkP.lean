/- PackedOne, walked. -/
import Derived.Test.YtggjkhldknppkaaPkL
import Derived.Test.YtggjkhldknppkaaPkN
namespace Go.Proofs.Ytggjkhldknppkaa
open Go.RowKit PakM DigM
theorem clampN (n : Nat) (i : Int) (hn : 0 < n) : ∃ k : Nat, k < n ∧ (if (n : Int) - 1 < (if i < 0 then 0 else i) then (n : Int) - 1 else (if i < 0 then 0 else i)) = (k : Int) := by
  by_cases h1 : i < 0
  · exact ⟨0, hn, by rw [if_pos h1, if_neg (by omega)]; rfl⟩
  by_cases h2 : (n : Int) - 1 < i
  · exact ⟨n - 1, by omega, by rw [if_neg h1, if_pos h2]; omega⟩
  · exact ⟨i.toNat, by omega, by rw [if_neg h1, if_neg h2]; omega⟩
set_option maxRecDepth 100000 in
set_option maxHeartbeats 8000000 in
theorem packedOne_any (fold : Bool) (ls : List (List UInt8)) (ii : Int) (by_ : UInt8) (vl : Value) (w : World) (hL : VParts ls vl w) : Calls Try.prog 5 #[.bool fold, vl, .int .i64 ii, .int .u8 (by_.toNat : Int)] w (Ret w (VEq (.bool true))) := by
  have hwk := wakes_any
  have hg1 := fun W hv => great_any ls vl W hv
  unfold VGreat at hg1
  have hL0 := hL
  obtain ⟨A, c, rfl, hc1, hc2, -⟩ := VParts.form hL
  unfold maxLen at hc2
  clear hL
  go_enter Try.func5, Try.ntmps5
  go_wp2_with fail
  refine (hg1 _ hL0).mono ?_
  rintro e w1 ⟨u, rfl, hE, rfl⟩
  obtain ⟨g1, hq1⟩ : ∃ g, greatB ls = g := ⟨_, rfl⟩
  rw [hq1]
  clear hg1
  cases g1
  case true =>
    clear hL0 hq1
    go_wp2_with fail
    refine (hwk _).mono ?_
    rintro e w3 ⟨u, rfl, hE3, rfl⟩
    go_wp2
    go_ret
    exact Ret.mk (hE.tr hE3) rfl
  by_cases hby : by_ = 0
  · have hb0 : ((by_.toNat : Int) == 0) = true := by rw [hby]; rfl
    have hb1 : (by_.toNat : Int) = 0 := by rw [hby]; rfl
    clear hL0 hq1 hby
    go_wp2_with fail
    refine (hwk _).mono ?_
    rintro e w3 ⟨u, rfl, hE3, rfl⟩
    go_wp2
    go_ret
    exact Ret.mk (hE.tr hE3) rfl
  have hb0 : ¬ by_.toNat = 0 := fun h => hby (UInt8.toNat.inj h)
  have hb1 : ¬ (by_.toNat : Int) = 0 := by omega
  have hb2 : ((by_.toNat : Int) == 0) = false := by rw [beq_eq_false_iff_ne]; exact hb1
  obtain ⟨l1, l2⟩ := greatB_false hq1
  clear hq1
  have hl := VP.st _ _ _ _ hL0 hE
  have hl80 : ls.length ≤ 10000 := by omega
  have hlf : ls.flatten.length ≤ 30000 := by omega
  have hm : ∀ b ∈ ls, b.length ≤ most := fun b hb => by
    obtain ⟨j, hj, rfl⟩ := List.getElem_of_mem hb
    have := flat_at hj
    unfold most; omega
  have hpl2 : (putP fold ls).length ≤ 100000 := by
    have h0 := put_len fold ls
    have h1 := putN_most (show ls.length ≤ most by unfold most; omega)
    have h2 := sizeW_le ls hl80 hlf hm ls.length
    rw [List.take_length] at h2
    omega
  have hpl10 : 10 ≤ (putP fold ls).length := by
    have h0 := put_len fold ls
    have h1 := putN_pos ls.length
    omega
  have hone := head_one fold ls
  have hput := pput_own fold ls _ _ hl hl80 hlf
  generalize putP fold ls = pp at *
  obtain ⟨k, hk, hkq⟩ := clampN pp.length ii (by omega)
  obtain ⟨mi, hmi⟩ : ∃ m, (if ii < 0 then 0 else ii) = m := ⟨_, rfl⟩
  rw [hmi] at hkq
  have Hmi := hide hmi
  have Hkq := hide hkq
  obtain ⟨x, hx⟩ : ∃ x, pp[k] ^^^ by_ = x := ⟨_, rfl⟩
  have hxb : bits .xor .u8 (pp[k].toNat : Int) (by_.toNat : Int) = (x.toNat : Int) := by rw [← hx]; exact bits_xor_u8 _ _
  have hhd := hone k hk x (by rw [← hx]; exact xor_ne _ _ hby)
  have hne := want_ne (pp.set k x) k
  have hql : (pp.set k x).length = pp.length := List.length_set
  have hq4 : k = 4 → (pp.set k x)[4]? = some x ∧ (pp.set k x).getD 4 0 = x := fun h => by
    subst h
    refine ⟨List.getElem?_set_self hk, ?_⟩
    rw [List.getD_eq_getElem?_getD, List.getElem?_set_self hk]; rfl
  have htq := take_bad (pp.set k x) (by rw [hhd]; exact hne)
  rw [hhd] at htq
  have hwe : wantE (pp.set k x) k = if k < 4 then 40 else if k = 4 ∧ 1 < x.toNat then 41 else 42 := by
    unfold wantE
    by_cases h : k = 4
    · rw [(hq4 h).2]
    · by_cases h4 : k < 4
      · rw [if_pos h4, if_pos h4]
      · rw [if_neg h4, if_neg h4, if_neg (fun hh => h hh.1), if_neg (fun hh => h hh.1)]
  generalize wantE (pp.set k x) k = we at *
  have Hone := hide (⟨hhd, htq, hwe⟩ : _ ∧ _ ∧ _)
  have Hql := hide hql
  have Hxb := hide hxb
  have Hx := hide hx
  clear hone hmi hkq hhd hne htq hwe hm hby hq4 hql hL0 hxb hx
  go_wp2_with fail
  refine hput.mono ?_
  rintro e w2 ⟨u, rfl, hE2, hO⟩
  obtain ⟨gp, cap, cur, rfl, hbg, hbx, hle, hmx, hsz, htk⟩ := OwnB.row hO (by omega)
  have hwg := Nat.le_trans hE.size hbg
  have hE := hE.tr hE2
  clear hput hO hE2 hl
  go_upto_region 6 with (fail)
  refine vregion0 6 (by kernel_rfl) ?_
  refine VWalk.move _ rfl (want_none rfl) (opd_frame 2 rfl (by kernel_rfl)) ?_
  refine VWalk.det2 (r := .int .i64 mi) (Operand.tmp 29) (Operand.const (Value.int IntKind.i64 0)) (want_none rfl) (opd_dep 0 29 0 rfl rfl rfl rfl) (opd_const _) (fun ρ w hE h1 h2 => by simp [h1, h2, go_sem]; exact Hmi.out) ?_
  refine VWalk.move _ rfl (want_none rfl) (opd_frame 9 rfl (by kernel_rfl)) ?_
  refine VWalk.det1 (r := .int .i64 (pp.length : Int)) (Operand.tmp 31) (want_none rfl) (opd_dep 2 31 0 rfl rfl rfl rfl) (fun ρ w hE h1 => by simp [h1, go_sem] <;> rfl) ?_
  refine VWalk.sub64 _ _ _ _ rfl (want_none rfl) (opd_dep 3 32 0 rfl rfl rfl rfl) (opd_const _) (by omega) ?_
  refine VWalk.det2 (r := .int .i64 (k : Int)) (Operand.tmp 30) (Operand.tmp 33) (want_none rfl) (opd_dep 1 30 3 rfl rfl rfl rfl) (opd_dep 4 33 0 rfl rfl rfl rfl) (fun ρ w hE h1 h2 => by simp [h1, h2, go_sem]; exact Hkq.out) ?_
  refine ⟨rfl, fun W6 hE6 => ?_⟩
  refine VFin.eq ?_  -- 0
  refine VFin.eq ?_  -- 1
  refine VFin.eq ?_  -- 2
  refine VFin.eq ?_  -- 3
  refine VFin.eq ?_  -- 4
  refine VFin.eq ?_  -- 5
  refine VFin.nil ?_
  simp only [Act.put, List.setIfInBounds_toArray, List.set_cons_zero, List.set_cons_succ]
  have hb6 := hbx.ext hE6
  have hE6' := hE.tr hE6
  have hck := (hb6.cell k).trans (row_at htk hk)
  have hfk := hb6.frozen k
  unfold byteV at hck
  have hO7 := OwnB.put hbg hb6 hle hmx hsz htk k x
  have hq7 := OwnB.bytes hO7
  have hb7 := hb6.set_ k (byteV x)
  have hgw : w.heap.size ≤ gp := hwg
  have hE7 : Ext w (W6.setCell ⟨gp, k, none⟩ (byteV x)) := hE6'.setCell (p := ⟨gp, k, none⟩) hgw (byteV x)
  have hc4 : k = 4 → (W6.setCell ⟨gp, k, none⟩ (byteV x)).cell? ⟨gp, 4, none⟩ = some (.int .u8 (x.toNat : Int)) := fun h => by
    rw [hb7.cell 4, h]
    have : 4 < cur.size := by omega
    rw [Array.getElem?_setIfInBounds_self_of_lt this]
    rfl
  have Hc4 := hide hc4
  clear hbx hb6 hE6 hE6' hE hO7 hb7 hc4 htk hsz
  go_upto_region 8 with (fail)
  rw [Hxb.out]
  change VBytes (pp.set k x) _ (W6.setCell ⟨gp, k, none⟩ (.int .u8 (x.toNat : Int))) at hq7
  change Ext w (W6.setCell ⟨gp, k, none⟩ (.int .u8 (x.toNat : Int))) at hE7
  have Hc5 : Hid (k = 4 → (W6.setCell ⟨gp, k, none⟩ (.int .u8 (x.toNat : Int))).cell? ⟨gp, 4, none⟩ = some (.int .u8 (x.toNat : Int))) := Hc4
  generalize W6.setCell ⟨gp, k, none⟩ (.int .u8 (x.toNat : Int)) = W7 at *
  obtain ⟨hhd, htq, hwe⟩ := Hone.out
  clear hck hfk Hone Hc4
  by_cases h4 : k < 4
  · rw [if_pos h4] at hwe
    subst hwe
    have h4i : (k : Int) < 4 := by omega
    have h4j : ¬ ((k : Int) = 4) := by omega
    have htk2 := fun W hv => c_pktake (w0 := W) (pp.set k x) false [] 40 htq (by rw [Hql.out]; omega) (.slice (some ⟨gp, 0, none⟩) pp.length cap) W (Ext.rf W) hv
    have hhd2 := fun W hv => c_phead (w0 := W) (pp.set k x) false 40 hhd (by rw [Hql.out]; omega) (.slice (some ⟨gp, 0, none⟩) pp.length cap) W (Ext.rf W) hv
    clear hhd htq
    go_wp2_with fail
    refine (htk2 _ hq7).mono ?_
    rintro e w8 ⟨u, rfl, hE8, hu⟩
    obtain ⟨_, m0, _, rfl, rfl, hm0, rfl⟩ := VTup.inv3 hu
    obtain ⟨Am, cm, rfl, -⟩ := VParts.form hm0
    have hq8 := VP.st _ _ _ _ hq7 hE8
    have hE9 := hE7.tr hE8
    clear htk2 hu hm0 hq7 hE8
    go_wp2_with fail
    refine (hhd2 _ hq8).mono ?_
    rintro e w9 ⟨u, rfl, hE10, hu⟩
    obtain ⟨_, _, rfl, rfl, rfl⟩ := VTup.inv2 hu
    have hE11 := hE9.tr hE10
    clear hhd2 hu hq8 hE9 hE10
    go_wp2_with fail
    refine (hwk _).mono ?_
    rintro e w12 ⟨u, rfl, hE12, rfl⟩
    go_wp2
    go_ret
    exact Ret.mk (hE11.tr hE12) rfl
  by_cases hx1 : k = 4 ∧ 1 < x.toNat
  · rw [if_neg h4, if_pos hx1] at hwe
    subst hwe
    obtain ⟨rfl, hx2⟩ := hx1
    have hcx := Hc5.out rfl
    have hx3 : (1 : Int) < (x.toNat : Int) := by omega
    clear h4
    have htk2 := fun W hv => c_pktake (w0 := W) (pp.set 4 x) false [] 41 htq (by rw [Hql.out]; omega) (.slice (some ⟨gp, 0, none⟩) pp.length cap) W (Ext.rf W) hv
    have hhd2 := fun W hv => c_phead (w0 := W) (pp.set 4 x) false 41 hhd (by rw [Hql.out]; omega) (.slice (some ⟨gp, 0, none⟩) pp.length cap) W (Ext.rf W) hv
    clear hhd htq
    go_wp2_with fail
    refine (htk2 _ hq7).mono ?_
    rintro e w8 ⟨u, rfl, hE8, hu⟩
    obtain ⟨_, m0, _, rfl, rfl, hm0, rfl⟩ := VTup.inv3 hu
    obtain ⟨Am, cm, rfl, -⟩ := VParts.form hm0
    have hq8 := VP.st _ _ _ _ hq7 hE8
    have hE9 := hE7.tr hE8
    clear htk2 hu hm0 hq7 hE8
    go_wp2_with fail
    refine (hhd2 _ hq8).mono ?_
    rintro e w9 ⟨u, rfl, hE10, hu⟩
    obtain ⟨_, _, rfl, rfl, rfl⟩ := VTup.inv2 hu
    have hE11 := hE9.tr hE10
    clear hhd2 hu hq8 hE9 hE10
    go_wp2_with fail
    refine (hwk _).mono ?_
    rintro e w12 ⟨u, rfl, hE12, rfl⟩
    go_wp2
    go_ret
    exact Ret.mk (hE11.tr hE12) rfl
  · rw [if_neg h4, if_neg hx1] at hwe
    subst hwe
    have h4i : ¬ (k : Int) < 4 := by omega
    by_cases hk4 : k = 4
    · subst hk4
      have hcx := Hc5.out rfl
      have hx3 : ¬ (1 : Int) < (x.toNat : Int) := by omega
      clear h4 hx1 h4i
      have htk2 := fun W hv => c_pktake (w0 := W) (pp.set 4 x) false [] 42 htq (by rw [Hql.out]; omega) (.slice (some ⟨gp, 0, none⟩) pp.length cap) W (Ext.rf W) hv
      have hhd2 := fun W hv => c_phead (w0 := W) (pp.set 4 x) false 42 hhd (by rw [Hql.out]; omega) (.slice (some ⟨gp, 0, none⟩) pp.length cap) W (Ext.rf W) hv
      clear hhd htq
      go_wp2_with fail
      refine (htk2 _ hq7).mono ?_
      rintro e w8 ⟨u, rfl, hE8, hu⟩
      obtain ⟨_, m0, _, rfl, rfl, hm0, rfl⟩ := VTup.inv3 hu
      obtain ⟨Am, cm, rfl, -⟩ := VParts.form hm0
      have hq8 := VP.st _ _ _ _ hq7 hE8
      have hE9 := hE7.tr hE8
      clear htk2 hu hm0 hq7 hE8
      go_wp2_with fail
      refine (hhd2 _ hq8).mono ?_
      rintro e w9 ⟨u, rfl, hE10, hu⟩
      obtain ⟨_, _, rfl, rfl, rfl⟩ := VTup.inv2 hu
      have hE11 := hE9.tr hE10
      clear hhd2 hu hq8 hE9 hE10
      go_wp2_with fail
      refine (hwk _).mono ?_
      rintro e w12 ⟨u, rfl, hE12, rfl⟩
      go_wp2
      go_ret
      exact Ret.mk (hE11.tr hE12) rfl
    · have h4j : ¬ ((k : Int) = 4) := by omega
      clear hx1
      have htk2 := fun W hv => c_pktake (w0 := W) (pp.set k x) false [] 42 htq (by rw [Hql.out]; omega) (.slice (some ⟨gp, 0, none⟩) pp.length cap) W (Ext.rf W) hv
      have hhd2 := fun W hv => c_phead (w0 := W) (pp.set k x) false 42 hhd (by rw [Hql.out]; omega) (.slice (some ⟨gp, 0, none⟩) pp.length cap) W (Ext.rf W) hv
      clear hhd htq
      go_wp2_with fail
      refine (htk2 _ hq7).mono ?_
      rintro e w8 ⟨u, rfl, hE8, hu⟩
      obtain ⟨_, m0, _, rfl, rfl, hm0, rfl⟩ := VTup.inv3 hu
      obtain ⟨Am, cm, rfl, -⟩ := VParts.form hm0
      have hq8 := VP.st _ _ _ _ hq7 hE8
      have hE9 := hE7.tr hE8
      clear htk2 hu hm0 hq7 hE8
      go_wp2_with fail
      refine (hhd2 _ hq8).mono ?_
      rintro e w9 ⟨u, rfl, hE10, hu⟩
      obtain ⟨_, _, rfl, rfl, rfl⟩ := VTup.inv2 hu
      have hE11 := hE9.tr hE10
      clear hhd2 hu hq8 hE9 hE10
      go_wp2_with fail
      refine (hwk _).mono ?_
      rintro e w12 ⟨u, rfl, hE12, rfl⟩
      go_wp2
      go_ret
      exact Ret.mk (hE11.tr hE12) rfl
end Go.Proofs.Ytggjkhldknppkaa
