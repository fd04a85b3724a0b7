/- DigitBack, walked. -/
import Derived.Test.YtddkjicahpjcpaaDigI
import Derived.Test.YtddkjicahpjcpaaDigLaw
import Derived.Deep.Cut
namespace Go.Proofs.Ytddkjicahpjcpaa
open Go.RowKit DigM
set_option maxRecDepth 100000 in
set_option maxHeartbeats 4000000 in
theorem digitBack_any (ns : List Int) (ys : List UInt8) (vl vb : Value) (w : World) (hN : VInts ns vl w) (hB : VBytes ys vb w) : Calls Try.prog 4 #[vl, vb] w (Ret w (VEq (.bool true))) := by
  obtain ⟨j0, hj, hy0, hy1, hy2⟩ := info_parts Try.infoB
  have hN0 := hN
  have hB0 := hB
  obtain ⟨A1, c1, rfl, hc1, hc2, hx⟩ := VInts.form hN
  obtain ⟨A2, c2, rfl, -⟩ := VBytes.form hB
  unfold maxLen at hc2
  go_enter Try.func4, Try.ntmps4
  by_cases hla : (60 : Int) < ns.length
  · skip
    go_upto_region 2 with (fail)
    refine vregion0 1 (by kernel_rfl) ?_
    refine VWalk.call0 7 _ rfl (enters_of Try.func7 (by kernel_rfl) rfl) (want_none rfl) c_wakes ?_
    refine ⟨rfl, fun W2 hE2 => ?_⟩
    refine VFin.eq ?_  -- 0
    refine VFin.nil ?_
    simp only [Act.put, List.setIfInBounds_toArray, List.set_cons_zero, List.set_cons_succ]
    have hN := VP.st _ _ _ _ hN hE2
    have hB := VP.st _ _ _ _ hB hE2
    have hE := hE2
    go_wp2
    go_ret
    exact Ret.mk hE rfl
  have hla' : ns.length ≤ 60 := by omega
  by_cases hlb : (100 : Int) < ys.length
  · skip
    go_upto_region 2 with (fail)
    refine vregion0 1 (by kernel_rfl) ?_
    refine VWalk.call0 7 _ rfl (enters_of Try.func7 (by kernel_rfl) rfl) (want_none rfl) c_wakes ?_
    refine ⟨rfl, fun W2 hE2 => ?_⟩
    refine VFin.eq ?_  -- 0
    refine VFin.nil ?_
    simp only [Act.put, List.setIfInBounds_toArray, List.set_cons_zero, List.set_cons_succ]
    have hN := VP.st _ _ _ _ hN hE2
    have hB := VP.st _ _ _ _ hB hE2
    have hE := hE2
    go_wp2
    go_ret
    exact Ret.mk hE rfl
  have hlb' : ys.length ≤ 100 := by omega
  clear hla hlb
  have HN := hide hN
  have HB := hide hB
  clear hN hB hN0 hB0
  go_wp2
  go_loopw [5] (fun i wr => ∃ k : Nat, k ≤ ns.length ∧ i = .int .i64 k ∧ Hid ((ns.take k).all mayB = true) ∧ Below w.heap.size w wr) (fun i _ => ns.length - (intOf i).toNat)
  case atStart => exact ⟨0, by omega, rfl, rfl, Below.refl _ _⟩
  case round =>
    obtain ⟨k, hk, rfl, Ha, hR⟩ := hrel
    have hE : Ext w wr := hR
    have hN := VP.st _ _ _ _ HN.out hE
    have hB := VP.st _ _ _ _ HB.out hE
    by_cases hlt : k < ns.length
    · obtain ⟨b, off, rfl, hb, hcell⟩ := hx (by omega)
      have hx3 := (hE.cell (p := ⟨b, off + k, none⟩) hb).trans (hcell k hlt)
      have Hat := hide (all_take (p := mayB) ns k hlt)
      clear hcell hx
      by_cases h1 : ns[k] < 0
      · generalize ns[k] = x at *
        go_upto_region 7 with (fail)
        refine vregion0 1 (by kernel_rfl) ?_
        refine VWalk.call0 7 _ rfl (enters_of Try.func7 (by kernel_rfl) rfl) (want_none rfl) c_wakes ?_
        refine ⟨rfl, fun W7 hE7 => ?_⟩
        refine VFin.eq ?_  -- 0
        refine VFin.nil ?_
        simp only [Act.put, List.setIfInBounds_toArray, List.set_cons_zero, List.set_cons_succ]
        have hN := VP.st _ _ _ _ hN hE7
        have hB := VP.st _ _ _ _ hB hE7
        have hE := hE.tr hE7
        go_wp2
        go_ret
        exact Ret.mk hE rfl
      · by_cases h2 : 2147483647 < ns[k]
        · generalize ns[k] = x at *
          go_upto_region 7 with (fail)
          refine vregion0 1 (by kernel_rfl) ?_
          refine VWalk.call0 7 _ rfl (enters_of Try.func7 (by kernel_rfl) rfl) (want_none rfl) c_wakes ?_
          refine ⟨rfl, fun W7 hE7 => ?_⟩
          refine VFin.eq ?_  -- 0
          refine VFin.nil ?_
          simp only [Act.put, List.setIfInBounds_toArray, List.set_cons_zero, List.set_cons_succ]
          have hN := VP.st _ _ _ _ hN hE7
          have hB := VP.st _ _ _ _ hB hE7
          have hE := hE.tr hE7
          go_wp2
          go_ret
          exact Ret.mk hE rfl
        · have h3 : mayB ns[k] = true := mayB_iff.2 ⟨by omega, by omega⟩
          rw [h3, Ha.out] at Hat
          clear Ha h3
          generalize ns[k] = x at *
          go_wp2
          exact ⟨⟨k + 1, by omega, by go_num, Hat, hR⟩, by simp [intOf]; omega⟩
    · obtain rfl : k = ns.length := by omega
      have hall := Ha.out
      rw [List.take_length] at hall
      have hp := puts_all hall
      have htk := takes_puts ys ns hall
      have hlen := putsF_len ns hall
      have hge := putsF_ge ns
      have Hsh := hide (takes_short ns hall)
      clear hx Ha
      have hto : ∀ b, takes ((ns.length : Nat) : Int) b = takesF ns.length b := fun b => by unfold takes; rw [if_neg (by omega), Int.toNat_natCast]
      go_upto_region 8 with (fail)
      refine vregion0 5 (by kernel_rfl) ?_
      refine VWalk.move _ rfl (want_none rfl) (opd_fr 0 rfl hN (Ext.rf _) (by kernel_rfl)) ?_
      refine VWalk.call1 10 _ _ rfl (enters_of Try.func10 (by kernel_rfl) rfl) (want_none rfl) (opd_dep 0 43 0 rfl rfl rfl rfl) (c_puts ns (by omega)) ?_
      rw [hp]
      refine VWalk.move _ rfl (want_none rfl) (opd_dep 1 44 0 rfl rfl rfl rfl) ?_
      refine VWalk.extract _ 0 rfl rfl (want_none rfl) (opd_dep 2 42 0 rfl rfl rfl rfl) ?_
      refine VWalk.extract _ 1 rfl rfl (want_none rfl) (opd_dep 2 42 1 rfl rfl rfl rfl) ?_
      refine ⟨rfl, fun W8 hE8 => ?_⟩
      refine VFin.any fun v8_0 hv8_0 => ?_
      refine VFin.any fun v8_1 hv8_1 => ?_
      refine VFin.any fun v8_2 hv8_2 => ?_
      refine VFin.any fun v8_3 hv8_3 => ?_
      refine VFin.eq ?_  -- 4
      refine VFin.nil ?_
      simp only [Act.put, List.setIfInBounds_toArray, List.set_cons_zero, List.set_cons_succ]
      clear hv8_0 hv8_1 hv8_2
      have hN := VP.st _ _ _ _ hN hE8
      have hB := VP.st _ _ _ _ hB hE8
      have hE := hE.tr hE8
      have hv8_3 : VBytes (putsF ns) v8_3 W8 := hv8_3
      obtain ⟨A5, c5, rfl, -⟩ := VBytes.form hv8_3
      obtain ⟨b, hb⟩ : ∃ b, b = putsF ns := ⟨_, rfl⟩
      rw [← hb] at hv8_3 htk hlen hge Hsh ⊢
      have Hb := hide hb
      have Hp := hide hp
      have Htk := hide htk
      have Hto := hide hto
      have Hall := hide hall
      clear hb hp htk hto hall
      have hX0 : Ext W8 (W8.alloc (.cells #[] 5)) := ext_alloc _ _
      go_wp2_with (first
        | (at_builtin; refine wpList_append_bytes rfl _ _ 23 rfl W8.heap.size 5 j0 (.int .u8 0) Try.underlying23 hj hy0 hy1 hy2 rfl (.slice (some ⟨W8.heap.size, 0, none⟩) 0 0) _ [] b rfl (OwnB.made W8 _ _ (Nat.le_refl _)) rfl (VP.st _ _ _ _ hv8_3 (ext_alloc _ _)) (by simp; omega) (by simp) ?_; intro v4 w4 hown hgrow hat; have hX4 := hX0.grown hgrow (by simp) (fun k hk => by cases hk; exact Nat.le_refl _))
        | (at_builtin; refine wpList_append_bytes rfl _ _ 23 rfl W8.heap.size 5 j0 (.int .u8 0) Try.underlying23 hj hy0 hy1 hy2 rfl v4 _ ([] ++ b) ys rfl hown rfl (VP.st _ _ _ _ hB hX4) (by simp; omega) hX4.size ?_; intro v5 w5 hown5 hgrow5 hat5))
      have hX5 := hX4.grown hgrow5 hX4.size (fun k hk => by
        rcases hat with h | h
        · rw [h] at hk; cases hk; exact Nat.le_refl _
        · rw [h] at hk; cases hk; exact hX0.size)
      rw [List.nil_append] at hown5
      refine (takes_any _ _ (by omega) _ _ hown5.bytes (by simp; omega)).mono ?_
      rintro e W9 ⟨u, rfl, hE9, hu⟩
      obtain ⟨a1, a2, a3, rfl, h1, h2, h3⟩ := VTup.inv3 hu
      rw [Hto.out, Htk.out] at h1 h2 h3
      have h1 : VInts ns a1 W9 := h1
      have h2 : VBytes ys a2 W9 := h2
      obtain rfl : a3 = .int .i64 0 := h3
      have hX : Ext W8 W9 := Below.trans hX5 (Below.mono hE9 hX5.size)
      have hN := VP.st _ _ _ _ hN hX
      have hB := VP.st _ _ _ _ hB hX
      have hv8_3 := VP.st _ _ _ _ hv8_3 hX
      have hE := hE.tr hX
      have hpl : (puts ns).1.length = b.length := by rw [Hp.out, Hb.out]
      clear hX5 hX4 hX0 hown hgrow hat hown5 hgrow5 hat5 hu hE9 hX hE8
      obtain ⟨A6, c6, rfl, -⟩ := VInts.form h1
      obtain ⟨A7, c7, rfl, -⟩ := VBytes.form h2
      go_upto_region 10 with (fail)
      refine vregion0 26 (by kernel_rfl) ?_
      refine VWalk.move _ rfl (want_none rfl) (opd_frame 7 rfl (by kernel_rfl)) ?_
      refine VWalk.neT _ _ _ _ rfl (want_none rfl) (opd_dep 0 59 0 rfl rfl rfl rfl) (opd_const _) rfl ?_
      refine VWalk.move _ rfl (want_none rfl) (opd_dep 1 60 0 rfl rfl rfl rfl) ?_
      refine VWalk.move _ rfl (want_ff 2 61 0 rfl (by kernel_rfl) rfl rfl rfl rfl) (opd_frame 10 rfl (by kernel_rfl)) ?_
      refine VWalk.neT _ _ _ _ rfl (want_ff 2 61 1 rfl (by kernel_rfl) rfl rfl rfl rfl) (opd_dep 3 62 0 rfl rfl rfl rfl) (opd_const _) rfl ?_
      refine VWalk.pickF _ _ _ rfl (want_none rfl) (opd_dep 2 61 2 rfl rfl rfl rfl) (opd_dep 4 63 0 rfl rfl rfl rfl) ?_
      refine VWalk.move _ rfl (want_none rfl) (opd_dep 5 64 0 rfl rfl rfl rfl) ?_
      refine VWalk.move _ rfl (want_ff 6 65 0 rfl (by kernel_rfl) rfl rfl rfl rfl) (opd_fr 8 rfl h1 (Ext.rf _) (by kernel_rfl)) ?_
      refine VWalk.move _ rfl (want_ff 6 65 1 rfl (by kernel_rfl) rfl rfl rfl rfl) (opd_fr 0 rfl hN (Ext.rf _) (by kernel_rfl)) ?_
      refine VWalk.call2 18 _ _ _ rfl (enters_of Try.func18 (by kernel_rfl) rfl) (want_ff 6 65 2 rfl (by kernel_rfl) rfl rfl rfl rfl) (opd_dep 7 66 1 rfl rfl rfl rfl) (opd_dep 8 67 0 rfl rfl rfl rfl) (c_ints _ _) ?_
      refine VWalk.headT (decide_eq_true rfl) ?_
      refine VWalk.notB _ _ rfl (want_ff 6 65 3 rfl (by kernel_rfl) rfl rfl rfl rfl) (opd_dep 9 68 0 rfl rfl rfl rfl) rfl ?_
      refine VWalk.pickF _ _ _ rfl (want_none rfl) (opd_dep 6 65 4 rfl rfl rfl rfl) (opd_dep 10 69 0 rfl rfl rfl rfl) ?_
      refine VWalk.move _ rfl (want_none rfl) (opd_dep 11 70 0 rfl rfl rfl rfl) ?_
      refine VWalk.move _ rfl (want_ff 12 71 0 rfl (by kernel_rfl) rfl rfl rfl rfl) (opd_fr 9 rfl h2 (Ext.rf _) (by kernel_rfl)) ?_
      refine VWalk.string 23 9 5 _ rfl Try.underlying23 Try.underlying5 Try.underlying9 (want_ff 12 71 1 rfl (by kernel_rfl) rfl rfl rfl rfl) (opd_dep 13 72 0 rfl rfl rfl rfl) ?_
      refine VWalk.move _ rfl (want_ff 12 71 2 rfl (by kernel_rfl) rfl rfl rfl rfl) (opd_fr 1 rfl hB (Ext.rf _) (by kernel_rfl)) ?_
      refine VWalk.string 23 9 5 _ rfl Try.underlying23 Try.underlying5 Try.underlying9 (want_ff 12 71 3 rfl (by kernel_rfl) rfl rfl rfl rfl) (opd_dep 15 74 0 rfl rfl rfl rfl) ?_
      refine VWalk.neTs _ _ _ _ rfl (want_ff 12 71 4 rfl (by kernel_rfl) rfl rfl rfl rfl) (opd_dep 14 73 2 rfl rfl rfl rfl) (opd_dep 16 75 0 rfl rfl rfl rfl) rfl ?_
      refine VWalk.pickF _ _ _ rfl (want_none rfl) (opd_dep 12 71 5 rfl rfl rfl rfl) (opd_dep 17 76 0 rfl rfl rfl rfl) ?_
      refine VWalk.move _ rfl (want_none rfl) (opd_dep 18 77 0 rfl rfl rfl rfl) ?_
      refine VWalk.move _ rfl (want_ff 19 78 0 rfl (by kernel_rfl) rfl rfl rfl rfl) (opd_fr 0 rfl hN (Ext.rf _) (by kernel_rfl)) ?_
      refine VWalk.call1 12 _ _ rfl (enters_of Try.func12 (by kernel_rfl) rfl) (want_ff 19 78 1 rfl (by kernel_rfl) rfl rfl rfl rfl) (opd_dep 20 79 0 rfl rfl rfl rfl) (c_size ns (by omega)) ?_
      refine VWalk.move _ rfl (want_ff 19 78 2 rfl (by kernel_rfl) rfl rfl rfl rfl) (opd_fr 6 rfl hv8_3 (Ext.rf _) (by kernel_rfl)) ?_
      refine VWalk.lenB 23 5 _ rfl Try.underlying23 (want_ff 19 78 3 rfl (by kernel_rfl) rfl rfl rfl rfl) (opd_dep 22 81 0 rfl rfl rfl rfl) ?_
      refine VWalk.neT _ _ _ _ rfl (want_ff 19 78 4 rfl (by kernel_rfl) rfl rfl rfl rfl) (opd_dep 21 80 2 rfl rfl rfl rfl) (opd_dep 23 82 0 rfl rfl rfl rfl) (by rw [hpl]) ?_
      refine VWalk.pickF _ _ _ rfl (want_none rfl) (opd_dep 19 78 5 rfl rfl rfl rfl) (opd_dep 24 83 0 rfl rfl rfl rfl) ?_
      refine ⟨rfl, fun W10 hE10 => ?_⟩
      refine VFin.eq ?_  -- 0
      refine VFin.eq ?_  -- 1
      refine VFin.eq ?_  -- 2
      refine VFin.eq ?_  -- 3
      refine VFin.eq ?_  -- 4
      refine VFin.eq ?_  -- 5
      refine VFin.eq ?_  -- 6
      refine VFin.any fun v10_7 hv10_7 => ?_
      refine VFin.any fun v10_8 hv10_8 => ?_
      refine VFin.eq ?_  -- 9
      refine VFin.eq ?_  -- 10
      refine VFin.eq ?_  -- 11
      refine VFin.eq ?_  -- 12
      refine VFin.any fun v10_13 hv10_13 => ?_
      refine VFin.eq ?_  -- 14
      refine VFin.any fun v10_15 hv10_15 => ?_
      refine VFin.eq ?_  -- 16
      refine VFin.eq ?_  -- 17
      refine VFin.eq ?_  -- 18
      refine VFin.eq ?_  -- 19
      refine VFin.any fun v10_20 hv10_20 => ?_
      refine VFin.eq ?_  -- 21
      refine VFin.any fun v10_22 hv10_22 => ?_
      refine VFin.eq ?_  -- 23
      refine VFin.eq ?_  -- 24
      refine VFin.eq ?_  -- 25
      refine VFin.nil ?_
      simp only [Act.put, List.setIfInBounds_toArray, List.set_cons_zero, List.set_cons_succ]
      clear hv10_7 hv10_8 hv10_13 hv10_15 hv10_20 hv10_22
      have hN := VP.st _ _ _ _ hN hE10
      have hB := VP.st _ _ _ _ hB hE10
      have hv8_3 := VP.st _ _ _ _ hv8_3 hE10
      have h1 := VP.st _ _ _ _ h1 hE10
      have h2 := VP.st _ _ _ _ h2 hE10
      have hE := hE.tr hE10
      by_cases hz : ns.length = 0
      · have hz2 : ns = [] := List.eq_nil_of_length_eq_zero hz
        have hbz : b = [] := by rw [Hb.out, hz2]; rfl
        subst hbz
        go_upto_region 12 with (fail)
        refine vregion0 3 (by kernel_rfl) ?_
        refine VWalk.move _ rfl (want_none rfl) (opd_fr 0 rfl hN (Ext.rf _) (by kernel_rfl)) ?_
        refine VWalk.lenS 22 3 _ rfl Try.underlying22 (want_none rfl) (opd_dep 0 85 0 rfl rfl rfl rfl) ?_
        refine VWalk.eqT _ _ _ _ rfl (want_none rfl) (opd_dep 1 86 0 rfl rfl rfl rfl) (opd_const _) (by simp [hz]) ?_
        refine ⟨rfl, fun W12 hE12 => ?_⟩
        refine VFin.any fun v12_0 hv12_0 => ?_
        refine VFin.eq ?_  -- 1
        refine VFin.eq ?_  -- 2
        refine VFin.nil ?_
        simp only [Act.put, List.setIfInBounds_toArray, List.set_cons_zero, List.set_cons_succ]
        clear hv12_0
        have hN := VP.st _ _ _ _ hN hE12
        have hB := VP.st _ _ _ _ hB hE12
        have hv8_3 := VP.st _ _ _ _ hv8_3 hE12
        have h1 := VP.st _ _ _ _ h1 hE12
        have h2 := VP.st _ _ _ _ h2 hE12
        have hE := hE.tr hE12
        go_upto_region 13 with (fail)
        refine vregion0 6 (by kernel_rfl) ?_
        refine VWalk.move _ rfl (want_none rfl) (opd_fr 6 rfl hv8_3 (Ext.rf _) (by kernel_rfl)) ?_
        refine VWalk.lenB 23 5 _ rfl Try.underlying23 (want_none rfl) (opd_dep 0 88 0 rfl rfl rfl rfl) ?_
        refine VWalk.eqT _ _ _ _ rfl (want_none rfl) (opd_dep 1 89 0 rfl rfl rfl rfl) (opd_const _) rfl ?_
        refine VWalk.move _ rfl (want_none rfl) (opd_dep 2 90 0 rfl rfl rfl rfl) ?_
        refine VWalk.call0 7 _ rfl (enters_of Try.func7 (by kernel_rfl) rfl) (want_tt 3 91 0 rfl (by kernel_rfl) rfl rfl rfl rfl) c_wakes ?_
        refine VWalk.pickT _ _ _ rfl (want_none rfl) (opd_dep 3 91 1 rfl rfl rfl rfl) (opd_dep 4 92 0 rfl rfl rfl rfl) ?_
        refine ⟨rfl, fun W13 hE13 => ?_⟩
        refine VFin.any fun v13_0 hv13_0 => ?_
        refine VFin.eq ?_  -- 1
        refine VFin.eq ?_  -- 2
        refine VFin.eq ?_  -- 3
        refine VFin.eq ?_  -- 4
        refine VFin.eq ?_  -- 5
        refine VFin.nil ?_
        simp only [Act.put, List.setIfInBounds_toArray, List.set_cons_zero, List.set_cons_succ]
        clear hv13_0
        have hN := VP.st _ _ _ _ hN hE13
        have hB := VP.st _ _ _ _ hB hE13
        have hv8_3 := VP.st _ _ _ _ hv8_3 hE13
        have h1 := VP.st _ _ _ _ h1 hE13
        have h2 := VP.st _ _ _ _ h2 hE13
        have hE := hE.tr hE13
        go_wp2
        go_ret
        exact Ret.mk hE rfl
      · skip
        go_upto_region 12 with (fail)
        refine vregion0 3 (by kernel_rfl) ?_
        refine VWalk.move _ rfl (want_none rfl) (opd_fr 0 rfl hN (Ext.rf _) (by kernel_rfl)) ?_
        refine VWalk.lenS 22 3 _ rfl Try.underlying22 (want_none rfl) (opd_dep 0 85 0 rfl rfl rfl rfl) ?_
        refine VWalk.eqT' _ _ _ _ rfl (want_none rfl) (opd_dep 1 86 0 rfl rfl rfl rfl) (opd_const _) (by simp [hz]) ?_
        refine ⟨rfl, fun W12 hE12 => ?_⟩
        refine VFin.any fun v12_0 hv12_0 => ?_
        refine VFin.eq ?_  -- 1
        refine VFin.eq ?_  -- 2
        refine VFin.nil ?_
        simp only [Act.put, List.setIfInBounds_toArray, List.set_cons_zero, List.set_cons_succ]
        clear hv12_0
        have hN := VP.st _ _ _ _ hN hE12
        have hB := VP.st _ _ _ _ hB hE12
        have hv8_3 := VP.st _ _ _ _ hv8_3 hE12
        have h1 := VP.st _ _ _ _ h1 hE12
        have h2 := VP.st _ _ _ _ h2 hE12
        have hE := hE.tr hE12
        go_upto_region 14 with (fail)
        refine vregion0 5 (by kernel_rfl) ?_
        refine VWalk.move _ rfl (want_none rfl) (opd_fr 6 rfl hv8_3 (Ext.rf _) (by kernel_rfl)) ?_
        refine VWalk.lenB 23 5 _ rfl Try.underlying23 (want_none rfl) (opd_dep 0 94 0 rfl rfl rfl rfl) ?_
        refine VWalk.move _ rfl (want_none rfl) (opd_fr 0 rfl hN (Ext.rf _) (by kernel_rfl)) ?_
        refine VWalk.lenS 22 3 _ rfl Try.underlying22 (want_none rfl) (opd_dep 2 96 0 rfl rfl rfl rfl) ?_
        refine VWalk.lssF _ _ _ _ rfl (want_none rfl) (opd_dep 1 95 2 rfl rfl rfl rfl) (opd_dep 3 97 0 rfl rfl rfl rfl) (by simp; omega) ?_
        refine ⟨rfl, fun W14 hE14 => ?_⟩
        refine VFin.any fun v14_0 hv14_0 => ?_
        refine VFin.eq ?_  -- 1
        refine VFin.any fun v14_2 hv14_2 => ?_
        refine VFin.eq ?_  -- 3
        refine VFin.eq ?_  -- 4
        refine VFin.nil ?_
        simp only [Act.put, List.setIfInBounds_toArray, List.set_cons_zero, List.set_cons_succ]
        clear hv14_0 hv14_2
        have hN := VP.st _ _ _ _ hN hE14
        have hB := VP.st _ _ _ _ hB hE14
        have hv8_3 := VP.st _ _ _ _ hv8_3 hE14
        have h1 := VP.st _ _ _ _ h1 hE14
        have h2 := VP.st _ _ _ _ h2 hE14
        have hE := hE.tr hE14
        have hs := Hsh.out (fun h => hz (by rw [h]; rfl))
        have hsub : (b.length : Int) - 1 = ((b.length - 1 : Nat) : Int) := by omega
        go_upto_region 16 with (fail)
        refine vregion0 12 (by kernel_rfl) ?_
        refine VWalk.move _ rfl (want_none rfl) (opd_fr 6 rfl hv8_3 (Ext.rf _) (by kernel_rfl)) ?_
        refine VWalk.move _ rfl (want_none rfl) (opd_fr 6 rfl hv8_3 (Ext.rf _) (by kernel_rfl)) ?_
        refine VWalk.lenB 23 5 _ rfl Try.underlying23 (want_none rfl) (opd_dep 1 101 0 rfl rfl rfl rfl) ?_
        refine VWalk.sub64 _ _ _ _ rfl (want_none rfl) (opd_dep 2 102 0 rfl rfl rfl rfl) (opd_const _) (by omega) ?_
        rw [hsub]
        refine VWalk.cutToB 23 5 _ _ .i64 (b.length - 1) rfl Try.underlying23 (by kernel_rfl) (want_none rfl) (opd_dep 0 100 3 rfl rfl rfl rfl) (opd_dep 3 103 0 rfl rfl rfl rfl) (by omega) ?_
        refine VWalk.move _ rfl (want_none rfl) (opd_fr 0 rfl hN (Ext.rf _) (by kernel_rfl)) ?_
        refine VWalk.lenS 22 3 _ rfl Try.underlying22 (want_none rfl) (opd_dep 5 105 0 rfl rfl rfl rfl) ?_
        refine VWalk.call2 16 _ _ _ rfl (enters_of Try.func16 (by kernel_rfl) rfl) (want_none rfl) (opd_dep 4 104 2 rfl rfl rfl rfl) (opd_dep 6 106 0 rfl rfl rfl rfl) (c_takes _ _ (by rw [List.length_map]; omega) (by rw [List.length_take]; omega)) ?_
        rw [List.length_map, Hto.out, hs]
        refine VWalk.move _ rfl (want_none rfl) (opd_dep 7 107 0 rfl rfl rfl rfl) ?_
        refine VWalk.extract _ 0 rfl rfl (want_none rfl) (opd_dep 8 99 0 rfl rfl rfl rfl) ?_
        refine VWalk.extract _ 1 rfl rfl (want_none rfl) (opd_dep 8 99 1 rfl rfl rfl rfl) ?_
        refine VWalk.extract _ 2 rfl rfl (want_none rfl) (opd_dep 8 99 2 rfl rfl rfl rfl) ?_
        refine ⟨rfl, fun W16 hE16 => ?_⟩
        refine VFin.any fun v16_0 hv16_0 => ?_
        refine VFin.any fun v16_1 hv16_1 => ?_
        refine VFin.eq ?_  -- 2
        refine VFin.eq ?_  -- 3
        refine VFin.any fun v16_4 hv16_4 => ?_
        refine VFin.any fun v16_5 hv16_5 => ?_
        refine VFin.eq ?_  -- 6
        refine VFin.any fun v16_7 hv16_7 => ?_
        refine VFin.any fun v16_8 hv16_8 => ?_
        refine VFin.any fun v16_9 hv16_9 => ?_
        refine VFin.any fun v16_10 hv16_10 => ?_
        refine VFin.eq ?_  -- 11
        refine VFin.nil ?_
        simp only [Act.put, List.setIfInBounds_toArray, List.set_cons_zero, List.set_cons_succ]
        clear hv16_0 hv16_1 hv16_4 hv16_5 hv16_7 hv16_8
        have hN := VP.st _ _ _ _ hN hE16
        have hB := VP.st _ _ _ _ hB hE16
        have hv8_3 := VP.st _ _ _ _ hv8_3 hE16
        have h1 := VP.st _ _ _ _ h1 hE16
        have h2 := VP.st _ _ _ _ h2 hE16
        have hE := hE.tr hE16
        go_upto_region 17 with (fail)
        refine vregion0 5 (by kernel_rfl) ?_
        refine VWalk.move _ rfl (want_none rfl) (opd_frame 13 rfl (by kernel_rfl)) ?_
        refine VWalk.eqT _ _ _ _ rfl (want_none rfl) (opd_dep 0 111 0 rfl rfl rfl rfl) (opd_const _) rfl ?_
        refine VWalk.move _ rfl (want_none rfl) (opd_dep 1 112 0 rfl rfl rfl rfl) ?_
        refine VWalk.call0 7 _ rfl (enters_of Try.func7 (by kernel_rfl) rfl) (want_tt 2 113 0 rfl (by kernel_rfl) rfl rfl rfl rfl) c_wakes ?_
        refine VWalk.pickT _ _ _ rfl (want_none rfl) (opd_dep 2 113 1 rfl rfl rfl rfl) (opd_dep 3 114 0 rfl rfl rfl rfl) ?_
        refine ⟨rfl, fun W17 hE17 => ?_⟩
        refine VFin.eq ?_  -- 0
        refine VFin.eq ?_  -- 1
        refine VFin.eq ?_  -- 2
        refine VFin.eq ?_  -- 3
        refine VFin.eq ?_  -- 4
        refine VFin.nil ?_
        simp only [Act.put, List.setIfInBounds_toArray, List.set_cons_zero, List.set_cons_succ]
        have hN := VP.st _ _ _ _ hN hE17
        have hB := VP.st _ _ _ _ hB hE17
        have hv8_3 := VP.st _ _ _ _ hv8_3 hE17
        have h1 := VP.st _ _ _ _ h1 hE17
        have h2 := VP.st _ _ _ _ h2 hE17
        have hv16_9 := VP.st _ _ _ _ hv16_9 hE17
        have hv16_10 := VP.st _ _ _ _ hv16_10 hE17
        have hE := hE.tr hE17
        go_wp2
        go_ret
        exact Ret.mk hE rfl
end Go.Proofs.Ytddkjicahpjcpaa
