/- Put, Size; and the document's own Put, Puts, Size, Ints. -/
import Derived.Test.YtddkjicahpjcpaaDigC
namespace Go.Proofs.Ytddkjicahpjcpaa
open Go.RowKit DigM

theorem puts_one (n : Int) : puts [n] = if mayB n then (putN n.toNat, 0) else ([], 2) := by
  unfold puts
  simp [putsF]
theorem ints_one (n : Int) (t : TypeId) (w : World) : VInts [n] (.slice (some ⟨w.heap.size, 0, none⟩) 1 1) (w.alloc (.cells #[.int .i64 n] t)) :=
  ⟨_, 1, rfl, Nat.le_refl _, by decide, fun _ => ⟨_, 0, rfl, by simp, fun j F hj => by
    cases j with
    | zero => cases hj; exact ⟨_, (Box.new w t #[.int .i64 n]).at_ 0 rfl, rfl⟩
    | succ j => simp at hj⟩⟩
set_option maxRecDepth 100000 in
theorem put_any (n : Int) (w : World) : Calls Try.prog 8 #[.int .i64 n] w (Ret w (VTup [VBytes (puts [n]).1, VEq (.int .i64 (puts [n]).2)])) := by
  go_enter Try.func8, Try.ntmps8
  go_wp2_with fail
  refine (puts_any [n] _ _ (ints_one n _ w) (by simp)).mono ?_
  rintro e w2 ⟨u, rfl, hE2, hu⟩
  obtain ⟨a, b, rfl, h1, h2⟩ := VTup.inv2 hu
  go_wp2
  go_ret2
  exact tup_two ((ext_alloc _ _).tr hE2) h1 h2

/-- How many bytes: the sum. -/
theorem putsF_sum (ns : List Int) (k : Nat) (h : k < ns.length) : (putsF (ns.take (k + 1))).length = (putsF (ns.take k)).length + (putN ns[k].toNat).length := by
  rw [putsF_take ns k h, List.length_append]
set_option maxRecDepth 100000 in
set_option maxHeartbeats 1000000 in
theorem dsize_any (ns : List Int) (v : Value) (w : World) (hN : VInts ns v w) (hlen : ns.length ≤ 100000) : Calls Try.prog 12 #[v] w (Ret w (VEq (.int .i64 ((puts ns).1.length : Nat)))) := by
  obtain ⟨A, c, rfl, hc1, hc2, hx⟩ := VInts.form hN
  clear hN
  unfold maxLen at hc2
  go_enter Try.func12, Try.ntmps12
  go_wp2
  go_loopw [3, 8] (fun s i wr => ∃ k t : Nat, k ≤ ns.length ∧ i = .int .i64 k ∧ s = .int .i64 (t : Int) ∧ Hid ((putsF (ns.take k)).length = t) ∧ Hid ((ns.take k).all mayB = true) ∧ Below w.heap.size w wr)
    (fun _ i _ => ns.length - (intOf i).toNat)
  case atStart => exact ⟨0, 0, by omega, rfl, rfl, rfl, rfl, Below.refl _ _⟩
  case round =>
    obtain ⟨k, t, hk, rfl, rfl, Ho, Ha, hE⟩ := hrel
    by_cases hlt : k < ns.length
    · obtain ⟨b, off, rfl, hb, hcell⟩ := hx (by omega)
      have hx3 := (hE.cell (p := ⟨b, off + k, none⟩) hb).trans (hcell k hlt)
      have Hno := hide (@puts_no ns k hlt)
      have Hpt := hide (putsF_sum ns k hlt)
      have Hat := hide (all_take (p := mayB) ns k hlt)
      have hfl := putsF_len _ Ha.out
      rw [List.length_take, Ho.out] at hfl
      clear hcell hx
      generalize ns[k] = x at *
      go_wp2_with fail
      refine (may_any x wr).mono ?_
      rintro e w2 ⟨u, rfl, hE2, rfl⟩
      have hE3 := hE.trans (hE2.mono hE.size)
      cases hq : mayB x
      · have h1 := hide (Hno.out hq)
        clear hq
        go_wp2
        go_ret
        rw [h1.out]
        exact Ret.mk hE3 rfl
      · have hm := mayB_iff.1 hq
        rw [hq, Bool.and_true] at Hat
        clear hq
        obtain ⟨m, rfl⟩ : ∃ m : Nat, x = (m : Int) := ⟨x.toNat, by omega⟩
        rw [Int.toNat_natCast] at Hpt
        have hl5 := putN_most (n := m) (by unfold most; omega)
        go_wp2_with fail
        refine (size_any m (by unfold most; omega) w2).mono ?_
        rintro e w3 ⟨v', rfl, hE4, rfl⟩
        have hE5 := hE3.trans (hE4.mono hE3.size)
        go_wp2
        refine ⟨⟨k + 1, t + (putN m).length, by omega, by go_num, by go_num, ?_, ?_, hE5⟩, by simp [intOf]; omega⟩
        · show _ = _; rw [Hpt.out, Ho.out]
        · show _ = _; rw [Hat.out]; exact Ha.out
    · obtain rfl : k = ns.length := by omega
      have Hp : Hid (puts ns = (putsF ns, 0)) := by
        have := Ha.out
        rw [List.take_length] at this
        show _ = _
        unfold puts; rw [if_pos this]
      go_wp2
      go_ret
      rw [Hp.out]
      have := Ho.out
      rw [List.take_length] at this
      exact Ret.mk hE (congrArg (fun n : Nat => Value.int .i64 (n : Int)) this.symm)

/-- n's bytes behind those that stand there: what is left to do. -/
theorem putN_eat {n : Nat} (h : 128 ≤ n) (pre : List UInt8) : pre ++ putN n = (pre ++ [UInt8.ofNat (128 + n % 128)]) ++ putN (n / 128) := by
  rw [putN_hi h, List.append_assoc]; rfl
set_option maxRecDepth 100000 in
set_option maxHeartbeats 1000000 in
theorem rput_yes (n : Nat) (hn : n ≤ most) (w : World) : Calls Try.prog 9 #[.int .i64 (n : Int)] w (Ret w (VTup [VBytes (putN n), VEq (.int .i64 0)])) := by
  obtain ⟨i0, hi, hz0, hz1, hz2⟩ := info_parts Try.infoB
  have hl5 := putN_most hn
  unfold most at hn
  go_enter Try.func9, Try.ntmps9
  go_wp2
  go_loopw [4, 0] (fun l m wr => ∃ (q : Nat) (pre : List UInt8), m = .int .i64 (q : Int) ∧ q ≤ n ∧ pre.length ≤ 5 ∧ Hid (pre ++ putN q = putN n) ∧ Hid (OwnB wr w.heap.size 5 l pre) ∧ Below w.heap.size w wr)
    (fun _ m _ => (intOf m).toNat)
  case atStart => exact ⟨n, [], rfl, Nat.le_refl _, by simp, rfl, OwnB.nil _ _ _, Below.refl _ _⟩
  case round =>
    obtain ⟨q, pre, rfl, hq, hpl, He, Ho, hE⟩ := hrel
    obtain ⟨A2, c2, hv2⟩ := OwnB.form Ho.out
    subst hv2
    by_cases hlt : 128 ≤ q
    · have Hs := hide (putN_eat hlt pre)
      have hpp := putN_pos (q / 128)
      have hll : pre.length + 1 ≤ 5 := by
        have := congrArg List.length (Hs.out.symm.trans He.out)
        simp only [List.length_append, List.length_singleton] at this
        omega
      have Hbyte : Hid ((128 + (q : Int) % 128) % 256 = ((UInt8.ofNat (128 + q % 128)).toNat : Int)) := by show _ = _; rw [UInt8.toNat_ofNat']; omega
      clear hpp
      go_wp2_with (at_builtin; refine wpList_append_bytes rfl _ _ 23 rfl w.heap.size 5 i0 (.int .u8 0) Try.underlying23 hi hz0 hz1 hz2 rfl _ _ pre [UInt8.ofNat (128 + q % 128)] rfl (OwnB.st Ho.out (ext_alloc _ _)) rfl (one_byte _ _ (by first | exact Hbyte.out | (rw [UInt8.toNat_ofNat']; omega)) _ _) (by simp; omega) (by have := hE.size; simp; omega) ?_; intro v' w' hown hgrow hat)
      refine ⟨⟨q / 128, pre ++ [UInt8.ofNat (128 + q % 128)], by go_num, by omega, by simp; omega, ?_, hide hown, below_ng hE hgrow (fun j hj => OwnB.ge Ho.out j hj)⟩, by simp [intOf]; omega⟩
      show _ = _; rw [← Hs.out]; exact He.out
    · have Hs : Hid (putN n = pre ++ [UInt8.ofNat q]) := by show _ = _; rw [← He.out, putN_lo (by omega)]
      have Hbyte : Hid ((q : Int) % 256 = ((UInt8.ofNat q).toNat : Int)) := by show _ = _; rw [UInt8.toNat_ofNat']; omega
      go_wp2_with (at_builtin; refine wpList_append_bytes rfl _ _ 23 rfl w.heap.size 5 i0 (.int .u8 0) Try.underlying23 hi hz0 hz1 hz2 rfl _ _ pre [UInt8.ofNat q] rfl (OwnB.st Ho.out (ext_alloc _ _)) rfl (one_byte _ _ (by first | exact Hbyte.out | (rw [UInt8.toNat_ofNat']; omega)) _ _) (by simp; omega) (by have := hE.size; simp; omega) ?_; intro v' w' hown hgrow hat)
      go_ret2
      rw [Hs.out]
      exact tup_two (below_ng hE hgrow (fun j hj => OwnB.ge Ho.out j hj)) hown.bytes rfl
theorem rput_any (n : Int) (w : World) : Calls Try.prog 9 #[.int .i64 n] w (Ret w (VTup [VBytes (puts [n]).1, VEq (.int .i64 (puts [n]).2)])) := by
  rw [puts_one]
  by_cases h1 : 0 ≤ n
  · by_cases h2 : n ≤ 2147483647
    · rw [if_pos (mayB_iff.2 ⟨h1, h2⟩)]
      obtain ⟨m, rfl⟩ : ∃ m : Nat, n = (m : Int) := ⟨n.toNat, by omega⟩
      rw [Int.toNat_natCast]
      exact rput_yes m (by unfold most; omega) w
    · rw [if_neg (fun h => h2 (mayB_iff.1 h).2)]
      go_enter Try.func9, Try.ntmps9
      go_wp2
      go_ret2
      exact tup_two (Ext.rf _) (nil_bytes _) rfl
  · rw [if_neg (fun h => h1 (mayB_iff.1 h).1)]
    go_enter Try.func9, Try.ntmps9
    go_wp2
    go_ret2
    exact tup_two (Ext.rf _) (nil_bytes _) rfl
set_option maxRecDepth 100000 in
set_option maxHeartbeats 1000000 in
theorem rputs_any (ns : List Int) (v : Value) (w : World) (hN : VInts ns v w) (hlen : ns.length ≤ 100000) : Calls Try.prog 11 #[v] w (Ret w (VTup [VBytes (puts ns).1, VEq (.int .i64 (puts ns).2)])) := by
  obtain ⟨A, c, rfl, hc1, hc2, hx⟩ := VInts.form hN
  obtain ⟨i0, hi, hz0, hz1, hz2⟩ := info_parts Try.infoB
  clear hN
  unfold maxLen at hc2
  go_enter Try.func11, Try.ntmps11
  go_wp2
  go_loopw [4, 5] (fun l i wr => ∃ k : Nat, k ≤ ns.length ∧ i = .int .i64 k ∧ Hid (OwnB wr w.heap.size 5 l (putsF (ns.take k))) ∧ Hid ((ns.take k).all mayB = true) ∧ Below w.heap.size w wr)
    (fun _ i _ => ns.length - (intOf i).toNat)
  case atStart => exact ⟨0, by omega, rfl, OwnB.nil _ _ _, rfl, Below.refl _ _⟩
  case round =>
    obtain ⟨k, hk, rfl, Ho, Ha, hE⟩ := hrel
    by_cases hlt : k < ns.length
    · obtain ⟨b, off, rfl, hb, hcell⟩ := hx (by omega)
      have hx3 := (hE.cell (p := ⟨b, off + k, none⟩) hb).trans (hcell k hlt)
      have Hno := hide (@puts_no ns k hlt)
      have Hpt := hide (putsF_take ns k hlt)
      have Hat := hide (all_take (p := mayB) ns k hlt)
      have hfl := putsF_len _ Ha.out
      rw [List.length_take] at hfl
      clear hcell hx
      generalize ns[k] = x at *
      go_wp2_with fail
      refine (rput_any x wr).mono ?_
      rintro e w2 ⟨u, rfl, hE2, hu⟩
      obtain ⟨p, q, rfl, h1, h2⟩ := VTup.inv2 hu
      have hE3 := hE.trans (hE2.mono hE.size)
      rw [puts_one] at h1 h2
      cases hq : mayB x
      · have h3 := hide (Hno.out hq)
        rw [hq] at h2
        obtain rfl : q = .int .i64 2 := h2
        clear hq
        go_wp2
        go_ret2
        rw [h3.out]
        exact tup_two hE3 (nil_bytes _) rfl
      · have hm := mayB_iff.1 hq
        rw [hq] at h1 h2
        rw [hq, Bool.and_true] at Hat
        obtain rfl : q = .int .i64 0 := h2
        clear hq
        have hl5 := putN_most (n := x.toNat) (by unfold most; omega)
        have h1 : VBytes (putN x.toNat) p w2 := h1
        obtain ⟨A3, c3, rfl, -⟩ := VBytes.form h1
        have H1 := hide h1
        clear h1
        go_wp2_with (at_builtin; refine wpList_append_bytes rfl _ _ 23 rfl w.heap.size 5 i0 (.int .u8 0) Try.underlying23 hi hz0 hz1 hz2 rfl _ _ (putsF (ns.take k)) (putN x.toNat) rfl (OwnB.st Ho.out hE2) rfl H1.out (by omega) hE3.size ?_; intro v' w' hown hgrow hat)
        refine ⟨⟨k + 1, by omega, by go_num, ?_, ?_, hE3.grown hgrow hE3.size (fun j hj => OwnB.ge Ho.out j hj)⟩, by simp [intOf]; omega⟩
        · show OwnB _ _ _ _ _; rw [Hpt.out]; exact hown
        · show _ = _; rw [Hat.out]; exact Ha.out
    · obtain rfl : k = ns.length := by omega
      have Hp : Hid (puts ns = (putsF ns, 0)) := by
        have := Ha.out
        rw [List.take_length] at this
        show _ = _
        unfold puts; rw [if_pos this]
      go_wp2
      go_ret2
      rw [Hp.out]
      have := Ho.out
      rw [List.take_length] at this
      exact tup_two hE this.bytes rfl
set_option maxRecDepth 100000 in
theorem rsize_any (ns : List Int) (v : Value) (w : World) (hN : VInts ns v w) (hlen : ns.length ≤ 100000) : Calls Try.prog 13 #[v] w (Ret w (VEq (.int .i64 ((puts ns).1.length : Nat)))) := by
  obtain ⟨A, c, rfl, -⟩ := id hN
  rw [List.length_map] at hN ⊢
  go_enter Try.func13, Try.ntmps13
  go_wp2_with fail
  refine (rputs_any ns _ _ hN hlen).mono ?_
  rintro e w2 ⟨u, rfl, hE2, hu⟩
  obtain ⟨a, b, rfl, h1, h2⟩ := VTup.inv2 hu
  obtain ⟨A3, c3, rfl, -⟩ := VBytes.form h1
  go_wp2
  go_ret
  exact Ret.mk hE2 rfl
theorem ints_diff (a b : List Int) (k : Nat) (h1 : k < a.length) (h2 : k < b.length) (hne : a[k] ≠ b[k]) : decide (a = b) = false := by
  rw [decide_eq_false_iff_not]
  rintro rfl
  exact hne rfl
theorem ints_same (a b : List Int) (h : a.length = b.length) (ht : a.take a.length = b.take a.length) : decide (a = b) = true := by
  rw [List.take_length, h, List.take_length] at ht
  exact decide_eq_true ht
set_option maxRecDepth 100000 in
set_option maxHeartbeats 1000000 in
theorem ints_any (xs ys : List Int) (u v : Value) (w : World) (hA : VInts xs u w) (hB : VInts ys v w) : Calls Try.prog 18 #[u, v] w (Ret w (VEq (.bool (decide (xs = ys))))) := by
  obtain ⟨A, c, rfl, hc1, hc2, hx⟩ := VInts.form hA
  obtain ⟨B, d, rfl, hd1, hd2, hy⟩ := VInts.form hB
  have hA0 := hide hA
  have hB0 := hide hB
  have hdiff := ints_diff xs ys
  have hsame := ints_same xs ys
  clear hA hB
  unfold maxLen at hc2 hd2
  by_cases hl : xs.length = ys.length
  · have Hd := hide (hsame hl)
    clear hsame
    have Hdf := hide hdiff
    clear hdiff
    generalize decide (xs = ys) = r at *
    have hll : ((xs.length : Int) != (ys.length : Int)) = false := by rw [hl]; simp
    have hlb : ys.length ≤ xs.length := by omega
    have hlc : xs.length ≤ ys.length := by omega
    go_enter Try.func18, Try.ntmps18
    go_wp2
    clear hll hl
    go_loopw [5] (fun i wr => ∃ k : Nat, k ≤ xs.length ∧ i = .int .i64 k ∧ Hid (xs.take k = ys.take k) ∧ Below w.heap.size w wr)
      (fun i _ => xs.length - (intOf i).toNat)
    case atStart => exact ⟨0, by omega, rfl, rfl, Below.refl _ _⟩
    case round =>
      obtain ⟨k, hk, rfl, Ht, hE⟩ := hrel
      by_cases hlt : k < xs.length
      · obtain ⟨b, off, rfl, hb, hcell⟩ := hx (by omega)
        obtain ⟨b2, off2, rfl, hb2, hcell2⟩ := hy (by omega)
        have hx3 := (hE.cell (p := ⟨b, off + k, none⟩) hb).trans (hcell k hlt)
        have hy3 := (hE.cell (p := ⟨b2, off2 + k, none⟩) hb2).trans (hcell2 k (by omega))
        have H1 := hide (Hdf.out k hlt (by omega))
        have H2 : Hid (xs[k] = ys[k]'(by omega) → xs.take (k + 1) = ys.take (k + 1)) := fun e => by
          rw [List.take_succ_eq_append_getElem hlt, List.take_succ_eq_append_getElem (by omega : k < ys.length), Ht.out, e]
        have hlt2 : (k : Int) < (ys.length : Int) := by omega
        have hA2 := VP.st _ _ _ _ hA0.out hE
        have hB2 := VP.st _ _ _ _ hB0.out hE
        clear hcell hcell2 hx hy Hd Hdf
        by_cases hq : xs[k] = ys[k]'(by omega)
        · have H3 := hide (H2.out hq)
          go_upto_region 6 with (fail)
          refine vregion 9 [] (by kernel_rfl) (by kernel_rfl) (fun _ _ _ _ _ h => h) ?_
          refine VWalk.move _ rfl (want_none rfl) (opd_fr 0 rfl hA2 (ext_drew _) (by kernel_rfl)) ?_
          refine VWalk.move _ rfl (want_none rfl) (opd_frame 5 rfl (by kernel_rfl)) ?_
          refine VWalk.indexI 22 3 _ _ .i64 k rfl Try.underlying22 (by kernel_rfl) (want_none rfl) (opd_dep 0 17 1 rfl rfl rfl rfl) (opd_dep 1 18 0 rfl rfl rfl rfl) hlt ?_
          refine VWalk.loadP 3 _ rfl (want_none rfl) (opd_dep 2 19 0 rfl rfl rfl rfl) (fun _ => by kernel_rfl) ?_
          refine VWalk.move _ rfl (want_none rfl) (opd_fr 1 rfl hB2 (ext_drew _) (by kernel_rfl)) ?_
          refine VWalk.move _ rfl (want_none rfl) (opd_frame 5 rfl (by kernel_rfl)) ?_
          refine VWalk.indexI 22 3 _ _ .i64 k rfl Try.underlying22 (by kernel_rfl) (want_none rfl) (opd_dep 4 21 1 rfl rfl rfl rfl) (opd_dep 5 22 0 rfl rfl rfl rfl) (by omega) ?_
          refine VWalk.loadP 3 _ rfl (want_none rfl) (opd_dep 6 23 0 rfl rfl rfl rfl) (fun _ => by kernel_rfl) ?_
          refine VWalk.neT _ _ _ _ rfl (want_none rfl) (opd_dep 3 20 4 rfl rfl rfl rfl) (opd_dep 7 24 0 rfl rfl rfl rfl) hq ?_
          refine ⟨rfl, fun W6 hE6 => ?_⟩
          refine VFin.any fun v6_0 hv6_0 => ?_
          refine VFin.eq ?_  -- 1
          refine VFin.any fun v6_2 hv6_2 => ?_
          refine VFin.eq ?_  -- 3
          refine VFin.any fun v6_4 hv6_4 => ?_
          refine VFin.eq ?_  -- 5
          refine VFin.any fun v6_6 hv6_6 => ?_
          refine VFin.eq ?_  -- 7
          refine VFin.eq ?_  -- 8
          refine VFin.nil ?_
          simp only [Act.put, List.setIfInBounds_toArray, List.set_cons_zero, List.set_cons_succ]
          clear hv6_0 hv6_2 hv6_4 hv6_6
          have hA2 := VP.st _ _ _ _ hA2 ((ext_drew _).tr hE6)
          have hB2 := VP.st _ _ _ _ hB2 ((ext_drew _).tr hE6)
          go_wp2
          exact ⟨⟨k + 1, by omega, by go_num, H3, Ext.tr hE ((ext_drew _).tr hE6)⟩, by simp [intOf]; omega⟩
        · have H3 := H1.out hq
          subst H3
          go_upto_region 6 with (fail)
          refine vregion 9 [] (by kernel_rfl) (by kernel_rfl) (fun _ _ _ _ _ h => h) ?_
          refine VWalk.move _ rfl (want_none rfl) (opd_fr 0 rfl hA2 (ext_drew _) (by kernel_rfl)) ?_
          refine VWalk.move _ rfl (want_none rfl) (opd_frame 5 rfl (by kernel_rfl)) ?_
          refine VWalk.indexI 22 3 _ _ .i64 k rfl Try.underlying22 (by kernel_rfl) (want_none rfl) (opd_dep 0 17 1 rfl rfl rfl rfl) (opd_dep 1 18 0 rfl rfl rfl rfl) hlt ?_
          refine VWalk.loadP 3 _ rfl (want_none rfl) (opd_dep 2 19 0 rfl rfl rfl rfl) (fun _ => by kernel_rfl) ?_
          refine VWalk.move _ rfl (want_none rfl) (opd_fr 1 rfl hB2 (ext_drew _) (by kernel_rfl)) ?_
          refine VWalk.move _ rfl (want_none rfl) (opd_frame 5 rfl (by kernel_rfl)) ?_
          refine VWalk.indexI 22 3 _ _ .i64 k rfl Try.underlying22 (by kernel_rfl) (want_none rfl) (opd_dep 4 21 1 rfl rfl rfl rfl) (opd_dep 5 22 0 rfl rfl rfl rfl) (by omega) ?_
          refine VWalk.loadP 3 _ rfl (want_none rfl) (opd_dep 6 23 0 rfl rfl rfl rfl) (fun _ => by kernel_rfl) ?_
          refine VWalk.neT' _ _ _ _ rfl (want_none rfl) (opd_dep 3 20 4 rfl rfl rfl rfl) (opd_dep 7 24 0 rfl rfl rfl rfl) hq ?_
          refine ⟨rfl, fun W6 hE6 => ?_⟩
          refine VFin.any fun v6_0 hv6_0 => ?_
          refine VFin.eq ?_  -- 1
          refine VFin.any fun v6_2 hv6_2 => ?_
          refine VFin.eq ?_  -- 3
          refine VFin.any fun v6_4 hv6_4 => ?_
          refine VFin.eq ?_  -- 5
          refine VFin.any fun v6_6 hv6_6 => ?_
          refine VFin.eq ?_  -- 7
          refine VFin.eq ?_  -- 8
          refine VFin.nil ?_
          simp only [Act.put, List.setIfInBounds_toArray, List.set_cons_zero, List.set_cons_succ]
          clear hv6_0 hv6_2 hv6_4 hv6_6
          have hA2 := VP.st _ _ _ _ hA2 ((ext_drew _).tr hE6)
          have hB2 := VP.st _ _ _ _ hB2 ((ext_drew _).tr hE6)
          go_wp2
          go_ret
          exact Ret.mk (Ext.tr hE ((ext_drew _).tr hE6)) rfl
      · obtain rfl : k = xs.length := by omega
        have H3 := Hd.out Ht.out
        subst H3
        go_wp2
        go_ret
        exact Ret.mk hE rfl
  · have hr : decide (xs = ys) = false := decide_eq_false (fun e => hl (by rw [e]))
    rw [hr]
    have hll : ((xs.length : Int) != (ys.length : Int)) = true := by simpa using (by omega : (xs.length : Int) ≠ ys.length)
    clear hr hdiff hsame hl
    go_enter Try.func18, Try.ntmps18
    go_wp2
    go_ret
    exact Ret.mk (Ext.rf _) rfl
end Go.Proofs.Ytddkjicahpjcpaa
