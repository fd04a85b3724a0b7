/- Rows of numbers, compared. -/
import Derived.Test.YtfbamdkalamliaaClD
namespace Go.Proofs.Ytfbamdkalamliaa
open Go.RowKit
theorem ints_diff (a b : List Int) (k : Nat) (h1 : k < a.length) (h2 : k < b.length) (hne : a[k] ≠ b[k]) : decide (a = b) = false := by
  rw [decide_eq_false_iff_not]
  rintro rfl
  exact hne rfl
theorem ints_same (a b : List Int) (h : a.length = b.length) (ht : a.take a.length = b.take a.length) : decide (a = b) = true := by
  rw [List.take_length, h, List.take_length] at ht
  exact decide_eq_true ht
set_option maxRecDepth 100000 in
set_option maxHeartbeats 1000000 in
theorem ints_any (xs ys : List Int) (u v : Value) (w : World) (hA : VInts xs u w) (hB : VInts ys v w) : Calls Try.prog 13 #[u, v] w (Ret w (VEq (.bool (decide (xs = ys))))) := by
  obtain ⟨A, c, rfl, hc1, hc2, hx⟩ := VInts.form hA
  obtain ⟨B, d, rfl, hd1, hd2, hy⟩ := VInts.form hB
  have hA0 := hide hA
  have hB0 := hide hB
  have hdiff := ints_diff xs ys
  have hsame := ints_same xs ys
  clear hA hB
  unfold maxLen at hc2 hd2
  by_cases hl : xs.length = ys.length
  · have Hd := hide (hsame hl)
    clear hsame
    have Hdf := hide hdiff
    clear hdiff
    generalize decide (xs = ys) = r at *
    have hll : ((xs.length : Int) != (ys.length : Int)) = false := by rw [hl]; simp
    have hlb : ys.length ≤ xs.length := by omega
    have hlc : xs.length ≤ ys.length := by omega
    go_enter Try.func13, Try.ntmps13
    go_wp2
    clear hll hl
    go_loopw [5] (fun i wr => ∃ k : Nat, k ≤ xs.length ∧ i = .int .i64 k ∧ Hid (xs.take k = ys.take k) ∧ Below w.heap.size w wr)
      (fun i _ => xs.length - (intOf i).toNat)
    case atStart => exact ⟨0, by omega, rfl, rfl, Below.refl _ _⟩
    case round =>
      obtain ⟨k, hk, rfl, Ht, hE⟩ := hrel
      by_cases hlt : k < xs.length
      · obtain ⟨b, off, rfl, hb, hcell⟩ := hx (by omega)
        obtain ⟨b2, off2, rfl, hb2, hcell2⟩ := hy (by omega)
        have hx3 := (hE.cell (p := ⟨b, off + k, none⟩) hb).trans (hcell k hlt)
        have hy3 := (hE.cell (p := ⟨b2, off2 + k, none⟩) hb2).trans (hcell2 k (by omega))
        have H1 := hide (Hdf.out k hlt (by omega))
        have H2 : Hid (xs[k] = ys[k]'(by omega) → xs.take (k + 1) = ys.take (k + 1)) := fun e => by
          rw [List.take_succ_eq_append_getElem hlt, List.take_succ_eq_append_getElem (by omega : k < ys.length), Ht.out, e]
        have hlt2 : (k : Int) < (ys.length : Int) := by omega
        have hA2 := VP.st _ _ _ _ hA0.out hE
        have hB2 := VP.st _ _ _ _ hB0.out hE
        clear hcell hcell2 hx hy Hd Hdf
        by_cases hq : xs[k] = ys[k]'(by omega)
        · have H3 := hide (H2.out hq)
          go_upto_region 6 with (fail)
          refine vregion 9 [] (by kernel_rfl) (by kernel_rfl) (fun _ _ _ _ _ h => h) ?_
          refine VWalk.move _ rfl (want_none rfl) (opd_fr 0 rfl hA2 (ext_drew _) (by kernel_rfl)) ?_
          refine VWalk.move _ rfl (want_none rfl) (opd_frame 5 rfl (by kernel_rfl)) ?_
          refine VWalk.indexI 25 3 _ _ .i64 k rfl Try.underlying25 (by kernel_rfl) (want_none rfl) (opd_dep 0 17 1 rfl rfl rfl rfl) (opd_dep 1 18 0 rfl rfl rfl rfl) hlt ?_
          refine VWalk.loadP 3 _ rfl (want_none rfl) (opd_dep 2 19 0 rfl rfl rfl rfl) (fun _ => by kernel_rfl) ?_
          refine VWalk.move _ rfl (want_none rfl) (opd_fr 1 rfl hB2 (ext_drew _) (by kernel_rfl)) ?_
          refine VWalk.move _ rfl (want_none rfl) (opd_frame 5 rfl (by kernel_rfl)) ?_
          refine VWalk.indexI 25 3 _ _ .i64 k rfl Try.underlying25 (by kernel_rfl) (want_none rfl) (opd_dep 4 21 1 rfl rfl rfl rfl) (opd_dep 5 22 0 rfl rfl rfl rfl) (by omega) ?_
          refine VWalk.loadP 3 _ rfl (want_none rfl) (opd_dep 6 23 0 rfl rfl rfl rfl) (fun _ => by kernel_rfl) ?_
          refine VWalk.neT _ _ _ _ rfl (want_none rfl) (opd_dep 3 20 4 rfl rfl rfl rfl) (opd_dep 7 24 0 rfl rfl rfl rfl) hq ?_
          refine ⟨rfl, fun W6 hE6 => ?_⟩
          refine VFin.any fun v6_0 hv6_0 => ?_
          refine VFin.eq ?_  -- 1
          refine VFin.any fun v6_2 hv6_2 => ?_
          refine VFin.eq ?_  -- 3
          refine VFin.any fun v6_4 hv6_4 => ?_
          refine VFin.eq ?_  -- 5
          refine VFin.any fun v6_6 hv6_6 => ?_
          refine VFin.eq ?_  -- 7
          refine VFin.eq ?_  -- 8
          refine VFin.nil ?_
          simp only [Act.put, List.setIfInBounds_toArray, List.set_cons_zero, List.set_cons_succ]
          clear hv6_0 hv6_2 hv6_4 hv6_6
          have hA2 := VP.st _ _ _ _ hA2 ((ext_drew _).tr hE6)
          have hB2 := VP.st _ _ _ _ hB2 ((ext_drew _).tr hE6)
          go_wp2
          exact ⟨⟨k + 1, by omega, by go_num, H3, Ext.tr hE ((ext_drew _).tr hE6)⟩, by simp [intOf]; omega⟩
        · have H3 := H1.out hq
          subst H3
          go_upto_region 6 with (fail)
          refine vregion 9 [] (by kernel_rfl) (by kernel_rfl) (fun _ _ _ _ _ h => h) ?_
          refine VWalk.move _ rfl (want_none rfl) (opd_fr 0 rfl hA2 (ext_drew _) (by kernel_rfl)) ?_
          refine VWalk.move _ rfl (want_none rfl) (opd_frame 5 rfl (by kernel_rfl)) ?_
          refine VWalk.indexI 25 3 _ _ .i64 k rfl Try.underlying25 (by kernel_rfl) (want_none rfl) (opd_dep 0 17 1 rfl rfl rfl rfl) (opd_dep 1 18 0 rfl rfl rfl rfl) hlt ?_
          refine VWalk.loadP 3 _ rfl (want_none rfl) (opd_dep 2 19 0 rfl rfl rfl rfl) (fun _ => by kernel_rfl) ?_
          refine VWalk.move _ rfl (want_none rfl) (opd_fr 1 rfl hB2 (ext_drew _) (by kernel_rfl)) ?_
          refine VWalk.move _ rfl (want_none rfl) (opd_frame 5 rfl (by kernel_rfl)) ?_
          refine VWalk.indexI 25 3 _ _ .i64 k rfl Try.underlying25 (by kernel_rfl) (want_none rfl) (opd_dep 4 21 1 rfl rfl rfl rfl) (opd_dep 5 22 0 rfl rfl rfl rfl) (by omega) ?_
          refine VWalk.loadP 3 _ rfl (want_none rfl) (opd_dep 6 23 0 rfl rfl rfl rfl) (fun _ => by kernel_rfl) ?_
          refine VWalk.neT' _ _ _ _ rfl (want_none rfl) (opd_dep 3 20 4 rfl rfl rfl rfl) (opd_dep 7 24 0 rfl rfl rfl rfl) hq ?_
          refine ⟨rfl, fun W6 hE6 => ?_⟩
          refine VFin.any fun v6_0 hv6_0 => ?_
          refine VFin.eq ?_  -- 1
          refine VFin.any fun v6_2 hv6_2 => ?_
          refine VFin.eq ?_  -- 3
          refine VFin.any fun v6_4 hv6_4 => ?_
          refine VFin.eq ?_  -- 5
          refine VFin.any fun v6_6 hv6_6 => ?_
          refine VFin.eq ?_  -- 7
          refine VFin.eq ?_  -- 8
          refine VFin.nil ?_
          simp only [Act.put, List.setIfInBounds_toArray, List.set_cons_zero, List.set_cons_succ]
          clear hv6_0 hv6_2 hv6_4 hv6_6
          have hA2 := VP.st _ _ _ _ hA2 ((ext_drew _).tr hE6)
          have hB2 := VP.st _ _ _ _ hB2 ((ext_drew _).tr hE6)
          go_wp2
          go_ret
          exact Ret.mk (Ext.tr hE ((ext_drew _).tr hE6)) rfl
      · obtain rfl : k = xs.length := by omega
        have H3 := Hd.out Ht.out
        subst H3
        go_wp2
        go_ret
        exact Ret.mk hE rfl
  · have hr : decide (xs = ys) = false := decide_eq_false (fun e => hl (by rw [e]))
    rw [hr]
    have hll : ((xs.length : Int) != (ys.length : Int)) = true := by simpa using (by omega : (xs.length : Int) ≠ ys.length)
    clear hr hdiff hsame hl
    go_enter Try.func13, Try.ntmps13
    go_wp2
    go_ret
    exact Ret.mk (Ext.rf _) rfl
end Go.Proofs.Ytfbamdkalamliaa
