/- The document's nodes of a list of words. -/
import Derived.Test.YtfbamdkalamliaaRD
namespace Go.Proofs.Ytfbamdkalamliaa
open Go.RowKit LetM SetM
theorem flat_mem : ∀ {ws : List (List UInt8)} {w : List UInt8}, w ∈ ws → w.length ≤ ws.flatten.length
  | u :: us, w, h => by
    rw [List.flatten_cons, List.length_append]
    rcases List.mem_cons.1 h with rfl | h
    · omega
    · have := flat_mem h; omega
theorem flat_le {ws : List (List UInt8)} {k : Nat} (h : k < ws.length) : ws[k].length ≤ ws.flatten.length := flat_mem (List.getElem_mem h)
theorem nodes_step (fold : Bool) (ws : List (List UInt8)) (k m : Nat) (h : k < ws.length) : nodesFrom fold m (ws.take k) (ws.drop k) = nodesFrom fold (m + (ws[k].length - oldOf fold ws[k] (ws.take k))) (ws.take (k + 1)) (ws.drop (k + 1)) := by
  rw [List.drop_eq_getElem_cons h, List.take_succ_eq_append_getElem h]
  conv => lhs; unfold nodesFrom
theorem old_step (fold : Bool) (w : List UInt8) (us : List (List UInt8)) (j q : Nat) (h : j < us.length) : oldFrom fold w q (us.drop j) = oldFrom fold w (max q (commonN (textF fold w) (textF fold us[j]))) (us.drop (j + 1)) := by
  rw [List.drop_eq_getElem_cons h]
  conv => lhs; unfold oldFrom
set_option maxRecDepth 100000 in
set_option maxHeartbeats 2000000 in
theorem nodes_any (fold : Bool) (ws : List (List UInt8)) (v : Value) (w : World) (hP : VParts ws v w) (hlen : ws.flatten.length ≤ 1000000) : Calls Try.prog 42 #[.bool fold, v] w (Ret w (VEq (.int .i64 (nodesR fold ws : Int)))) := by
  have hP0 := hP
  obtain ⟨A, c, rfl, hc1, hc2, -⟩ := VParts.form hP
  unfold maxLen at hc2
  clear hP
  go_enter Try.func42, Try.ntmps42
  go_wp2
  go_loopw [5, 6] (fun n i wr => ∃ k m : Nat, k ≤ ws.length ∧ i = .int .i64 (k : Int) ∧ n = .int .i64 (m : Int) ∧ m ≤ 1000001 ∧ Hid (nodesFrom fold m (ws.take k) (ws.drop k) = nodesR fold ws) ∧ Hid (Below w.heap.size w wr)) (fun _ i _ => ws.length - (intOf i).toNat)
  case atStart => exact ⟨0, 1, by omega, rfl, rfl, by omega, hide rfl, hide (Ext.rf w)⟩
  case round =>
    obtain ⟨k, m, hk, rfl, rfl, hm, HN, HE⟩ := hrel
    generalize wr = wa at *
    have hEr : Ext w wa := HE.out
    by_cases hlt : k < ws.length
    · have hwl := flat_le hlt
      have HP := hide (VP.st _ _ _ _ hP0 hEr)
      go_wp2
      go_loopw [7, 8] (fun q j wr => ∃ x y : Nat, x ≤ k ∧ j = .int .i64 (x : Int) ∧ q = .int .i64 (y : Int) ∧ y ≤ ws[k].length ∧ Hid (oldFrom fold ws[k] y ((ws.take k).drop x) = oldOf fold ws[k] (ws.take k)) ∧ Hid (Below wa.heap.size wa wr)) (fun _ j _ => k - (intOf j).toNat)
      case atStart => exact ⟨0, 0, by omega, rfl, rfl, by omega, hide (by rw [oldFrom_max, List.drop_zero]; omega), hide (Ext.rf wa)⟩
      case round =>
        obtain ⟨x, y, hx, rfl, rfl, hy, HO, HX⟩ := hrel
        have hXr : Ext wa wr := HX.out
        by_cases hlt2 : x < k
        · have hxw : x < ws.length := by omega
          have hwx := flat_le hxw
          have hP := VP.st _ _ _ _ HP.out hXr
          have hst := old_step fold ws[k] (ws.take k) x y (by rw [List.length_take]; omega)
          rw [HO.out, List.getElem_take] at hst
          obtain ⟨cm, hcm⟩ : ∃ cm, commonN (textF fold ws[k]) (textF fold ws[x]) = cm := ⟨_, rfl⟩
          have hcl := (commonN_le (textF fold ws[k]) (textF fold ws[x])).1
          rw [textF_length, hcm] at hcl
          have hcc : ∀ u v w, VBytes (textF fold ws[k]) u w → VBytes (textF fold ws[x]) v w → Calls Try.prog 47 #[u, v] w (Ret w (VEq (.int .i64 (cm : Int)))) := fun u v w hu hv => by rw [← hcm]; exact common_any _ _ u v w hu hv
          obtain ⟨mx, hmx⟩ : ∃ mx, max y cm = mx := ⟨_, rfl⟩
          rw [hcm, hmx] at hst
          have hml : mx ≤ ws[k].length := by omega
          have Hmx := hide hmx
          have Hst := hide hst.symm
          have hE := hEr.tr hXr
          clear hst hmx HO hcm
          go_upto_region 9 with (fail)
          refine vregion 15 [] (by kernel_rfl) (by kernel_rfl) (fun _ _ _ _ _ h => h) ?_
          refine VWalk.move _ rfl (want_none rfl) (opd_frame 7 rfl (by kernel_rfl)) ?_
          refine VWalk.move _ rfl (want_none rfl) (opd_frame 0 rfl (by kernel_rfl)) ?_
          refine VWalk.move _ rfl (want_none rfl) (opd_fr 1 rfl hP (ext_drew _) (by kernel_rfl)) ?_
          refine VWalk.move _ rfl (want_none rfl) (opd_frame 6 rfl (by kernel_rfl)) ?_
          refine VWalk.indexP 22 26 _ _ .i64 k rfl Try.underlying22 (by kernel_rfl) (want_none rfl) (opd_dep 2 22 1 rfl rfl rfl rfl) (opd_dep 3 23 0 rfl rfl rfl rfl) hlt ?_
          refine VWalk.loadP 26 _ rfl (want_none rfl) (opd_dep 4 24 0 rfl rfl rfl rfl) (fun _ => by kernel_rfl) ?_
          refine VWalk.call2 38 _ _ _ rfl (enters_of Try.func38 (by kernel_rfl) rfl) (want_none rfl) (opd_dep 1 21 4 rfl rfl rfl rfl) (opd_dep 5 25 0 rfl rfl rfl rfl) (c_text fold _ (by omega)) ?_
          refine VWalk.move _ rfl (want_none rfl) (opd_frame 0 rfl (by kernel_rfl)) ?_
          refine VWalk.move _ rfl (want_none rfl) (opd_fr 1 rfl hP (ext_drew _) (by kernel_rfl)) ?_
          refine VWalk.move _ rfl (want_none rfl) (opd_frame 8 rfl (by kernel_rfl)) ?_
          refine VWalk.indexP 22 26 _ _ .i64 x rfl Try.underlying22 (by kernel_rfl) (want_none rfl) (opd_dep 8 28 1 rfl rfl rfl rfl) (opd_dep 9 29 0 rfl rfl rfl rfl) hxw ?_
          refine VWalk.loadP 26 _ rfl (want_none rfl) (opd_dep 10 30 0 rfl rfl rfl rfl) (fun _ => by kernel_rfl) ?_
          refine VWalk.call2 38 _ _ _ rfl (enters_of Try.func38 (by kernel_rfl) rfl) (want_none rfl) (opd_dep 7 27 4 rfl rfl rfl rfl) (opd_dep 11 31 0 rfl rfl rfl rfl) (c_text fold _ (by omega)) ?_
          refine VWalk.call2 47 _ _ _ rfl (enters_of Try.func47 (by kernel_rfl) rfl) (want_none rfl) (opd_dep 6 26 6 rfl rfl rfl rfl) (opd_dep 12 32 0 rfl rfl rfl rfl) (fun u v w _ hu hv => hcc u v w hu hv) ?_
          refine VWalk.det2 (r := .int .i64 (mx : Int)) (Operand.tmp 20) (Operand.tmp 33) (want_none rfl) (opd_dep 0 20 13 rfl rfl rfl rfl) (opd_dep 13 33 0 rfl rfl rfl rfl) (fun ρ w hE h1 h2 => by simp [execOp, h1, h2, go_sem]; have := Hmx.out; split <;> omega) ?_
          refine ⟨rfl, fun W9 hE9 => ?_⟩
          refine VFin.eq ?_  -- 0
          refine VFin.eq ?_  -- 1
          refine VFin.any fun v9_2 hv9_2 => ?_
          refine VFin.eq ?_  -- 3
          refine VFin.any fun v9_4 hv9_4 => ?_
          refine VFin.any fun v9_5 hv9_5 => ?_
          refine VFin.any fun v9_6 hv9_6 => ?_
          refine VFin.eq ?_  -- 7
          refine VFin.any fun v9_8 hv9_8 => ?_
          refine VFin.eq ?_  -- 9
          refine VFin.any fun v9_10 hv9_10 => ?_
          refine VFin.any fun v9_11 hv9_11 => ?_
          refine VFin.any fun v9_12 hv9_12 => ?_
          refine VFin.eq ?_  -- 13
          refine VFin.eq ?_  -- 14
          refine VFin.nil ?_
          simp only [Act.put, List.setIfInBounds_toArray, List.set_cons_zero, List.set_cons_succ]
          clear hv9_2 hv9_4 hv9_5 hv9_6 hv9_8 hv9_10 hv9_11 hv9_12
          have hP := VP.st _ _ _ _ hP ((ext_drew _).tr hE9)
          have hE := hE.tr ((ext_drew _).tr hE9)
          have HX9 : Hid (Below wa.heap.size wa W9) := hide (hXr.tr ((ext_drew _).tr hE9))
          clear hcc hE hP
          go_wp2
          exact ⟨⟨x + 1, mx, by omega, by go_num, rfl, hml, Hst, HX9⟩, by simp [intOf]; omega⟩
        · obtain rfl : x = k := by omega
          have hold : Hid (oldOf fold ws[x] (ws.take x) = y) := by
            have := HO.out
            rw [List.drop_of_length_le (by rw [List.length_take]; omega)] at this
            exact this.symm
          have hP := VP.st _ _ _ _ HP.out hXr
          have hst := nodes_step fold ws x m hlt
          rw [hold.out, HN.out] at hst
          have Hst := hide hst.symm
          have hml : m + (ws[x].length - y) ≤ 1000001 := by
            have h1 := nodesFrom_ge fold (ws.drop (x + 1)) (ws.take (x + 1)) (m + (ws[x].length - y))
            have h2 := nodesFrom_le fold ws [] 1
            unfold nodesR at hst
            omega
          have hE := hEr.tr hXr
          clear hst HO hold HN
          go_upto_region 10 with (fail)
          refine vregion0 9 (by kernel_rfl) ?_
          refine VWalk.move _ rfl (want_none rfl) (opd_frame 5 rfl (by kernel_rfl)) ?_
          refine VWalk.move _ rfl (want_none rfl) (opd_fr 1 rfl hP (Ext.rf _) (by kernel_rfl)) ?_
          refine VWalk.move _ rfl (want_none rfl) (opd_frame 6 rfl (by kernel_rfl)) ?_
          refine VWalk.indexP 22 26 _ _ .i64 x rfl Try.underlying22 (by kernel_rfl) (want_none rfl) (opd_dep 1 36 1 rfl rfl rfl rfl) (opd_dep 2 37 0 rfl rfl rfl rfl) hlt ?_
          refine VWalk.loadP 26 _ rfl (want_none rfl) (opd_dep 3 38 0 rfl rfl rfl rfl) (fun _ => by kernel_rfl) ?_
          refine VWalk.lenB 26 5 _ rfl Try.underlying26 (want_none rfl) (opd_dep 4 39 0 rfl rfl rfl rfl) ?_
          refine VWalk.add64 _ _ _ _ rfl (want_none rfl) (opd_dep 0 35 5 rfl rfl rfl rfl) (opd_dep 5 40 0 rfl rfl rfl rfl) (by omega) ?_
          refine VWalk.move _ rfl (want_none rfl) (opd_frame 7 rfl (by kernel_rfl)) ?_
          refine VWalk.sub64 _ _ _ _ rfl (want_none rfl) (opd_dep 6 41 1 rfl rfl rfl rfl) (opd_dep 7 42 0 rfl rfl rfl rfl) (by omega) ?_
          refine ⟨rfl, fun W10 hE10 => ?_⟩
          refine VFin.eq ?_  -- 0
          refine VFin.any fun v10_1 hv10_1 => ?_
          refine VFin.eq ?_  -- 2
          refine VFin.any fun v10_3 hv10_3 => ?_
          refine VFin.any fun v10_4 hv10_4 => ?_
          refine VFin.eq ?_  -- 5
          refine VFin.eq ?_  -- 6
          refine VFin.eq ?_  -- 7
          refine VFin.eq ?_  -- 8
          refine VFin.nil ?_
          simp only [Act.put, List.setIfInBounds_toArray, List.set_cons_zero, List.set_cons_succ]
          clear hv10_1 hv10_3 hv10_4
          have hP := VP.st _ _ _ _ hP hE10
          have hE := hE.tr hE10
          have HE10 : Hid (Below w.heap.size w W10) := hide hE
          clear hE hP
          go_wp2
          exact ⟨⟨x + 1, m + (ws[x].length - y), by omega, by go_num, by go_num, hml, Hst, HE10⟩, by simp [intOf]; omega⟩
    · obtain rfl : k = ws.length := by omega
      have hres : Hid (nodesR fold ws = m) := by
        have := HN.out
        rw [List.drop_length] at this
        exact this.symm
      go_wp2
      go_ret
      exact Ret.mk hEr (congrArg (fun n : Nat => Value.int .i64 (n : Int)) hres.out.symm)
end Go.Proofs.Ytfbamdkalamliaa
