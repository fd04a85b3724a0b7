/- What the document says is wrong with a list of words. -/
import Derived.Test.YtfbamdkalamliaaRE
namespace Go.Proofs.Ytfbamdkalamliaa
open Go.RowKit LetM SetM
theorem flat_snoc (ws : List (List UInt8)) (k : Nat) (h : k < ws.length) : (ws.take (k + 1)).flatten.length = (ws.take k).flatten.length + ws[k].length := by
  rw [List.take_succ_eq_append_getElem h, List.flatten_append, List.length_append]; simp
theorem flat_small : ∀ (ws : List (List UInt8)), (∀ w ∈ ws, w.length ≤ 32) → ws.flatten.length ≤ 32 * ws.length
  | [], _ => by simp
  | w :: ws, h => by
    have h1 := h w (by simp)
    have h2 := flat_small ws fun u hu => h u (by simp [hu])
    rw [List.flatten_cons, List.length_append, List.length_cons]; omega
set_option maxRecDepth 100000 in
set_option maxHeartbeats 2000000 in
theorem check_any (fold : Bool) (ws : List (List UInt8)) (v : Value) (w : World) (hP : VParts ws v w) : Calls Try.prog 36 #[.bool fold, v] w (Ret w (VEq (.int .i64 (checkR fold ws)))) := by
  have hP0 := hP
  obtain ⟨A, c, rfl, hc1, hc2, -⟩ := VParts.form hP
  unfold maxLen at hc2
  clear hP
  obtain ⟨z, hz⟩ : ∃ z, checkR fold ws = z := ⟨_, rfl⟩
  have Hz := hide hz
  rw [hz]
  unfold checkR at hz
  by_cases h1 : ws.length = 0
  · rw [if_pos h1] at hz
    subst hz
    have h1' : (ws.length : Int) = 0 := by omega
    clear h1 hP0
    go_enter Try.func36, Try.ntmps36
    go_wp2
    go_ret
    exact Ret.mk (Ext.rf w) rfl
  have h1' : ((ws.length : Int) == 0) = false := by rw [beq_eq_false_iff_ne]; omega
  rw [if_neg h1] at hz
  by_cases h2 : 64 < ws.length
  · rw [if_pos h2] at hz
    subst hz
    clear hP0 h1
    go_enter Try.func36, Try.ntmps36
    go_wp2
    go_ret
    exact Ret.mk (Ext.rf w) rfl
  rw [if_neg h2] at hz
  have HZ := hide hz
  have h2' : ws.length ≤ 64 := by omega
  clear hz h2
  go_enter Try.func36, Try.ntmps36
  clear h1
  go_wp2
  go_loopw [6] (fun i wr => ∃ k : Nat, k ≤ ws.length ∧ i = .int .i64 (k : Int) ∧ Hid (∀ (i : Nat) (h : i < ws.length), i < k → ws[i] ≠ []) ∧ Hid (Below w.heap.size w wr)) (fun i _ => ws.length - (intOf i).toNat)
  case atStart => exact ⟨0, by omega, rfl, hide (fun i _ h => by omega), hide (Ext.rf w)⟩
  case round =>
    obtain ⟨k, hk, rfl, HN, HE⟩ := hrel
    have hEr : Ext w wr := HE.out
    have hP := VP.st _ _ _ _ hP0 hEr
    by_cases hlt : k < ws.length
    · by_cases he : ws[k] = []
      · have hl0 : (ws[k].length : Int) = 0 := by rw [he]; rfl
        have Hres : Hid (z = 52) := by
          have := HZ.out
          rw [if_pos ⟨ws[k], List.getElem_mem hlt, he⟩] at this
          exact this.symm
        have hE := hEr
        clear he HZ HN
        go_upto_region 9 with (fail)
        refine vregion0 6 (by kernel_rfl) ?_
        refine VWalk.move _ rfl (want_none rfl) (opd_fr 1 rfl hP (Ext.rf _) (by kernel_rfl)) ?_
        refine VWalk.move _ rfl (want_none rfl) (opd_frame 6 rfl (by kernel_rfl)) ?_
        refine VWalk.indexP 22 26 _ _ .i64 k rfl Try.underlying22 (by kernel_rfl) (want_none rfl) (opd_dep 0 20 1 rfl rfl rfl rfl) (opd_dep 1 21 0 rfl rfl rfl rfl) hlt ?_
        refine VWalk.loadP 26 _ rfl (want_none rfl) (opd_dep 2 22 0 rfl rfl rfl rfl) (fun _ => by kernel_rfl) ?_
        refine VWalk.lenB 26 5 _ rfl Try.underlying26 (want_none rfl) (opd_dep 3 23 0 rfl rfl rfl rfl) ?_
        refine VWalk.eqT _ _ _ _ rfl (want_none rfl) (opd_dep 4 24 0 rfl rfl rfl rfl) (opd_const _) hl0 ?_
        refine ⟨rfl, fun W9 hE9 => ?_⟩
        refine VFin.any fun v9_0 hv9_0 => ?_
        refine VFin.eq ?_  -- 1
        refine VFin.any fun v9_2 hv9_2 => ?_
        refine VFin.any fun v9_3 hv9_3 => ?_
        refine VFin.eq ?_  -- 4
        refine VFin.eq ?_  -- 5
        refine VFin.nil ?_
        simp only [Act.put, List.setIfInBounds_toArray, List.set_cons_zero, List.set_cons_succ]
        clear hv9_0 hv9_2 hv9_3
        have hP := VP.st _ _ _ _ hP hE9
        have hE := hE.tr hE9
        clear hP
        go_wp2
        go_ret
        exact Ret.mk hE (congrArg (Value.int .i64) Hres.out.symm)
      · have hl0 : ¬ (ws[k].length : Int) = 0 := fun h => he (List.eq_nil_of_length_eq_zero (by omega))
        have HN2 : Hid (∀ (i : Nat) (h : i < ws.length), i < k + 1 → ws[i] ≠ []) := fun i h h3 => by
          by_cases e : i = k
          · subst e; exact he
          · exact HN.out i h (by omega)
        have hE := hEr
        clear he HZ HN
        go_upto_region 9 with (fail)
        refine vregion0 6 (by kernel_rfl) ?_
        refine VWalk.move _ rfl (want_none rfl) (opd_fr 1 rfl hP (Ext.rf _) (by kernel_rfl)) ?_
        refine VWalk.move _ rfl (want_none rfl) (opd_frame 6 rfl (by kernel_rfl)) ?_
        refine VWalk.indexP 22 26 _ _ .i64 k rfl Try.underlying22 (by kernel_rfl) (want_none rfl) (opd_dep 0 20 1 rfl rfl rfl rfl) (opd_dep 1 21 0 rfl rfl rfl rfl) hlt ?_
        refine VWalk.loadP 26 _ rfl (want_none rfl) (opd_dep 2 22 0 rfl rfl rfl rfl) (fun _ => by kernel_rfl) ?_
        refine VWalk.lenB 26 5 _ rfl Try.underlying26 (want_none rfl) (opd_dep 3 23 0 rfl rfl rfl rfl) ?_
        refine VWalk.eqT' _ _ _ _ rfl (want_none rfl) (opd_dep 4 24 0 rfl rfl rfl rfl) (opd_const _) hl0 ?_
        refine ⟨rfl, fun W9 hE9 => ?_⟩
        refine VFin.any fun v9_0 hv9_0 => ?_
        refine VFin.eq ?_  -- 1
        refine VFin.any fun v9_2 hv9_2 => ?_
        refine VFin.any fun v9_3 hv9_3 => ?_
        refine VFin.eq ?_  -- 4
        refine VFin.eq ?_  -- 5
        refine VFin.nil ?_
        simp only [Act.put, List.setIfInBounds_toArray, List.set_cons_zero, List.set_cons_succ]
        clear hv9_0 hv9_2 hv9_3
        have hP := VP.st _ _ _ _ hP hE9
        have hE := hE.tr hE9
        have HE2 : Hid (Below w.heap.size w W9) := hide hE
        clear hP hl0
        go_wp2
        exact ⟨⟨k + 1, by omega, by go_num, HN2, HE2⟩, by simp [intOf]; omega⟩
    · obtain rfl : k = ws.length := by omega
      have HZ2 : Hid ((if ∃ w ∈ ws, 32 < w.length then (53 : Int) else if 600 < ws.flatten.length then 54 else if 400 < nodesR fold ws then 55 else 0) = z) := by
        have := HZ.out
        rw [if_neg (fun ⟨u, hu, e⟩ => by obtain ⟨i, hi, rfl⟩ := List.mem_iff_getElem.1 hu; exact HN.out i hi hi e)] at this
        exact this
      clear HZ HN hP
      generalize wr = wa at *
      go_wp2
      go_loopw [5, 7] (fun n i wr => ∃ k m : Nat, k ≤ ws.length ∧ i = .int .i64 (k : Int) ∧ n = .int .i64 (m : Int) ∧ m ≤ 2048 ∧ Hid (m = (ws.take k).flatten.length) ∧ Hid (∀ (i : Nat) (h : i < ws.length), i < k → ws[i].length ≤ 32) ∧ Hid (Below w.heap.size w wr)) (fun _ i _ => ws.length - (intOf i).toNat)
      case atStart => exact ⟨0, 0, by omega, rfl, rfl, by omega, hide (by simp), hide (fun i _ h => by omega), HE⟩
      case round =>
        clear HE hEr
        obtain ⟨k, m, hk, rfl, rfl, hm, HM, HN, HE⟩ := hrel
        have hEr : Ext w wr := HE.out
        have hP := VP.st _ _ _ _ hP0 hEr
        by_cases hlt : k < ws.length
        · by_cases he : 32 < ws[k].length
          · have Hres : Hid (z = 53) := by
              have := HZ2.out
              rw [if_pos ⟨ws[k], List.getElem_mem hlt, he⟩] at this
              exact this.symm
            have hE := hEr
            clear HZ2 HN HM
            go_upto_region 14 with (fail)
            refine vregion0 6 (by kernel_rfl) ?_
            refine VWalk.move _ rfl (want_none rfl) (opd_fr 1 rfl hP (Ext.rf _) (by kernel_rfl)) ?_
            refine VWalk.move _ rfl (want_none rfl) (opd_frame 7 rfl (by kernel_rfl)) ?_
            refine VWalk.indexP 22 26 _ _ .i64 k rfl Try.underlying22 (by kernel_rfl) (want_none rfl) (opd_dep 0 32 1 rfl rfl rfl rfl) (opd_dep 1 33 0 rfl rfl rfl rfl) hlt ?_
            refine VWalk.loadP 26 _ rfl (want_none rfl) (opd_dep 2 34 0 rfl rfl rfl rfl) (fun _ => by kernel_rfl) ?_
            refine VWalk.lenB 26 5 _ rfl Try.underlying26 (want_none rfl) (opd_dep 3 35 0 rfl rfl rfl rfl) ?_
            refine VWalk.gtrT _ _ _ _ rfl (want_none rfl) (opd_dep 4 36 0 rfl rfl rfl rfl) (opd_const _) (by omega) ?_
            refine ⟨rfl, fun W14 hE14 => ?_⟩
            refine VFin.any fun v14_0 hv14_0 => ?_
            refine VFin.eq ?_  -- 1
            refine VFin.any fun v14_2 hv14_2 => ?_
            refine VFin.any fun v14_3 hv14_3 => ?_
            refine VFin.eq ?_  -- 4
            refine VFin.eq ?_  -- 5
            refine VFin.nil ?_
            simp only [Act.put, List.setIfInBounds_toArray, List.set_cons_zero, List.set_cons_succ]
            clear hv14_0 hv14_2 hv14_3
            have hP := VP.st _ _ _ _ hP hE14
            have hE := hE.tr hE14
            clear hP
            go_wp2
            go_ret
            exact Ret.mk hE (congrArg (Value.int .i64) Hres.out.symm)
          · have HN2 : Hid (∀ (i : Nat) (h : i < ws.length), i < k + 1 → ws[i].length ≤ 32) := fun i h h3 => by
              by_cases e : i = k
              · subst e; omega
              · exact HN.out i h (by omega)
            have HM2 : Hid (m + ws[k].length = (ws.take (k + 1)).flatten.length) := by show _ = _; rw [flat_snoc ws k hlt, ← HM.out]
            have hm2 : m + ws[k].length ≤ 2048 := by
              have := flat_small (ws.take (k + 1)) fun u hu => by
                obtain ⟨i, hi, rfl⟩ := List.mem_iff_getElem.1 hu
                rw [List.length_take] at hi
                rw [List.getElem_take]
                exact HN2.out i (by omega) (by omega)
              rw [← HM2.out, List.length_take] at this
              omega
            have hE := hEr
            clear HZ2 HN HM
            go_upto_region 14 with (fail)
            refine vregion0 6 (by kernel_rfl) ?_
            refine VWalk.move _ rfl (want_none rfl) (opd_fr 1 rfl hP (Ext.rf _) (by kernel_rfl)) ?_
            refine VWalk.move _ rfl (want_none rfl) (opd_frame 7 rfl (by kernel_rfl)) ?_
            refine VWalk.indexP 22 26 _ _ .i64 k rfl Try.underlying22 (by kernel_rfl) (want_none rfl) (opd_dep 0 32 1 rfl rfl rfl rfl) (opd_dep 1 33 0 rfl rfl rfl rfl) hlt ?_
            refine VWalk.loadP 26 _ rfl (want_none rfl) (opd_dep 2 34 0 rfl rfl rfl rfl) (fun _ => by kernel_rfl) ?_
            refine VWalk.lenB 26 5 _ rfl Try.underlying26 (want_none rfl) (opd_dep 3 35 0 rfl rfl rfl rfl) ?_
            refine VWalk.gtrF _ _ _ _ rfl (want_none rfl) (opd_dep 4 36 0 rfl rfl rfl rfl) (opd_const _) (by omega) ?_
            refine ⟨rfl, fun W14 hE14 => ?_⟩
            refine VFin.any fun v14_0 hv14_0 => ?_
            refine VFin.eq ?_  -- 1
            refine VFin.any fun v14_2 hv14_2 => ?_
            refine VFin.any fun v14_3 hv14_3 => ?_
            refine VFin.eq ?_  -- 4
            refine VFin.eq ?_  -- 5
            refine VFin.nil ?_
            simp only [Act.put, List.setIfInBounds_toArray, List.set_cons_zero, List.set_cons_succ]
            clear hv14_0 hv14_2 hv14_3
            have hP := VP.st _ _ _ _ hP hE14
            have hE := hE.tr hE14
            clear hEr
            go_upto_region 16 with (fail)
            refine vregion0 7 (by kernel_rfl) ?_
            refine VWalk.move _ rfl (want_none rfl) (opd_frame 5 rfl (by kernel_rfl)) ?_
            refine VWalk.move _ rfl (want_none rfl) (opd_fr 1 rfl hP (Ext.rf _) (by kernel_rfl)) ?_
            refine VWalk.move _ rfl (want_none rfl) (opd_frame 7 rfl (by kernel_rfl)) ?_
            refine VWalk.indexP 22 26 _ _ .i64 k rfl Try.underlying22 (by kernel_rfl) (want_none rfl) (opd_dep 1 39 1 rfl rfl rfl rfl) (opd_dep 2 40 0 rfl rfl rfl rfl) hlt ?_
            refine VWalk.loadP 26 _ rfl (want_none rfl) (opd_dep 3 41 0 rfl rfl rfl rfl) (fun _ => by kernel_rfl) ?_
            refine VWalk.lenB 26 5 _ rfl Try.underlying26 (want_none rfl) (opd_dep 4 42 0 rfl rfl rfl rfl) ?_
            refine VWalk.add64 _ _ _ _ rfl (want_none rfl) (opd_dep 0 38 5 rfl rfl rfl rfl) (opd_dep 5 43 0 rfl rfl rfl rfl) (by omega) ?_
            refine ⟨rfl, fun W16 hE16 => ?_⟩
            refine VFin.eq ?_  -- 0
            refine VFin.any fun v16_1 hv16_1 => ?_
            refine VFin.eq ?_  -- 2
            refine VFin.any fun v16_3 hv16_3 => ?_
            refine VFin.any fun v16_4 hv16_4 => ?_
            refine VFin.eq ?_  -- 5
            refine VFin.eq ?_  -- 6
            refine VFin.nil ?_
            simp only [Act.put, List.setIfInBounds_toArray, List.set_cons_zero, List.set_cons_succ]
            clear hv16_1 hv16_3 hv16_4
            have hP := VP.st _ _ _ _ hP hE16
            have hE := hE.tr hE16
            have HE2 : Hid (Below w.heap.size w W16) := hide hE
            clear hP
            go_wp2
            exact ⟨⟨k + 1, m + ws[k].length, by omega, by go_num, by go_num, hm2, HM2, HN2, HE2⟩, by simp [intOf]; omega⟩
        · obtain rfl : k = ws.length := by omega
          have hM := HM.out
          rw [List.take_length] at hM
          have HZ3 : Hid ((if 600 < ws.flatten.length then (54 : Int) else if 400 < nodesR fold ws then 55 else 0) = z) := by
            have := HZ2.out
            rw [if_neg (fun ⟨u, hu, e⟩ => by obtain ⟨i, hi, rfl⟩ := List.mem_iff_getElem.1 hu; have := HN.out i hi hi; omega)] at this
            exact this
          clear HZ2 HN HM
          by_cases h6 : 600 < m
          · have Hres : Hid (z = 54) := by
              have := HZ3.out
              rw [if_pos (by omega)] at this
              exact this.symm
            clear HZ3 hM hP
            go_wp2
            go_ret
            exact Ret.mk hEr (congrArg (Value.int .i64) Hres.out.symm)
          · have HZ4 : Hid ((if 400 < nodesR fold ws then (55 : Int) else 0) = z) := by
              have := HZ3.out
              rw [if_neg (by omega)] at this
              exact this
            have hnd := nodes_any fold ws _ _ hP (by omega)
            have hnl := nodesFrom_le fold ws [] 1
            change nodesR fold ws ≤ _ at hnl
            have hnb : nodesR fold ws ≤ 601 := by omega
            clear HZ3 hM hnl hP
            generalize nodesR fold ws = nd at *
            go_wp2_with fail
            refine hnd.mono ?_
            rintro e w2 ⟨u, rfl, hE2, rfl⟩
            have hEf := hEr.tr hE2
            clear hnd hEr hE2
            by_cases h7 : 400 < nd
            · have Hres : Hid (z = 55) := by
                have := HZ4.out
                rw [if_pos h7] at this
                exact this.symm
              go_wp2
              go_ret
              exact Ret.mk hEf (congrArg (Value.int .i64) Hres.out.symm)
            · have Hres : Hid (z = 0) := by
                have := HZ4.out
                rw [if_neg h7] at this
                exact this.symm
              go_wp2
              go_ret
              exact Ret.mk hEf (congrArg (Value.int .i64) Hres.out.symm)
end Go.Proofs.Ytfbamdkalamliaa
