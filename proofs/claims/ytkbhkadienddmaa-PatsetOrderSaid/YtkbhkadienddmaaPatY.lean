/- PatsetOrder, walked. -/
import Derived.Test.YtkbhkadienddmaaPatX
namespace Go.Proofs.Ytkbhkadienddmaa
open Go.RowKit Go.Shelf LetM SetM
theorem clampL (n : Nat) (i : Int) : ∃ k : Nat, k ≤ n ∧ (if (n : Int) < (if i < 0 then 0 else i) then (n : Int) else (if i < 0 then 0 else i)) = (k : Int) := by
  by_cases h1 : i < 0
  · exact ⟨0, by omega, by rw [if_pos h1, if_neg (by omega)]; rfl⟩
  by_cases h2 : (n : Int) < i
  · exact ⟨n, by omega, by rw [if_neg h1, if_pos h2]⟩
  · exact ⟨i.toNat, by omega, by rw [if_neg h1, if_neg h2]; omega⟩
set_option maxRecDepth 100000 in
set_option maxHeartbeats 8000000 in
theorem patsetOrder_any (fold : Bool) (ls : List (List UInt8)) (wd : List UInt8) (ii : Int) (vl vw : Value) (w : World) (hL : VParts ls vl w) (hW : VBytes wd vw w) : Calls Try.prog 5 #[.bool fold, vl, vw, .int .i64 ii] w (Ret w (VEq (.bool true))) := by
  have hwk := wakes_any
  have hg1 := fun W hv => great_any ls vl W hv
  unfold VGreat at hg1
  have hL0 := hL
  have hW0 := hW
  obtain ⟨i0, hi, hz0, hz1, hz2⟩ := info_parts Try.infoSl
  obtain ⟨A, c, rfl, hc1, hc2, -⟩ := VParts.form hL
  obtain ⟨D, d, rfl, hd1, hd2, -⟩ := VBytes.form hW
  unfold maxLen at hc2 hd2
  clear hL hW
  go_enter Try.func5, Try.ntmps5
  go_wp2_with fail
  refine (hg1 _ hL0).mono ?_
  rintro e w1 ⟨u, rfl, hE, rfl⟩
  obtain ⟨g1, hq1⟩ : ∃ g, greatB ls = g := ⟨_, rfl⟩
  rw [hq1]
  clear hg1
  cases g1
  case true =>
    clear hL0 hW0 hq1
    go_wp2_with fail
    refine (hwk _).mono ?_
    rintro e w3 ⟨u, rfl, hE3, rfl⟩
    go_wp2
    go_ret
    exact Ret.mk (hE.tr hE3) rfl
  by_cases hlen : wd.length ≤ 400
  case neg =>
    clear hL0 hW0 hq1
    go_wp2_with fail
    refine (hwk _).mono ?_
    rintro e w4 ⟨u, rfl, hE4, rfl⟩
    go_wp2
    go_ret
    exact Ret.mk (hE.tr hE4) rfl
  obtain ⟨l1, l2⟩ := greatB_false hq1
  clear hq1
  have hl := VP.st _ _ _ _ hL0 hE
  have hw := VP.st _ _ _ _ hW0 hE
  obtain ⟨q, hq, hqq⟩ := clampL ls.length ii
  obtain ⟨mi, hmi⟩ : ∃ m, (if ii < 0 then 0 else ii) = m := ⟨_, rfl⟩
  rw [hmi] at hqq
  have Hmi := hide hmi
  have Hqq := hide hqq
  clear hmi hqq hL0 hW0
  go_upto_region 3 with (fail)
  refine vregion0 5 (by kernel_rfl) ?_
  refine VWalk.move _ rfl (want_none rfl) (opd_frame 3 rfl (by kernel_rfl)) ?_
  refine VWalk.det2 (r := .int .i64 mi) (Operand.tmp 20) (Operand.const (Value.int IntKind.i64 0)) (want_none rfl) (opd_dep 0 20 0 rfl rfl rfl rfl) (opd_const _) (fun ρ w hE h1 h2 => by simp [h1, h2, go_sem]; exact Hmi.out) ?_
  refine VWalk.move _ rfl (want_none rfl) (opd_fr 1 rfl hl (Ext.rf _) (by kernel_rfl)) ?_
  refine VWalk.lenS 22 25 _ rfl Try.underlying22 (want_none rfl) (opd_dep 2 22 0 rfl rfl rfl rfl) ?_
  refine VWalk.det2 (r := .int .i64 (q : Int)) (Operand.tmp 21) (Operand.tmp 23) (want_none rfl) (opd_dep 1 21 2 rfl rfl rfl rfl) (opd_dep 3 23 0 rfl rfl rfl rfl) (fun ρ w hE h1 h2 => by simp [h1, h2, go_sem]; exact Hqq.out) ?_
  refine ⟨rfl, fun W3 hE3 => ?_⟩
  refine VFin.eq ?_  -- 0
  refine VFin.eq ?_  -- 1
  refine VFin.any fun v3_2 hv3_2 => ?_
  refine VFin.eq ?_  -- 3
  refine VFin.eq ?_  -- 4
  refine VFin.nil ?_
  simp only [Act.put, List.setIfInBounds_toArray, List.set_cons_zero, List.set_cons_succ]
  clear hv3_2
  have hl := VP.st _ _ _ _ hl hE3
  have hw := VP.st _ _ _ _ hw hE3
  have hE := hE.tr hE3
  have holds := olds_of hl (Nat.le_refl _)
  have hcutA := (VSl.cut (lo := 0) (hi := q) holds (Nat.zero_le _) (by rw [List.length_map]; exact hq)).2.2.2
  have hcutB := (VSl.cut (lo := q) (hi := ls.length) holds hq (by rw [List.length_map]; exact Nat.le_refl _)).2.2.2
  have hid : A.map (·.add 0) = A := by
    cases A with
    | none => rfl
    | some a => simp [Addr.add]
  rw [hid, List.drop_zero, Nat.sub_zero, Nat.sub_zero, ite_self, ← List.map_take] at hcutA
  rw [← List.map_take, List.take_length, ← List.map_drop] at hcutB
  have hwo := VOldB.of hw (Nat.le_refl _)
  have hlt : (ls.take q).length ≤ 80 := by rw [List.length_take]; omega
  clear holds hid
  go_upto_region 4 with (fail)
  refine vregionG 11 7 3 [1, 2, 3, 7, 8, 9, 10] rfl (by kernel_rfl) (by kernel_rfl) ?_
  refine VWalk.made 22 25 rfl Try.underlying22 (by kernel_rfl) (by kernel_rfl) (want_none rfl) ?_
  refine VWalk.move _ rfl (want_none rfl) (opd_frame 1 rfl (by kernel_rfl)) ?_
  refine VWalk.move _ rfl (want_none rfl) (opd_frame 3 rfl (by kernel_rfl)) ?_
  refine VWalk.cutToE 22 25 _ _ .i64 q rfl Try.underlying22 (by kernel_rfl) (want_none rfl) (opd_dep 1 26 1 rfl rfl rfl rfl) (opd_dep 2 27 0 rfl rfl rfl rfl) hq hc1 ?_
  refine VWalk.app0 (B := W3.heap.size) (ps := ls.take q) (w00 := W3) _ _ 22 25 i0 (.slice none 0 0) 24 rfl Try.underlying22 hi hz0 hz1 hz2 rfl (want_none rfl) (opd_dep 0 25 3 rfl rfl rfl rfl) (opd_dep 3 28 0 rfl rfl rfl rfl) hcutA (ext_drew _) rfl (by omega) ?_
  refine VWalk.move _ rfl (want_none rfl) (opd_fr 2 rfl hwo (ext_drew _) (by kernel_rfl)) ?_
  refine VWalk.lit (Fs := [_]) [Operand.tmp 30] 22 25 1 _ rfl rfl (by decide) (by decide) rfl Try.underlying22 (by kernel_rfl) (by kernel_rfl) ⟨oneCell_old _ _, trivial⟩ (want_none rfl) ⟨(opd_dep 5 30 0 rfl rfl rfl rfl), trivial⟩ ?_
  refine GStep.app1 _ _ 22 25 i0 (.slice none 0 0) 24 rfl rfl Try.underlying22 hi hz0 hz1 hz2 rfl (opd_dep 4 29 2 rfl rfl rfl rfl) (opd_dep 6 31 0 rfl rfl rfl rfl) rfl (by omega) ?_
  refine VWalk.move _ rfl (want_none rfl) (opd_frame 1 rfl (by kernel_rfl)) ?_
  refine VWalk.move _ rfl (want_none rfl) (opd_frame 3 rfl (by kernel_rfl)) ?_
  refine VWalk.cutFromE 22 25 _ _ .i64 q rfl Try.underlying22 (by kernel_rfl) (want_none rfl) (opd_dep 8 33 1 rfl rfl rfl rfl) (opd_dep 9 34 0 rfl rfl rfl rfl) hq ?_
  refine ⟨rfl, ⟨.inl (by kernel_rfl), .inr ⟨_, rfl⟩, .inr ⟨_, rfl⟩, .inr ⟨_, rfl⟩, .inl (by kernel_rfl), .inl (by kernel_rfl), .inl (by kernel_rfl), .inl (by kernel_rfl), .inr ⟨_, rfl⟩, .inr ⟨_, rfl⟩, .inr ⟨_, rfl⟩, trivial⟩, fun W4 hE4 => ?_⟩
  refine VFin.any fun v4_0 _ => ?_
  refine VFin.eq ?_
  refine VFin.eq ?_
  refine VFin.eq ?_
  refine VFin.any fun v4_4 _ => ?_
  refine VFin.any fun v4_5 _ => ?_
  refine VFin.any fun v4_6 _ => ?_
  refine VFin.any fun v4_7 hv4_7 => ?_
  refine VFin.eq ?_
  refine VFin.eq ?_
  refine VFin.eq ?_
  refine VFin.nil ?_
  simp only [Act.put, List.setIfInBounds_toArray, List.set_cons_zero, List.set_cons_succ]
  generalize (if c = q then A else A.map (·.add q)) = Aq at *
  have hv7 : VRowP W3.heap.size 25 (ls.take q ++ [wd]) v4_7 W4 := hv4_7
  obtain ⟨xs, ho1, ho2, ho3, -⟩ := hv7
  have hX4 : Ext W3 W4 := (ext_drew W3).tr hE4
  obtain ⟨ys, hsrc, hyl, hyv⟩ := Src.olds (VP.st _ _ _ _ hcutB hX4)
  have hdl : (ls.drop q).length ≤ 80 := by rw [List.length_drop]; omega
  have htl : (ls.take q ++ [wd]).length ≤ 81 := by simp; omega
  clear hv4_7 hcutA hcutB hwo hlt
  refine wpList_append_src rfl _ _ 22 rfl W3.heap.size 25 i0 (.slice none 0 0) 1 24 Try.underlying22 hi hz0 hz1 hz2 rfl (by omega) v4_7 _ (ls.take q ++ [wd]).length (ls.drop q).length xs ys rfl ho1 (by omega) rfl hsrc (fun y hy => by
    obtain ⟨j, hj, rfl⟩ := List.getElem_of_mem hy
    exact VBytes.cell1 (hyv j hj (by omega)).1) (by omega) hX4.size ?_
  intro v5 w5 hown hgrow hat
  have hge := fun k => own_ge ho1 k
  have hp := row_parts (ps := (ls.take q ++ [wd]) ++ ls.drop q) (by rw [List.length_append]; exact hown) (by rw [List.length_append, List.length_append, ho2, hyl]) (fun i h1 h2 => by
    by_cases hi2 : i < xs.length
    · have hi3 : i < (ls.take q ++ [wd]).length := by omega
      have e1 : (xs ++ ys)[i] = xs[i] := List.getElem_append_left hi2
      have e2 : ((ls.take q ++ [wd]) ++ ls.drop q)[i] = (ls.take q ++ [wd])[i] := List.getElem_append_left hi3
      rw [e1, e2]
      exact (VOldB.keep (ho3 i hi2 hi3) hX4.size hgrow (fun k hk => hge k hk)).1
    · have hi3 : (ls.take q ++ [wd]).length ≤ i := by omega
      have hy1 : i - (ls.take q ++ [wd]).length < ys.length := by rw [List.length_append] at h1; omega
      have hy2 : i - (ls.take q ++ [wd]).length < (ls.drop q).length := by omega
      have e1 : (xs ++ ys)[i] = ys[i - (ls.take q ++ [wd]).length] := by rw [List.getElem_append_right (by omega)]; simp only [ho2]
      have e2 : ((ls.take q ++ [wd]) ++ ls.drop q)[i] = (ls.drop q)[i - (ls.take q ++ [wd]).length] := List.getElem_append_right hi3
      rw [e1, e2]
      exact (VOldB.keep (hyv _ hy1 hy2) hX4.size hgrow (fun k hk => hge k hk)).1)
  have hEX := hE.tr hX4
  have hE5 : Ext w w5 := hEX.grown hgrow hEX.size (fun j hj => by have := hge j hj; have := hE.size; omega)
  have hl5 : VParts ls _ w5 := VP.st _ _ _ _ hl (hX4.grown hgrow hX4.size (fun j hj => hge j hj))
  have hcs := order_cases fold (ls.take q) (ls.drop q) wd
  rw [List.take_append_drop] at hcs
  obtain ⟨ms, hms⟩ : ∃ ms, ls.take q ++ wd :: ls.drop q = ms := ⟨_, rfl⟩
  have hml : ms.length = ls.length + 1 := by rw [← hms]; simp; omega
  have hmf : ms.flatten.length ≤ 1000000 := by
    have h1 : (ls.take q).flatten.length + (ls.drop q).flatten.length = ls.flatten.length := by
      conv => rhs; rw [← List.take_append_drop q ls, List.flatten_append, List.length_append]
    rw [← hms, List.flatten_append, List.flatten_cons, List.length_append, List.length_append]
    omega
  rw [show (ls.take q ++ [wd]) ++ ls.drop q = ms by rw [← hms]; simp] at hp
  rw [hms] at hcs
  have hk1 := fun W hv => pcheck_any fold ls (.slice A ls.length c) W hv (by omega) (by omega)
  have hk2 := fun v W hv => pcheck_any fold ms v W hv hmf (by omega)
  have hnd := fun v W hv => pnodes_any fold ms v W hv hmf
  obtain ⟨nd, hndq⟩ : ∃ n, nodesR fold ms = n := ⟨_, rfl⟩
  obtain ⟨e1, he1⟩ : ∃ n, checkR fold ls = n := ⟨_, rfl⟩
  obtain ⟨f1, hf1⟩ : ∃ n, checkR fold ms = n := ⟨_, rfl⟩
  rw [hndq] at hnd hcs
  rw [he1] at hk1 hcs
  rw [hf1] at hk2 hcs
  obtain ⟨A5, c5, rfl, -⟩ := VParts.form hp
  have HE5 := hide hE5
  have hmb : (ls.length : Int) + 1 = (ms.length : Int) := by omega
  have Hmb := hide hmb
  have hml1 : ms.length ≤ ls.length + 1 := by omega
  have hml2 : ls.length + 1 ≤ ms.length := by omega
  clear hms hml hndq he1 hf1 hown hgrow hat hge ho1 ho2 ho3 hsrc hyl hyv hX4 hEX hE5 hE hE4 hl hw Hmi Hqq hmb hdl htl
  go_wp2_with fail
  refine (hk1 _ hl5).mono ?_
  rintro e w6 ⟨u, rfl, hE6, rfl⟩
  have hp := VP.st _ _ _ _ hp hE6
  clear hk1 hl5
  go_wp2_with fail
  refine (hk2 _ _ hp).mono ?_
  rintro e w7 ⟨u, rfl, hE7, rfl⟩
  have hp := VP.st _ _ _ _ hp hE7
  have hE := (HE5.out.tr hE6).tr hE7
  clear hk2 hE6 hE7 HE5
  go_upto_region 6 with (fail)
  unfold OrderC at hcs
  rcases hcs with ⟨h1, rfl⟩ | ⟨h1, rfl, h2, rfl⟩ | ⟨h1, rfl, h2, h3⟩ | ⟨h1, h2, h3, rfl⟩ | ⟨h1, h2, h3, rfl, rfl⟩ | ⟨h1, h2, h3, h4, h5, rfl⟩ | ⟨h1, h2, h3, h4, rfl, rfl⟩ | ⟨h1, h2, h3, h4, rfl, rfl⟩ | ⟨h1, h2, h3, h4, rfl, (rfl | rfl)⟩ | ⟨h1, h2, h3, h4, rfl, (rfl | rfl | ⟨rfl, h5⟩)⟩
  · clear hnd hp
    go_wp2_with fail
    refine (hwk _).mono ?_
    rintro e w9 ⟨u, rfl, hE9, rfl⟩
    go_wp2
    go_ret
    exact Ret.mk (hE.tr hE9) rfl
  · clear hnd hp
    go_wp2_with fail
    refine (hwk _).mono ?_
    rintro e w9 ⟨u, rfl, hE9, rfl⟩
    go_wp2
    go_ret
    exact Ret.mk (hE.tr hE9) rfl
  · have hwd : ¬((wd.length : Int) = 0) := by omega
    have hwe : ¬ wd = [] := fun h => by rw [h] at hwd; simp at hwd
    have hwf : wd.isEmpty = false := by cases wd <;> simp_all
    have hwg : ((wd.length : Int) == 0) = false := by rw [beq_eq_false_iff_ne]; omega
    have hwh : (wd == []) = false := by rw [beq_eq_false_iff_ne]; exact hwe
    have h3a : (f1 == 52) = false := by rw [beq_eq_false_iff_ne]; exact h3
    have h3b : (f1 != 52) = true := by rw [bne_iff_ne]; exact h3
    clear hnd hp h3
    go_wp2_with fail
    refine (hwk _).mono ?_
    rintro e w9 ⟨u, rfl, hE9, rfl⟩
    go_wp2
    go_ret
    exact Ret.mk (hE.tr hE9) rfl
  · have hls : ¬((ls.length : Int) = 0) := by omega
    clear hnd hp
    go_wp2_with fail
    refine (hwk _).mono ?_
    rintro e w9 ⟨u, rfl, hE9, rfl⟩
    go_wp2
    go_ret
    exact Ret.mk (hE.tr hE9) rfl
  · have hls : ¬((ls.length : Int) = 0) := by omega
    have hwd : ¬((wd.length : Int) = 0) := by omega
    have hwe : ¬ wd = [] := fun h => by rw [h] at hwd; simp at hwd
    have hwf : wd.isEmpty = false := by cases wd <;> simp_all
    have hwg : ((wd.length : Int) == 0) = false := by rw [beq_eq_false_iff_ne]; omega
    have hwh : (wd == []) = false := by rw [beq_eq_false_iff_ne]; exact hwe
    clear hnd hp
    go_wp2_with fail
    refine (hwk _).mono ?_
    rintro e w9 ⟨u, rfl, hE9, rfl⟩
    go_wp2
    go_ret
    exact Ret.mk (hE.tr hE9) rfl
  · have hls : ¬((ls.length : Int) = 0) := by omega
    have hwd : ¬((wd.length : Int) = 0) := by omega
    have hwe : ¬ wd = [] := fun h => by rw [h] at hwd; simp at hwd
    have hwf : wd.isEmpty = false := by cases wd <;> simp_all
    have hwg : ((wd.length : Int) == 0) = false := by rw [beq_eq_false_iff_ne]; omega
    have hwh : (wd == []) = false := by rw [beq_eq_false_iff_ne]; exact hwe
    have h3a : (e1 == 52) = false := by rw [beq_eq_false_iff_ne]; exact h4
    have h3b : (e1 != 52) = true := by rw [bne_iff_ne]; exact h4
    clear hnd hp h4
    go_wp2_with fail
    refine (hwk _).mono ?_
    rintro e w9 ⟨u, rfl, hE9, rfl⟩
    go_wp2
    go_ret
    exact Ret.mk (hE.tr hE9) rfl
  · have hls : ¬((ls.length : Int) = 0) := by omega
    have hwd : ¬((wd.length : Int) = 0) := by omega
    have hwe : ¬ wd = [] := fun h => by rw [h] at hwd; simp at hwd
    have hwf : wd.isEmpty = false := by cases wd <;> simp_all
    have hwg : ((wd.length : Int) == 0) = false := by rw [beq_eq_false_iff_ne]; omega
    have hwh : (wd == []) = false := by rw [beq_eq_false_iff_ne]; exact hwe
    clear hnd hp
    go_wp2_with fail
    refine (hwk _).mono ?_
    rintro e w9 ⟨u, rfl, hE9, rfl⟩
    go_wp2
    go_ret
    exact Ret.mk (hE.tr hE9) rfl
  · have hls : ¬((ls.length : Int) = 0) := by omega
    have hwd : ¬((wd.length : Int) = 0) := by omega
    have hwe : ¬ wd = [] := fun h => by rw [h] at hwd; simp at hwd
    have hwf : wd.isEmpty = false := by cases wd <;> simp_all
    have hwg : ((wd.length : Int) == 0) = false := by rw [beq_eq_false_iff_ne]; omega
    have hwh : (wd == []) = false := by rw [beq_eq_false_iff_ne]; exact hwe
    clear hnd hp
    go_wp2_with fail
    refine (hwk _).mono ?_
    rintro e w9 ⟨u, rfl, hE9, rfl⟩
    go_wp2
    go_ret
    exact Ret.mk (hE.tr hE9) rfl
  · have hls : ¬((ls.length : Int) = 0) := by omega
    have hwd : ¬((wd.length : Int) = 0) := by omega
    have hwe : ¬ wd = [] := fun h => by rw [h] at hwd; simp at hwd
    have hwf : wd.isEmpty = false := by cases wd <;> simp_all
    have hwg : ((wd.length : Int) == 0) = false := by rw [beq_eq_false_iff_ne]; omega
    have hwh : (wd == []) = false := by rw [beq_eq_false_iff_ne]; exact hwe
    clear hnd hp
    go_wp2_with fail
    refine (hwk _).mono ?_
    rintro e w9 ⟨u, rfl, hE9, rfl⟩
    go_wp2
    go_ret
    exact Ret.mk (hE.tr hE9) rfl
  · have hls : ¬((ls.length : Int) = 0) := by omega
    have hwd : ¬((wd.length : Int) = 0) := by omega
    have hwe : ¬ wd = [] := fun h => by rw [h] at hwd; simp at hwd
    have hwf : wd.isEmpty = false := by cases wd <;> simp_all
    have hwg : ((wd.length : Int) == 0) = false := by rw [beq_eq_false_iff_ne]; omega
    have hwh : (wd == []) = false := by rw [beq_eq_false_iff_ne]; exact hwe
    clear hnd hp
    go_wp2_with fail
    refine (hwk _).mono ?_
    rintro e w9 ⟨u, rfl, hE9, rfl⟩
    go_wp2
    go_ret
    exact Ret.mk (hE.tr hE9) rfl
  · have hls : ¬((ls.length : Int) = 0) := by omega
    have hwd : ¬((wd.length : Int) = 0) := by omega
    have hwe : ¬ wd = [] := fun h => by rw [h] at hwd; simp at hwd
    have hwf : wd.isEmpty = false := by cases wd <;> simp_all
    have hwg : ((wd.length : Int) == 0) = false := by rw [beq_eq_false_iff_ne]; omega
    have hwh : (wd == []) = false := by rw [beq_eq_false_iff_ne]; exact hwe
    clear hnd hp
    go_wp2_with fail
    refine (hwk _).mono ?_
    rintro e w9 ⟨u, rfl, hE9, rfl⟩
    go_wp2
    go_ret
    exact Ret.mk (hE.tr hE9) rfl
  · have hls : ¬((ls.length : Int) = 0) := by omega
    have hwd : ¬((wd.length : Int) = 0) := by omega
    have hwe : ¬ wd = [] := fun h => by rw [h] at hwd; simp at hwd
    have hwf : wd.isEmpty = false := by cases wd <;> simp_all
    have hwg : ((wd.length : Int) == 0) = false := by rw [beq_eq_false_iff_ne]; omega
    have hwh : (wd == []) = false := by rw [beq_eq_false_iff_ne]; exact hwe
    clear hnd hp
    go_wp2_with fail
    refine (hwk _).mono ?_
    rintro e w9 ⟨u, rfl, hE9, rfl⟩
    go_wp2
    go_ret
    exact Ret.mk (hE.tr hE9) rfl
  · have hwd : ¬((wd.length : Int) = 0) := by omega
    have hwe : ¬ wd = [] := fun h => by rw [h] at hwd; simp at hwd
    have hwf : wd.isEmpty = false := by cases wd <;> simp_all
    have hwg : ((wd.length : Int) == 0) = false := by rw [beq_eq_false_iff_ne]; omega
    have hwh : (wd == []) = false := by rw [beq_eq_false_iff_ne]; exact hwe
    have hls : ¬((ls.length : Int) = 0) := by omega
    go_wp2_with fail
    refine (hnd _ _ hp).mono ?_
    rintro e w8 ⟨u, rfl, hE8, rfl⟩
    have hE := hE.tr hE8
    clear hnd hp hE8
    go_wp2_with fail
    refine (hwk _).mono ?_
    rintro e w9 ⟨u, rfl, hE9, rfl⟩
    go_wp2
    go_ret
    exact Ret.mk (hE.tr hE9) rfl
end Go.Proofs.Ytkbhkadienddmaa
