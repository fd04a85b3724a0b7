/- LinesNext, walked. -/
import Derived.Test.YtdaghnnmbilgfaaLinN
namespace Go.Proofs.Ytdaghnnmbilgfaa
open Go.RowKit Go.Shelf LinM
set_option maxRecDepth 100000 in
set_option maxHeartbeats 4000000 in
theorem linesNext_any (bs : List UInt8) (v : Value) (w : World) (hB : VBytes bs v w) : Calls Try.prog 3 #[v] w (Ret w (VEq (.bool true))) := by
  have hwk := wakes_any
  have hB0 := hB
  obtain ⟨A, c, rfl, hc1, hc2, hx⟩ := VBytes.form hB
  unfold maxLen at hc2
  clear hB
  go_enter Try.func3, Try.ntmps3
  by_cases hl : (300 : Int) < bs.length
  · clear hx hB0
    go_wp2_with fail
    refine (hwk _).mono ?_
    rintro e w1 ⟨u, rfl, hE1, rfl⟩
    go_wp2
    go_ret
    exact Ret.mk hE1 rfl
  have hlen : bs.length ≤ 300 := by omega
  have hb3 := Box.new w 25 #[.int .i64 0, .int .i64 0, .int .i64 0]
  go_wp2
  go_loopw [4, 5] (fun l i wr => ∃ (k : Nat) (q : Cnt), k ≤ bs.length ∧ i = .int .i64 (k : Int) ∧ l = .int .i64 q.2.1 ∧ Hid (countC (0, 0, 0) (bs.take k) = q) ∧ Hid (Box wr w.heap.size 25 (cntA q)) ∧ Hid (Below w.heap.size w wr)) (fun _ i _ => bs.length - (intOf i).toNat)
  case atStart => exact ⟨0, (0, 0, 0), by omega, rfl, rfl, rfl, hb3, ext_alloc _ _⟩
  case round =>
    clear hb3
    obtain ⟨k, q, hk, rfl, rfl, Hq, HC, HX⟩ := hrel
    by_cases hlt : k < bs.length
    · obtain ⟨b, off, rfl, hb, hcell⟩ := hx (by omega)
      have hE : Ext w wr := HX.out
      have hx3 := hcell k hlt
      clear hcell hx
      have hr0 : rightC q = true := by rw [← Hq.out]; exact countC_right _ _ (by decide) (by rw [List.length_take]; show (0 : Int) + _ ≤ _; omega)
      have hq1 : q.1 = (k : Int) := by rw [← Hq.out, countC_at, List.length_take]; show (0 : Int) + _ = _; omega
      have Hq2 : Hid (countC (0, 0, 0) (bs.take (k + 1)) = stepC q bs[k]) := by show _ = _; rw [take_snoc bs k hlt, countC_snoc, Hq.out]
      have hr2 : rightC (stepC q bs[k]) = true := stepC_right q _ hr0 (by omega)
      have hri := (rightC_iff q).1 hr0
      have hof := of_any bs k _ wr (VP.st _ _ _ _ hB0 hE) (by omega)
      have hnq : nextC q = (q.2.1 + 1, q.2.2 + 1) := by unfold nextC; rw [hr0]; rfl
      have hofc : ofC bs (k : Int) = ((q.2.1 + 1, q.2.2 + 1), true) := by unfold ofC; rw [if_neg (by omega), Int.toNat_natCast, Hq.out, hnq]
      rw [hofc] at hof
      dsimp only at hof
      unfold plcV at hof
      obtain ⟨a, l, s⟩ := q
      dsimp only at *
      go_wp2_with fail
      refine hof.mono ?_
      rintro e w2 ⟨u, rfl, hE2, hu⟩
      obtain ⟨_, _, rfl, rfl, rfl⟩ := VTup.inv2 hu
      clear hof hu
      have hX2 : Ext w2 (w2.alloc (.cells #[.int .i64 (l + 1), .int .i64 (s + 1)] 27)) := ext_alloc _ _
      have hbp := Box.new w2 27 #[.int .i64 (l + 1), .int .i64 (s + 1)]
      have hbc := (HC.out.ext hE2).ext hX2
      have hE := (hE.tr hE2).tr hX2
      have hB := VP.st _ _ _ _ hB0 hE
      have hnn := fun W => next_any (a, l, s) W
      rw [hnq] at hnn
      clear hX2 hE2 hofc
      go_upto_region 9 with (fail)
      refine vregion 15 [] (by kernel_rfl) (by kernel_rfl) (fun _ _ _ _ _ h => h) ?_
      refine VWalk.move _ rfl (want_none rfl) (opd_frame 7 rfl (by kernel_rfl)) ?_
      refine VWalk.notB _ _ rfl (want_none rfl) (opd_dep 0 28 0 rfl rfl rfl rfl) rfl ?_
      refine VWalk.move _ rfl (want_none rfl) (opd_dep 1 29 0 rfl rfl rfl rfl) ?_
      refine VWalk.loadBox 27 _ rfl (want_ff 2 30 0 rfl (by kernel_rfl) rfl rfl rfl rfl) (opd_frame 6 rfl (by kernel_rfl)) Try.underlying27 rfl (by kernel_rfl) hbp (ext_drew _) ?_
      refine VWalk.head (G := VEq (plcV (l + 1, s + 1))) rfl ?_
      refine VWalk.loadBox 25 _ rfl (want_ff 2 30 1 rfl (by kernel_rfl) rfl rfl rfl rfl) (opd_frame 3 rfl (by kernel_rfl)) Try.underlying25 rfl (by kernel_rfl) hbc (ext_drew _) ?_
      refine VWalk.head (G := VEq (cntV (a, l, s))) rfl ?_
      refine VWalk.call1 8 _ _ rfl (enters_of Try.func8 (by kernel_rfl) rfl) (want_ff 2 30 2 rfl (by kernel_rfl) rfl rfl rfl rfl) (opd_dep 4 32 0 rfl rfl rfl rfl) (fun u W hX hu => by rw [show u = _ from hu]; exact hnn W) ?_
      refine VWalk.neS _ _ _ _ rfl rfl (want_ff 2 30 3 rfl (by kernel_rfl) rfl rfl rfl rfl) (opd_dep 3 31 2 rfl rfl rfl rfl) (opd_dep 5 33 0 rfl rfl rfl rfl) rfl ?_
      refine VWalk.pickF _ _ _ rfl (want_none rfl) (opd_dep 2 30 4 rfl rfl rfl rfl) (opd_dep 6 34 0 rfl rfl rfl rfl) ?_
      refine VWalk.move _ rfl (want_none rfl) (opd_dep 7 35 0 rfl rfl rfl rfl) ?_
      refine VWalk.det1 (r := .pointer (some ⟨w2.heap.size, 0, none⟩)) (Operand.tmp 6) (want_ff 8 36 0 rfl (by kernel_rfl) rfl rfl rfl rfl) (opd_frame 6 rfl (by kernel_rfl)) (fun ρ w hE h1 => by simp [execOp, h1, go_sem]) ?_
      refine VWalk.load1 3 _ rfl (want_ff 8 36 1 rfl (by kernel_rfl) rfl rfl rfl rfl) (opd_dep 9 37 0 rfl rfl rfl rfl) (fun _ => by kernel_rfl) (hbp.at_ 0 rfl) (ext_drew _) ?_
      refine VWalk.move _ rfl (want_ff 8 36 2 rfl (by kernel_rfl) rfl rfl rfl rfl) (opd_frame 4 rfl (by kernel_rfl)) ?_
      refine VWalk.add64 _ _ _ _ rfl (want_ff 8 36 3 rfl (by kernel_rfl) rfl rfl rfl rfl) (opd_dep 11 39 0 rfl rfl rfl rfl) (opd_const _) (by omega) ?_
      refine VWalk.neT _ _ _ _ rfl (want_ff 8 36 4 rfl (by kernel_rfl) rfl rfl rfl rfl) (opd_dep 10 38 2 rfl rfl rfl rfl) (opd_dep 12 40 0 rfl rfl rfl rfl) rfl ?_
      refine VWalk.pickF _ _ _ rfl (want_none rfl) (opd_dep 8 36 5 rfl rfl rfl rfl) (opd_dep 13 41 0 rfl rfl rfl rfl) ?_
      refine ⟨rfl, fun W9 hE9 => ?_⟩
      refine VFin.eq ?_  -- 0
      refine VFin.eq ?_  -- 1
      refine VFin.eq ?_  -- 2
      refine VFin.eq ?_  -- 3
      refine VFin.eq ?_  -- 4
      refine VFin.eq ?_  -- 5
      refine VFin.eq ?_  -- 6
      refine VFin.eq ?_  -- 7
      refine VFin.eq ?_  -- 8
      refine VFin.eq ?_  -- 9
      refine VFin.eq ?_  -- 10
      refine VFin.eq ?_  -- 11
      refine VFin.eq ?_  -- 12
      refine VFin.eq ?_  -- 13
      refine VFin.eq ?_  -- 14
      refine VFin.nil ?_
      simp only [Act.put, List.setIfInBounds_toArray, List.set_cons_zero, List.set_cons_succ]
      have hB := VP.st _ _ _ _ hB ((ext_drew _).tr hE9)
      have hbc := hbc.drew.ext hE9
      have hbp := hbp.drew.ext hE9
      have hE := hE.tr ((ext_drew _).tr hE9)
      have ha : a = (k : Int) := hq1
      have hl2 : stepC (a, l, s) bs[k] = ((k : Int) + 1, (stepC (a, l, s) bs[k]).2.1, (stepC (a, l, s) bs[k]).2.2) := by unfold stepC; split <;> (rw [ha])
      have hll : (stepC (a, l, s) bs[k]).2.1 = if (bs[k].toNat : Int) = 10 then l + 1 else l := by
        unfold stepC
        by_cases h : bs[k].toNat = 10
        · rw [if_pos h, if_pos (by omega)]
        · rw [if_neg h, if_neg (by omega)]
      have hcut : (bs.take (k + 1)).drop k = [bs[k]] := by rw [take_snoc bs k hlt]; have : (bs.take k).length = k := by { simp; omega }
                                                           conv => lhs; arg 1; rw [← this]
                                                           rw [List.drop_append_of_le_length (Nat.le_refl _), List.drop_length]; rfl
      have hfd : ∀ v W, VSl [VBytes [bs[k]]] v W → Calls Try.prog 9 #[cntV (a, l, s), v] W (Ret W (VTup [VEq (cntV (stepC (a, l, s) bs[k])), VEq (.int .i64 0)])) := fun v W hv => by
        have := feed_any (a, l, s) [[bs[k]]] v W hv
        rw [show [[bs[k]]].flatten = [bs[k]] from rfl, feedC_yes _ hr0 (by show a + ((1 : Nat) : Int) ≤ _; omega)] at this
        exact this
      rw [hl2] at Hq2 hr2 hfd
      clear hl2
      generalize (stepC (a, l, s) bs[k]).2.1 = l2 at *
      generalize (stepC (a, l, s) bs[k]).2.2 = s2 at *
      have Hll := hide hll
      clear hll
      have hkk : (k : Int) + 1 = ((k + 1 : Nat) : Int) := by omega
      go_upto_region 11 with (fail)
      refine vregion 12 [10] (by kernel_rfl) (by kernel_rfl) (fun _ _ _ _ _ h => h) ?_
      refine VWalk.loadBox 25 _ rfl (want_none rfl) (opd_frame 3 rfl (by kernel_rfl)) Try.underlying25 rfl (by kernel_rfl) hbc (ext_drew _) ?_
      refine VWalk.head (G := VEq (cntV (a, l, s))) rfl ?_
      refine VWalk.move _ rfl (want_none rfl) (opd_fr 0 rfl hB (ext_drew _) (by kernel_rfl)) ?_
      refine VWalk.move _ rfl (want_none rfl) (opd_frame 5 rfl (by kernel_rfl)) ?_
      refine VWalk.move _ rfl (want_none rfl) (opd_frame 5 rfl (by kernel_rfl)) ?_
      refine VWalk.add64 _ _ _ _ rfl (want_none rfl) (opd_dep 3 47 0 rfl rfl rfl rfl) (opd_const _) (by omega) ?_
      rw [hkk]
      refine VWalk.cut2B 22 5 _ _ _ .i64 .i64 k (k + 1) rfl Try.underlying22 (by kernel_rfl) (want_none rfl) (opd_dep 1 45 3 rfl rfl rfl rfl) (opd_dep 2 46 2 rfl rfl rfl rfl) (opd_dep 4 48 0 rfl rfl rfl rfl) (by omega) (by omega) ?_
      refine VWalk.head (G := VBytes [bs[k]]) (by rw [hcut]) ?_
      refine VWalk.lit (Fs := [_]) [Operand.tmp 49] 37 22 1 _ rfl rfl (by decide) (by decide) rfl Try.underlying37 (by kernel_rfl) (by kernel_rfl) ⟨oneCell_sl _, trivial⟩ (want_none rfl) ⟨(opd_dep 5 49 0 rfl rfl rfl rfl), trivial⟩ ?_
      refine VWalk.call2 9 _ _ _ rfl (enters_of Try.func9 (by kernel_rfl) rfl) (want_none rfl) (opd_dep 0 44 6 rfl rfl rfl rfl) (opd_dep 6 50 0 rfl rfl rfl rfl) (fun u v W hX hu hv => by rw [show u = _ from hu]; exact hfd v W hv) ?_
      refine VWalk.move _ rfl (want_none rfl) (opd_dep 7 51 0 rfl rfl rfl rfl) ?_
      refine VWalk.extract _ 0 rfl rfl (want_none rfl) (opd_dep 8 43 0 rfl rfl rfl rfl) ?_
      refine VWalk.extract _ 1 rfl rfl (want_none rfl) (opd_dep 8 43 1 rfl rfl rfl rfl) ?_
      refine VWalk.alloc (z := (.agg #[.int .i64 0, .int .i64 0, .int .i64 0])) 25 rfl (want_none rfl) (by kernel_rfl) (by kernel_rfl) ?_
      refine ⟨rfl, fun W11 hE11 => ?_⟩
      refine VFin.eq ?_  -- 0
      refine VFin.any fun v11_1 hv11_1 => ?_
      refine VFin.eq ?_  -- 2
      refine VFin.eq ?_  -- 3
      refine VFin.eq ?_  -- 4
      refine VFin.any fun v11_5 hv11_5 => ?_
      refine VFin.any fun v11_6 hv11_6 => ?_
      refine VFin.any fun v11_7 hv11_7 => ?_
      refine VFin.any fun v11_8 hv11_8 => ?_
      refine VFin.eq ?_  -- 9
      refine VFin.eq ?_  -- 10
      refine VFin.any fun v11_11 hv11_11 => ?_
      refine VFin.nil ?_
      simp only [Act.put, List.setIfInBounds_toArray, List.set_cons_zero, List.set_cons_succ]
      clear hv11_1 hv11_5 hv11_6 hv11_7 hv11_8
      obtain ⟨g11, rfl, hg, hb, -⟩ := hv11_11
      refine wpList_store_new rfl _ _ _ rfl rfl g11 _ rfl rfl _ _ hb (by kernel_rfl) rfl rfl ?_
      intro V11 hB11 _ hX
      have hE11 := hX _ hE11 hg
      clear hX hb hg
      have hB := VP.st _ _ _ _ hB ((ext_drew _).tr hE11)
      have hbc := hbc.drew.ext hE11
      have hbp := hbp.drew.ext hE11
      have hE := hE.tr ((ext_drew _).tr hE11)
      have hb11 : Box V11 g11 25 #[.int .i64 ((k : Int) + 1), .int .i64 l2, .int .i64 s2] := hB11
      have hrt : ∀ W, Calls Try.prog 10 #[cntV ((k : Int) + 1, l2, s2)] W (Ret W (VEq (.bool true))) := fun W => by have := right_any ((k : Int) + 1, l2, s2) W; rwa [hr2] at this
      clear hfd hnn hcut hr0 hnq hB11
      go_upto_region 12 with (fail)
      refine vregion0 14 (by kernel_rfl) ?_
      refine VWalk.move _ rfl (want_none rfl) (opd_frame 9 rfl (by kernel_rfl)) ?_
      refine VWalk.neT _ _ _ _ rfl (want_none rfl) (opd_dep 0 54 0 rfl rfl rfl rfl) (opd_const _) rfl ?_
      refine VWalk.move _ rfl (want_none rfl) (opd_dep 1 55 0 rfl rfl rfl rfl) ?_
      refine VWalk.loadBox 25 _ rfl (want_ff 2 56 0 rfl (by kernel_rfl) rfl rfl rfl rfl) (opd_frame 8 rfl (by kernel_rfl)) Try.underlying25 rfl (by kernel_rfl) hb11 (Ext.rf _) ?_
      refine VWalk.head (G := VEq (cntV ((k : Int) + 1, l2, s2))) rfl ?_
      refine VWalk.call1 10 _ _ rfl (enters_of Try.func10 (by kernel_rfl) rfl) (want_ff 2 56 1 rfl (by kernel_rfl) rfl rfl rfl rfl) (opd_dep 3 57 0 rfl rfl rfl rfl) (fun u W hX hu => by rw [show u = _ from hu]; exact hrt W) ?_
      refine VWalk.headT (by decide) ?_
      refine VWalk.notB _ _ rfl (want_ff 2 56 2 rfl (by kernel_rfl) rfl rfl rfl rfl) (opd_dep 4 58 0 rfl rfl rfl rfl) rfl ?_
      refine VWalk.pickF _ _ _ rfl (want_none rfl) (opd_dep 2 56 3 rfl rfl rfl rfl) (opd_dep 5 59 0 rfl rfl rfl rfl) ?_
      refine VWalk.move _ rfl (want_none rfl) (opd_dep 6 60 0 rfl rfl rfl rfl) ?_
      refine VWalk.det1 (r := .pointer (some ⟨g11, 0, none⟩)) (Operand.tmp 8) (want_ff 7 61 0 rfl (by kernel_rfl) rfl rfl rfl rfl) (opd_frame 8 rfl (by kernel_rfl)) (fun ρ w hE h1 => by simp [execOp, h1, go_sem]) ?_
      refine VWalk.load1 3 _ rfl (want_ff 7 61 1 rfl (by kernel_rfl) rfl rfl rfl rfl) (opd_dep 8 62 0 rfl rfl rfl rfl) (fun _ => by kernel_rfl) (hb11.at_ 0 rfl) (Ext.rf _) ?_
      refine VWalk.move _ rfl (want_ff 7 61 2 rfl (by kernel_rfl) rfl rfl rfl rfl) (opd_frame 5 rfl (by kernel_rfl)) ?_
      refine VWalk.add64 _ _ _ _ rfl (want_ff 7 61 3 rfl (by kernel_rfl) rfl rfl rfl rfl) (opd_dep 10 64 0 rfl rfl rfl rfl) (opd_const _) (by omega) ?_
      refine VWalk.neT _ _ _ _ rfl (want_ff 7 61 4 rfl (by kernel_rfl) rfl rfl rfl rfl) (opd_dep 9 63 2 rfl rfl rfl rfl) (opd_dep 11 65 0 rfl rfl rfl rfl) rfl ?_
      refine VWalk.pickF _ _ _ rfl (want_none rfl) (opd_dep 7 61 5 rfl rfl rfl rfl) (opd_dep 12 66 0 rfl rfl rfl rfl) ?_
      refine ⟨rfl, fun W12 hE12 => ?_⟩
      refine VFin.eq ?_  -- 0
      refine VFin.eq ?_  -- 1
      refine VFin.eq ?_  -- 2
      refine VFin.eq ?_  -- 3
      refine VFin.eq ?_  -- 4
      refine VFin.eq ?_  -- 5
      refine VFin.eq ?_  -- 6
      refine VFin.eq ?_  -- 7
      refine VFin.eq ?_  -- 8
      refine VFin.eq ?_  -- 9
      refine VFin.eq ?_  -- 10
      refine VFin.eq ?_  -- 11
      refine VFin.eq ?_  -- 12
      refine VFin.eq ?_  -- 13
      refine VFin.nil ?_
      simp only [Act.put, List.setIfInBounds_toArray, List.set_cons_zero, List.set_cons_succ]
      have hB := VP.st _ _ _ _ hB hE12
      have hbc := hbc.ext hE12
      have hbp := hbp.ext hE12
      have hb11 := hb11.ext hE12
      have hE := hE.tr hE12
      clear hbp hB
      go_upto_region 14 with (fail)
      refine vregion0 1 (by kernel_rfl) ?_
      refine VWalk.loadBox 25 _ rfl (want_none rfl) (opd_frame 8 rfl (by kernel_rfl)) Try.underlying25 rfl (by kernel_rfl) hb11 (Ext.rf _) ?_
      refine VWalk.head (G := VEq (.agg #[.int .i64 ((k : Int) + 1), .int .i64 l2, .int .i64 s2])) rfl ?_
      refine ⟨rfl, fun W14 hE14 => ?_⟩
      refine VFin.eq ?_  -- 0
      refine VFin.nil ?_
      simp only [Act.put, List.setIfInBounds_toArray, List.set_cons_zero, List.set_cons_succ]
      have hbc := hbc.ext hE14
      have hb11 := hb11.ext hE14
      have hE := hE.tr hE14
      have hbd := hbc
      have hE' := hE
      have hl0 : 0 ≤ l := by omega
      have hl1 : l ≤ 300 := by omega
      clear hkk ha hq1 hri hr2
      clear hb11 hbc hE hrt hE12 hE11 hE9
      have hd0 := hbd.at_ 0 rfl
      have hd1 := hbd.at_ 1 rfl
      have hd2 := hbd.at_ 2 rfl
      have hf0 := hbd.frozen 0
      have hf1 := hbd.frozen 1
      have hf2 := hbd.frozen 2
      have HB := hide (((hbd.set_ 0 (.int .i64 ((k : Int) + 1))).set_ 1 (.int .i64 l2)).set_ 2 (.int .i64 s2))
      have hEV := ((hE'.setCell (p := ⟨w.heap.size, 0, none⟩) (Nat.le_refl _) (.int .i64 ((k : Int) + 1))).setCell (p := ⟨w.heap.size, 1, none⟩) (Nat.le_refl _) (.int .i64 l2)).setCell (p := ⟨w.heap.size, 2, none⟩) (Nat.le_refl _) (.int .i64 s2)
      have hxV := (hEV.cell (p := ⟨b, off + k, none⟩) hb).trans hx3
      have HV := hide hEV
      clear hbd hE' hEV
      generalize bs[k] = y at *
      by_cases hy : (y.toNat : Int) = 10
      · have hl3 : l2 = l + 1 := by rw [Hll.out, if_pos hy]
        subst hl3
        go_wp2
        exact ⟨⟨k + 1, ((k : Int) + 1, l + 1, s2), by omega, by go_num, rfl, Hq2, HB, HV⟩, by simp [intOf]; omega⟩
      · have hl3 : l2 = l := by rw [Hll.out, if_neg hy]
        subst hl3
        go_wp2
        exact ⟨⟨k + 1, ((k : Int) + 1, l2, s2), by omega, by go_num, rfl, Hq2, HB, HV⟩, by simp [intOf]; omega⟩
    · obtain rfl : k = bs.length := by omega
      rw [List.take_length] at Hq
      have hE : Ext w wr := HX.out
      clear hx
      obtain ⟨a, l, s⟩ := q
      have hbc : Box wr w.heap.size 25 #[.int .i64 a, .int .i64 l, .int .i64 s] := HC.out
      have hP1 := VParts.one (VP.st _ _ _ _ hB0 hE) 22
      have hX1 : Ext wr (wr.alloc (.cells #[.slice A bs.length c] 22)) := ext_alloc _ _
      have hfd := feed_any (0, 0, 0) [bs] _ _ hP1
      rw [show [bs].flatten = bs by simp, feedC_yes _ (by decide) (by show (0 : Int) + _ ≤ _; omega), Hq.out] at hfd
      dsimp only at hfd
      unfold cntV at hfd
      dsimp only at hfd
      go_wp2_with fail
      refine hfd.mono ?_
      rintro e w3 ⟨u, rfl, hE3, hu⟩
      obtain ⟨_, _, rfl, rfl, rfl⟩ := VTup.inv2 hu
      have hX3 : Ext wr (w3.alloc (.cells #[.int .i64 a, .int .i64 l, .int .i64 s] 25)) := (hX1.tr hE3).tr (ext_alloc _ _)
      have hbc3 := hbc.ext hX3
      have hc0 := hbc3.at_ 0 rfl
      have hc1 := hbc3.at_ 1 rfl
      have hc2 := hbc3.at_ 2 rfl
      have heq := eq_cnt a l s a l s (w3.alloc (.cells #[.int .i64 a, .int .i64 l, .int .i64 s] 25))
      have hEf := hE.tr hX3
      clear hfd hu hP1 hX1 hE3 hX3 hbc3 hbc hE
      go_wp2_with fail
      refine (hwk _).mono ?_
      rintro e w4 ⟨u, rfl, hE4, rfl⟩
      go_wp2
      go_ret
      exact Ret.mk (hEf.tr hE4) rfl
end Go.Proofs.Ytdaghnnmbilgfaa
