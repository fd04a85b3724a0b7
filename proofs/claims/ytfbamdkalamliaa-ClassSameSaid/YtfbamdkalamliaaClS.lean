/- ClassSame, walked. -/
import Derived.Test.YtfbamdkalamliaaClX
import Derived.Test.YtfbamdkalamliaaClN
import Derived.Test.YtfbamdkalamliaaRI
namespace Go.Proofs.Ytfbamdkalamliaa
open Go.RowKit LetM SetM
theorem clampAt (at_ : Int) (n : Nat) (hn : 0 < n) : ∃ p : Nat, p < n ∧ (if (n : Int) - 1 < if at_ < 0 then 0 else at_ then (n : Int) - 1 else if at_ < 0 then 0 else at_) = (p : Int) := by
  generalize hz : (if (n : Int) - 1 < if at_ < 0 then 0 else at_ then (n : Int) - 1 else if at_ < 0 then 0 else at_) = z
  have : 0 ≤ z ∧ z < n := by
    subst hz
    by_cases h1 : at_ < 0
    · simp only [if_pos h1]; split <;> omega
    · simp only [if_neg h1]; split <;> omega
  exact ⟨z.toNat, by omega, by omega⟩
set_option maxRecDepth 100000 in
set_option maxHeartbeats 8000000 in
theorem classSame_any (f : Bool) (ws : List (List UInt8)) (text : List UInt8) (at_ : Int) (b : UInt8) (u v1 : Value) (w : World) (hS : VSet f ws u w) (hT : VBytes text v1 w) : Calls Try.prog 4 #[u, v1, .int .i64 at_, .int .u8 (b.toNat : Int)] w (Ret w (VEq (.bool true))) := by
  obtain ⟨i0, hi, hz0, hz1, hz2⟩ := info_parts Try.infoB
  have hwk := wakes_any
  have hg1 := fun W hv => setgreat_any f ws u W hv
  have hg2 := fun W hv => setright_any f ws u W hv
  unfold VGreat at hg1
  have hS0 := hS
  have hT0 := hT
  obtain ⟨sl, rfl, hP⟩ := hS
  obtain ⟨A, c, rfl, hc5, hc6, -⟩ := VParts.form hP
  obtain ⟨A3, c3, rfl, hc3, hc4, -⟩ := VBytes.form hT
  unfold maxLen at hc4 hc6
  clear hP hT
  have hX := ext_alloc w (.cells #[.bool f, .slice A ws.length c] 24)
  have hbx := Box.new w 24 #[.bool f, .slice A ws.length c]
  go_enter Try.func4, Try.ntmps4
  go_wp2_with fail
  refine (hg1 _ (VP.st _ _ _ _ hS0 hX)).mono ?_
  rintro e w1 ⟨u, rfl, hE, rfl⟩
  have hbx := hbx.ext hE
  have hE := hX.tr hE
  clear hX
  obtain ⟨g1, hq1⟩ : ∃ g, greatB ws = g := ⟨_, rfl⟩
  rw [hq1]
  clear hg1
  cases g1
  case true =>
    clear hS0 hT0 hq1 hbx hg2
    go_wp2_with fail
    refine (hwk _).mono ?_
    rintro e w3 ⟨u, rfl, hE3, rfl⟩
    go_wp2
    go_ret
    exact Ret.mk (hE.tr hE3) rfl
  have hd0 := hbx.at_ 0 rfl
  have hd1 := hbx.at_ 1 rfl
  go_wp2_with fail
  refine (hg2 _ (VP.st _ _ _ _ hS0 hE)).mono ?_
  rintro e w2 ⟨u, rfl, hE2, rfl⟩
  have hbx := hbx.ext hE2
  have hE := hE.tr hE2
  clear hg2 hd0 hd1 hE2
  obtain ⟨g2, hq2⟩ : ∃ g, rightS f ws = g := ⟨_, rfl⟩
  rw [hq2]
  cases g2
  case false =>
    clear hS0 hT0 hq1 hq2 hbx
    go_wp2_with fail
    refine (hwk _).mono ?_
    rintro e w3 ⟨u, rfl, hE3, rfl⟩
    go_wp2
    go_ret
    exact Ret.mk (hE.tr hE3) rfl
  by_cases h0 : 0 < text.length
  case neg =>
    clear hS0 hT0 hq1 hq2 hbx
    have h0' : (text.length : Int) = 0 := by omega
    go_wp2_with fail
    refine (hwk _).mono ?_
    rintro e w3 ⟨u, rfl, hE3, rfl⟩
    go_wp2
    go_ret
    exact Ret.mk (hE.tr hE3) rfl
  have h0' : ((text.length : Int) == 0) = false := by rw [beq_eq_false_iff_ne]; omega
  by_cases h40 : text.length ≤ 40
  case neg =>
    clear hS0 hT0 hq1 hq2 hbx
    go_wp2_with fail
    refine (hwk _).mono ?_
    rintro e w3 ⟨u, rfl, hE3, rfl⟩
    go_wp2
    go_ret
    exact Ret.mk (hE.tr hE3) rfl
  obtain ⟨l1, l2⟩ := greatB_false hq1
  have hl : ws.flatten.length ≤ 1000000 := by omega
  have hn : ws.length ≤ 1000000 := by omega
  obtain ⟨p, hp, hpe⟩ := clampAt at_ text.length h0
  have hcl : ∀ W v, VSet f ws (.agg #[.bool f, .slice A ws.length c]) W → VBytes [text[p], b] v W → Calls Try.prog 11 #[.agg #[.bool f, .slice A ws.length c], v] W (Ret W (VTup [VInts [(cRun f (hasB f ws.flatten) 256).1 text[p].toNat, (cRun f (hasB f ws.flatten) 256).1 b.toNat], VEq (.int .i64 0)])) := fun W v h1 h2 => by
    have h := clClasses_any f ws [text[p], b] _ v W h1 h2 hl hn (by simp)
    unfold clsesO at h
    rwa [if_pos hq2] at h
  have hsame := fun (e : (cRun f (hasB f ws.flatten) 256).1 text[p].toNat = (cRun f (hasB f ws.flatten) 256).1 b.toNat) w (hw : w ∈ ws) k => stands_cls hq2 hp e hw k
  generalize (cRun f (hasB f ws.flatten) 256).1 text[p].toNat = cx at *
  generalize (cRun f (hasB f ws.flatten) 256).1 b.toNat = cy at *
  have hsw : ∀ w ∈ ws, w.length ≤ 1000000 := fun w hw => by have := flat_mem hw; omega
  clear hq1 hq2
  have Hpe := hide hpe
  have HB := hide hbx
  have HE := hide hE
  have Hsame := hide hsame
  clear hbx hE hpe hsame
  go_upto_region 4 with (fail)
  rw [Hpe.out]
  generalize (if at_ < 0 then (0 : Int) else at_) = at2
  have hbs := HB.out
  have hE := HE.out
  have hS := VP.st _ _ _ _ hS0 hE
  have hT := VP.st _ _ _ _ hT0 hE
  go_upto_region 4 with (fail)
  refine vregion 11 [10] (by kernel_rfl) (by kernel_rfl) (fun _ _ _ _ _ h => h) ?_
  refine VWalk.loadBox 24 _ rfl (want_none rfl) (opd_frame 4 rfl (by kernel_rfl)) Try.underlying24 rfl (by kernel_rfl) hbs (ext_drew _) ?_
  refine VWalk.move _ rfl (want_none rfl) (opd_fr 1 rfl hT (ext_drew _) (by kernel_rfl)) ?_
  refine VWalk.move _ rfl (want_none rfl) (opd_frame 2 rfl (by kernel_rfl)) ?_
  refine VWalk.indexB 26 5 _ _ .i64 p rfl Try.underlying26 (by kernel_rfl) (want_none rfl) (opd_dep 1 40 1 rfl rfl rfl rfl) (opd_dep 2 41 0 rfl rfl rfl rfl) hp ?_
  refine VWalk.loadP 5 _ rfl (want_none rfl) (opd_dep 3 42 0 rfl rfl rfl rfl) (fun _ => by kernel_rfl) ?_
  refine VWalk.move _ rfl (want_none rfl) (opd_frame 3 rfl (by kernel_rfl)) ?_
  refine VWalk.lit (Fs := [_, _]) [Operand.tmp 43, Operand.tmp 44] 26 5 2 _ rfl rfl (by decide) (by decide) rfl Try.underlying26 (by kernel_rfl) (by kernel_rfl) ⟨oneCell_eq rfl, oneCell_eq rfl, trivial⟩ (want_none rfl) ⟨(opd_dep 4 43 1 rfl rfl rfl rfl), (opd_dep 5 44 0 rfl rfl rfl rfl), trivial⟩ ?_
  refine VWalk.call2 11 _ _ _ rfl (enters_of Try.func11 (by kernel_rfl) rfl) (want_none rfl) (opd_dep 0 39 6 rfl rfl rfl rfl) (opd_dep 6 45 0 rfl rfl rfl rfl) (fun a v W hX ha hv => by rw [show a = _ from ha]; exact hcl W v (VP.st _ _ _ _ hS ((ext_drew _).tr hX)) hv) ?_
  refine VWalk.move _ rfl (want_none rfl) (opd_dep 7 46 0 rfl rfl rfl rfl) ?_
  refine VWalk.extract _ 0 rfl rfl (want_none rfl) (opd_dep 8 38 0 rfl rfl rfl rfl) ?_
  refine VWalk.extract _ 1 rfl rfl (want_none rfl) (opd_dep 8 38 1 rfl rfl rfl rfl) ?_
  refine ⟨rfl, fun W4 hE4 => ?_⟩
  refine VFin.eq ?_  -- 0
  refine VFin.any fun v4_1 hv4_1 => ?_
  refine VFin.eq ?_  -- 2
  refine VFin.any fun v4_3 hv4_3 => ?_
  refine VFin.eq ?_  -- 4
  refine VFin.eq ?_  -- 5
  refine VFin.any fun v4_6 hv4_6 => ?_
  refine VFin.any fun v4_7 hv4_7 => ?_
  refine VFin.any fun v4_8 hv4_8 => ?_
  refine VFin.any fun v4_9 hv4_9 => ?_
  refine VFin.eq ?_  -- 10
  refine VFin.nil ?_
  simp only [Act.put, List.setIfInBounds_toArray, List.set_cons_zero, List.set_cons_succ]
  clear hv4_1 hv4_3 hv4_6 hv4_7 hv4_8
  have hT := VP.st _ _ _ _ hT ((ext_drew _).tr hE4)
  have hbs := hbs.drew.ext hE4
  have hE := hE.tr ((ext_drew _).tr hE4)
  obtain ⟨A9, c9, hv9, hy1, hy2, hy3⟩ := VInts.form hv4_9
  simp only [List.length_cons, List.length_nil, Nat.reduceAdd] at hv9 hy1
  subst hv9
  have hL := hv4_9
  have hX5 : Ext W4 (W4.alloc (.cells #[] 5)) := ext_alloc _ _
  have HS := hide hS
  have HT := hide hT
  have HBS := hide hbs
  have HE := hide hE
  have HL := hide hL
  clear hv4_9 hy3 hS hT hbs hE hL
  go_upto_region 9 with (at_builtin; refine wpList_append_bytes rfl _ _ 26 rfl W4.heap.size 5 i0 (.int .u8 0) Try.underlying26 hi hz0 hz1 hz2 rfl (.slice (some ⟨W4.heap.size, 0, none⟩) 0 0) _ [] text rfl (OwnB.made W4 _ _ (Nat.le_refl _)) rfl (VP.st _ _ _ _ HT.out hX5) (by simp; omega) (by simp) ?_; intro v' w' hown hgrow hat; rw [List.nil_append] at hown; obtain ⟨g11, cap11, cur11, hv', hge11, hb11, hl11, hm11, hs11, ht11⟩ := OwnB.row hown h0; subst hv'; have hcc11 := (hb11.cell p).trans (row_at ht11 hp); have hff11 := hb11.frozen p)
  have X45 : Ext W4 (w'.setCell ⟨g11, p, none⟩ (.int .u8 (b.toNat : Int))) := (below_ng (Ext.rf W4) hgrow (fun k hk => OwnB.ge (OwnB.made W4 W4.heap.size 5 (Nat.le_refl _)) k hk)).setCell (p := ⟨g11, p, none⟩) hge11 _
  have ho : VBytes (text.set p b) (.slice (some ⟨g11, 0, none⟩) text.length cap11) (w'.setCell ⟨g11, p, none⟩ (.int .u8 (b.toNat : Int))) := OwnB.bytes (OwnB.put hge11 hb11 hl11 hm11 hs11 ht11 p b)
  generalize w'.setCell ⟨g11, p, none⟩ (.int .u8 (b.toNat : Int)) = W5 at *
  have HO : Hid (VBytes (text.set p b) (.slice (some ⟨g11, 0, none⟩) text.length cap11) W5) := ho
  have HE := hide (HE.out.tr X45)
  have HT := hide (VP.st _ _ _ _ HT.out X45)
  have HL := hide (VP.st _ _ _ _ HL.out X45)
  have HBS := hide (HBS.out.ext X45)
  clear X45 ho hgrow hat hown hcc11 hff11 hb11 ht11
  generalize byteV text[p] = zz
  go_wp2_with fail
  go_loopw [12] (fun i wr => ∃ k : Nat, k ≤ ws.length ∧ i = .int .i64 (k : Int) ∧ Hid (Ext W5 wr)) (fun i _ => ws.length - (intOf i).toNat)
  case atStart => exact ⟨0, by omega, rfl, Ext.rf _⟩
  case round =>
    obtain ⟨k, hk, rfl, HX⟩ := hrel
    have hbs := HBS.out.ext HX.out
    have hw1 := hbs.at_ 1 rfl
    by_cases hlt : k < ws.length
    · clear hbs
      go_upto_region 13 with (fail)
      go_loopw [13] (fun i wq => ∃ j : Nat, j ≤ text.length + 1 ∧ i = .int .i64 (j : Int) ∧ Hid (Ext W5 wq)) (fun i _ => text.length + 1 - (intOf i).toNat)
      case atStart => exact ⟨0, by omega, rfl, HX⟩
      case round =>
        clear HX hw1
        obtain ⟨j, hj, rfl, HX⟩ := hrel
        by_cases hlt2 : j ≤ text.length
        · have hE : Ext w wr := HE.out.tr HX.out
          have hT := VP.st _ _ _ _ HT.out HX.out
          have hO := VP.st _ _ _ _ HO.out HX.out
          have hL := VP.st _ _ _ _ HL.out HX.out
          have hP : VParts ws (.slice A ws.length c) wr := by
            obtain ⟨sl, e, h⟩ := VP.st _ _ _ _ hS0 hE
            cases e; exact h
          have hbs := HBS.out.ext HX.out
          have hwk1 := hsw _ (List.getElem_mem hlt)
          by_cases hxy : cx = cy
          · have hst := Hsame.out hxy _ (List.getElem_mem hlt) (j : Int)
            have hat1 := fun u v W (hx : VBytes text u W) (hy : VBytes ws[k] v W) => rat_any f text ws[k] (j : Int) u v W hx hy hwk1
            have hat2 := fun u v W (hx : VBytes (text.set p b) u W) (hy : VBytes ws[k] v W) => rat_any f (text.set p b) ws[k] (j : Int) u v W hx hy hwk1
            rw [← hst] at hat2
            generalize standsB f text (j : Int) ws[k] = z at *
            clear hst
            go_upto_region 15 with (fail)
            go_upto_region 15 with (fail)
            refine vregion 30 [] (by kernel_rfl) (by kernel_rfl) (fun _ _ _ _ _ h => h) ?_
            refine VWalk.move _ rfl (want_none rfl) (opd_fr 9 rfl hL (ext_drew _) (by kernel_rfl)) ?_
            refine VWalk.indexI 25 3 _ _ .i64 0 rfl Try.underlying25 (by kernel_rfl) (want_none rfl) (opd_dep 0 76 0 rfl rfl rfl rfl) (opd_const _) (by simp) ?_
            refine VWalk.loadP 3 _ rfl (want_none rfl) (opd_dep 1 77 0 rfl rfl rfl rfl) (fun _ => by kernel_rfl) ?_
            refine VWalk.move _ rfl (want_none rfl) (opd_fr 9 rfl hL (ext_drew _) (by kernel_rfl)) ?_
            refine VWalk.indexI 25 3 _ _ .i64 1 rfl Try.underlying25 (by kernel_rfl) (want_none rfl) (opd_dep 3 79 0 rfl rfl rfl rfl) (opd_const _) (by simp) ?_
            refine VWalk.loadP 3 _ rfl (want_none rfl) (opd_dep 4 80 0 rfl rfl rfl rfl) (fun _ => by kernel_rfl) ?_
            refine VWalk.eqT _ _ _ _ rfl (want_none rfl) (opd_dep 2 78 3 rfl rfl rfl rfl) (opd_dep 5 81 0 rfl rfl rfl rfl) hxy ?_
            refine VWalk.move _ rfl (want_none rfl) (opd_dep 6 82 0 rfl rfl rfl rfl) ?_
            refine VWalk.det1 (Operand.tmp 4) (want_tt 7 83 0 rfl (by kernel_rfl) rfl rfl rfl rfl) (opd_frame 4 rfl (by kernel_rfl)) (fun ρ w hE h1 => by simp [execOp, h1, go_sem]; rfl) ?_
            refine VWalk.load1 4 _ rfl (want_tt 7 83 1 rfl (by kernel_rfl) rfl rfl rfl rfl) (opd_dep 8 84 0 rfl rfl rfl rfl) (fun _ => by kernel_rfl) (hbs.at_ 0 rfl) (ext_drew _) ?_
            refine VWalk.move _ rfl (want_tt 7 83 2 rfl (by kernel_rfl) rfl rfl rfl rfl) (opd_fr 1 rfl hT (ext_drew _) (by kernel_rfl)) ?_
            refine VWalk.move _ rfl (want_tt 7 83 3 rfl (by kernel_rfl) rfl rfl rfl rfl) (opd_frame 13 rfl (by kernel_rfl)) ?_
            refine VWalk.det1 (Operand.tmp 4) (want_tt 7 83 4 rfl (by kernel_rfl) rfl rfl rfl rfl) (opd_frame 4 rfl (by kernel_rfl)) (fun ρ w hE h1 => by simp [execOp, h1, go_sem]; rfl) ?_
            refine VWalk.load1F (F := VParts ws) 22 _ rfl (want_tt 7 83 5 rfl (by kernel_rfl) rfl rfl rfl rfl) (opd_dep 12 88 0 rfl rfl rfl rfl) (fun _ => by kernel_rfl) (hbs.at_ 1 rfl) hP (ext_drew _) ?_
            refine VWalk.move _ rfl (want_tt 7 83 6 rfl (by kernel_rfl) rfl rfl rfl rfl) (opd_frame 12 rfl (by kernel_rfl)) ?_
            refine VWalk.indexP 22 26 _ _ .i64 k rfl Try.underlying22 (by kernel_rfl) (want_tt 7 83 7 rfl (by kernel_rfl) rfl rfl rfl rfl) (opd_dep 13 89 1 rfl rfl rfl rfl) (opd_dep 14 90 0 rfl rfl rfl rfl) hlt ?_
            refine VWalk.loadP 26 _ rfl (want_tt 7 83 8 rfl (by kernel_rfl) rfl rfl rfl rfl) (opd_dep 15 91 0 rfl rfl rfl rfl) (fun _ => by kernel_rfl) ?_
            refine VWalk.call4 19 _ _ _ _ _ rfl (enters_of Try.func19 (by kernel_rfl) rfl) (want_tt 7 83 9 rfl (by kernel_rfl) rfl rfl rfl rfl) (opd_dep 9 85 7 rfl rfl rfl rfl) (opd_dep 10 86 6 rfl rfl rfl rfl) (opd_dep 11 87 5 rfl rfl rfl rfl) (opd_dep 16 92 0 rfl rfl rfl rfl) (fun a b c d W hX ha hb hc hd => by rw [show a = _ from ha, show c = _ from hc]; exact hat1 b d W hb hd) ?_
            refine VWalk.det1 (Operand.tmp 4) (want_tt 7 83 10 rfl (by kernel_rfl) rfl rfl rfl rfl) (opd_frame 4 rfl (by kernel_rfl)) (fun ρ w hE h1 => by simp [execOp, h1, go_sem]; rfl) ?_
            refine VWalk.load1 4 _ rfl (want_tt 7 83 11 rfl (by kernel_rfl) rfl rfl rfl rfl) (opd_dep 18 94 0 rfl rfl rfl rfl) (fun _ => by kernel_rfl) (hbs.at_ 0 rfl) (ext_drew _) ?_
            refine VWalk.move _ rfl (want_tt 7 83 12 rfl (by kernel_rfl) rfl rfl rfl rfl) (opd_fr 11 rfl hO (ext_drew _) (by kernel_rfl)) ?_
            refine VWalk.move _ rfl (want_tt 7 83 13 rfl (by kernel_rfl) rfl rfl rfl rfl) (opd_frame 13 rfl (by kernel_rfl)) ?_
            refine VWalk.det1 (Operand.tmp 4) (want_tt 7 83 14 rfl (by kernel_rfl) rfl rfl rfl rfl) (opd_frame 4 rfl (by kernel_rfl)) (fun ρ w hE h1 => by simp [execOp, h1, go_sem]; rfl) ?_
            refine VWalk.load1F (F := VParts ws) 22 _ rfl (want_tt 7 83 15 rfl (by kernel_rfl) rfl rfl rfl rfl) (opd_dep 22 98 0 rfl rfl rfl rfl) (fun _ => by kernel_rfl) (hbs.at_ 1 rfl) hP (ext_drew _) ?_
            refine VWalk.move _ rfl (want_tt 7 83 16 rfl (by kernel_rfl) rfl rfl rfl rfl) (opd_frame 12 rfl (by kernel_rfl)) ?_
            refine VWalk.indexP 22 26 _ _ .i64 k rfl Try.underlying22 (by kernel_rfl) (want_tt 7 83 17 rfl (by kernel_rfl) rfl rfl rfl rfl) (opd_dep 23 99 1 rfl rfl rfl rfl) (opd_dep 24 100 0 rfl rfl rfl rfl) hlt ?_
            refine VWalk.loadP 26 _ rfl (want_tt 7 83 18 rfl (by kernel_rfl) rfl rfl rfl rfl) (opd_dep 25 101 0 rfl rfl rfl rfl) (fun _ => by kernel_rfl) ?_
            refine VWalk.call4 19 _ _ _ _ _ rfl (enters_of Try.func19 (by kernel_rfl) rfl) (want_tt 7 83 19 rfl (by kernel_rfl) rfl rfl rfl rfl) (opd_dep 19 95 7 rfl rfl rfl rfl) (opd_dep 20 96 6 rfl rfl rfl rfl) (opd_dep 21 97 5 rfl rfl rfl rfl) (opd_dep 26 102 0 rfl rfl rfl rfl) (fun a b c d W hX ha hb hc hd => by rw [show a = _ from ha, show c = _ from hc]; exact hat2 b d W hb hd) ?_
            refine VWalk.neTb _ _ _ _ rfl (want_tt 7 83 20 rfl (by kernel_rfl) rfl rfl rfl rfl) (opd_dep 17 93 10 rfl rfl rfl rfl) (opd_dep 27 103 0 rfl rfl rfl rfl) Try.underlying4 rfl ?_
            refine VWalk.pickT _ _ _ rfl (want_none rfl) (opd_dep 7 83 21 rfl rfl rfl rfl) (opd_dep 28 104 0 rfl rfl rfl rfl) ?_
            refine ⟨rfl, fun W15 hE15 => ?_⟩
            refine VFin.any fun v15_0 hv15_0 => ?_
            refine VFin.any fun v15_1 hv15_1 => ?_
            refine VFin.eq ?_  -- 2
            refine VFin.any fun v15_3 hv15_3 => ?_
            refine VFin.any fun v15_4 hv15_4 => ?_
            refine VFin.eq ?_  -- 5
            refine VFin.eq ?_  -- 6
            refine VFin.eq ?_  -- 7
            refine VFin.eq ?_  -- 8
            refine VFin.eq ?_  -- 9
            refine VFin.any fun v15_10 hv15_10 => ?_
            refine VFin.eq ?_  -- 11
            refine VFin.eq ?_  -- 12
            refine VFin.any fun v15_13 hv15_13 => ?_
            refine VFin.eq ?_  -- 14
            refine VFin.any fun v15_15 hv15_15 => ?_
            refine VFin.any fun v15_16 hv15_16 => ?_
            refine VFin.eq ?_  -- 17
            refine VFin.eq ?_  -- 18
            refine VFin.eq ?_  -- 19
            refine VFin.any fun v15_20 hv15_20 => ?_
            refine VFin.eq ?_  -- 21
            refine VFin.eq ?_  -- 22
            refine VFin.any fun v15_23 hv15_23 => ?_
            refine VFin.eq ?_  -- 24
            refine VFin.any fun v15_25 hv15_25 => ?_
            refine VFin.any fun v15_26 hv15_26 => ?_
            refine VFin.eq ?_  -- 27
            refine VFin.eq ?_  -- 28
            refine VFin.eq ?_  -- 29
            refine VFin.nil ?_
            simp only [Act.put, List.setIfInBounds_toArray, List.set_cons_zero, List.set_cons_succ]
            clear hv15_0 hv15_1 hv15_3 hv15_4 hv15_10 hv15_13 hv15_15 hv15_16 hv15_20 hv15_23 hv15_25 hv15_26
            have hT := VP.st _ _ _ _ hT ((ext_drew _).tr hE15)
            have hL := VP.st _ _ _ _ hL ((ext_drew _).tr hE15)
            have hO := VP.st _ _ _ _ hO ((ext_drew _).tr hE15)
            have hbs := hbs.drew.ext hE15
            have hE := hE.tr ((ext_drew _).tr hE15)
            have HX2 : Hid (Ext W5 W15) := hide (HX.out.tr ((ext_drew _).tr hE15))
            clear hP hbs hE hT hO hL HX
            go_wp2
            exact ⟨⟨j + 1, by omega, by go_num, HX2⟩, by simp [intOf]; omega⟩
          · go_upto_region 15 with (fail)
            go_upto_region 15 with (fail)
            refine vregion 30 [] (by kernel_rfl) (by kernel_rfl) (fun _ _ _ _ _ h => h) ?_
            refine VWalk.move _ rfl (want_none rfl) (opd_fr 9 rfl hL (ext_drew _) (by kernel_rfl)) ?_
            refine VWalk.indexI 25 3 _ _ .i64 0 rfl Try.underlying25 (by kernel_rfl) (want_none rfl) (opd_dep 0 76 0 rfl rfl rfl rfl) (opd_const _) (by simp) ?_
            refine VWalk.loadP 3 _ rfl (want_none rfl) (opd_dep 1 77 0 rfl rfl rfl rfl) (fun _ => by kernel_rfl) ?_
            refine VWalk.move _ rfl (want_none rfl) (opd_fr 9 rfl hL (ext_drew _) (by kernel_rfl)) ?_
            refine VWalk.indexI 25 3 _ _ .i64 1 rfl Try.underlying25 (by kernel_rfl) (want_none rfl) (opd_dep 3 79 0 rfl rfl rfl rfl) (opd_const _) (by simp) ?_
            refine VWalk.loadP 3 _ rfl (want_none rfl) (opd_dep 4 80 0 rfl rfl rfl rfl) (fun _ => by kernel_rfl) ?_
            refine VWalk.eqT' _ _ _ _ rfl (want_none rfl) (opd_dep 2 78 3 rfl rfl rfl rfl) (opd_dep 5 81 0 rfl rfl rfl rfl) hxy ?_
            refine VWalk.move _ rfl (want_none rfl) (opd_dep 6 82 0 rfl rfl rfl rfl) ?_
            refine VWalk.skip (want_ft 7 83 0 rfl (by kernel_rfl) rfl rfl rfl rfl) ?_
            refine VWalk.skip (want_ft 7 83 1 rfl (by kernel_rfl) rfl rfl rfl rfl) ?_
            refine VWalk.skip (want_ft 7 83 2 rfl (by kernel_rfl) rfl rfl rfl rfl) ?_
            refine VWalk.skip (want_ft 7 83 3 rfl (by kernel_rfl) rfl rfl rfl rfl) ?_
            refine VWalk.skip (want_ft 7 83 4 rfl (by kernel_rfl) rfl rfl rfl rfl) ?_
            refine VWalk.skip (want_ft 7 83 5 rfl (by kernel_rfl) rfl rfl rfl rfl) ?_
            refine VWalk.skip (want_ft 7 83 6 rfl (by kernel_rfl) rfl rfl rfl rfl) ?_
            refine VWalk.skip (want_ft 7 83 7 rfl (by kernel_rfl) rfl rfl rfl rfl) ?_
            refine VWalk.skip (want_ft 7 83 8 rfl (by kernel_rfl) rfl rfl rfl rfl) ?_
            refine VWalk.skip (want_ft 7 83 9 rfl (by kernel_rfl) rfl rfl rfl rfl) ?_
            refine VWalk.skip (want_ft 7 83 10 rfl (by kernel_rfl) rfl rfl rfl rfl) ?_
            refine VWalk.skip (want_ft 7 83 11 rfl (by kernel_rfl) rfl rfl rfl rfl) ?_
            refine VWalk.skip (want_ft 7 83 12 rfl (by kernel_rfl) rfl rfl rfl rfl) ?_
            refine VWalk.skip (want_ft 7 83 13 rfl (by kernel_rfl) rfl rfl rfl rfl) ?_
            refine VWalk.skip (want_ft 7 83 14 rfl (by kernel_rfl) rfl rfl rfl rfl) ?_
            refine VWalk.skip (want_ft 7 83 15 rfl (by kernel_rfl) rfl rfl rfl rfl) ?_
            refine VWalk.skip (want_ft 7 83 16 rfl (by kernel_rfl) rfl rfl rfl rfl) ?_
            refine VWalk.skip (want_ft 7 83 17 rfl (by kernel_rfl) rfl rfl rfl rfl) ?_
            refine VWalk.skip (want_ft 7 83 18 rfl (by kernel_rfl) rfl rfl rfl rfl) ?_
            refine VWalk.skip (want_ft 7 83 19 rfl (by kernel_rfl) rfl rfl rfl rfl) ?_
            refine VWalk.skip (want_ft 7 83 20 rfl (by kernel_rfl) rfl rfl rfl rfl) ?_
            refine VWalk.pickF _ _ _ rfl (want_none rfl) (opd_dep 7 83 21 rfl rfl rfl rfl) (opd_const _) ?_
            refine ⟨rfl, fun W15 hE15 => ?_⟩
            refine VFin.any fun v15_0 hv15_0 => ?_
            refine VFin.any fun v15_1 hv15_1 => ?_
            refine VFin.eq ?_  -- 2
            refine VFin.any fun v15_3 hv15_3 => ?_
            refine VFin.any fun v15_4 hv15_4 => ?_
            refine VFin.eq ?_  -- 5
            refine VFin.eq ?_  -- 6
            refine VFin.eq ?_  -- 7
            refine VFin.eq ?_  -- 8
            refine VFin.eq ?_  -- 9
            refine VFin.eq ?_  -- 10
            refine VFin.eq ?_  -- 11
            refine VFin.eq ?_  -- 12
            refine VFin.eq ?_  -- 13
            refine VFin.eq ?_  -- 14
            refine VFin.eq ?_  -- 15
            refine VFin.eq ?_  -- 16
            refine VFin.eq ?_  -- 17
            refine VFin.eq ?_  -- 18
            refine VFin.eq ?_  -- 19
            refine VFin.eq ?_  -- 20
            refine VFin.eq ?_  -- 21
            refine VFin.eq ?_  -- 22
            refine VFin.eq ?_  -- 23
            refine VFin.eq ?_  -- 24
            refine VFin.eq ?_  -- 25
            refine VFin.eq ?_  -- 26
            refine VFin.eq ?_  -- 27
            refine VFin.eq ?_  -- 28
            refine VFin.eq ?_  -- 29
            refine VFin.nil ?_
            simp only [Act.put, List.setIfInBounds_toArray, List.set_cons_zero, List.set_cons_succ]
            clear hv15_0 hv15_1 hv15_3 hv15_4
            have hT := VP.st _ _ _ _ hT ((ext_drew _).tr hE15)
            have hL := VP.st _ _ _ _ hL ((ext_drew _).tr hE15)
            have hO := VP.st _ _ _ _ hO ((ext_drew _).tr hE15)
            have hbs := hbs.drew.ext hE15
            have hE := hE.tr ((ext_drew _).tr hE15)
            have HX2 : Hid (Ext W5 W15) := hide (HX.out.tr ((ext_drew _).tr hE15))
            clear hP hbs hE hT hO hL HX
            go_wp2
            exact ⟨⟨j + 1, by omega, by go_num, HX2⟩, by simp [intOf]; omega⟩
        · go_wp2
          exact ⟨⟨k + 1, by omega, by go_num, HX⟩, by simp [intOf]; omega⟩
    · clear hbs
      have hE : Ext w wr := HE.out.tr HX.out
      go_wp2_with fail
      refine (hwk _).mono ?_
      rintro e w3 ⟨u, rfl, hE3, rfl⟩
      go_wp2
      go_ret
      exact Ret.mk (hE.tr hE3) rfl
end Go.Proofs.Ytfbamdkalamliaa
