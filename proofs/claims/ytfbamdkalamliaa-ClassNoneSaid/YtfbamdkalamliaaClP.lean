/- ClassNone, walked. -/
import Derived.Test.YtfbamdkalamliaaClX
import Derived.Test.YtfbamdkalamliaaClN
namespace Go.Proofs.Ytfbamdkalamliaa
open Go.RowKit LetM SetM
set_option maxRecDepth 100000 in
set_option maxHeartbeats 8000000 in
theorem classNone_any (f : Bool) (ws : List (List UInt8)) (u : Value) (w : World) (hS : VSet f ws u w) : Calls Try.prog 5 #[u] w (Ret w (VEq (.bool true))) := by
  have hwk := wakes_any
  have hg1 := fun W hv => setgreat_any f ws u W hv
  have hg2 := fun W hv => setright_any f ws u W hv
  unfold VGreat at hg1
  have hS0 := hS
  obtain ⟨sl, rfl, hP⟩ := hS
  obtain ⟨A, c, rfl, hc5, hc6, hx⟩ := VParts.form hP
  unfold maxLen at hc6
  clear hP
  have hX := ext_alloc w (.cells #[.bool f, .slice A ws.length c] 24)
  have hbx := Box.new w 24 #[.bool f, .slice A ws.length c]
  go_enter Try.func5, Try.ntmps5
  go_wp2_with fail
  refine (hg1 _ (VP.st _ _ _ _ hS0 hX)).mono ?_
  rintro e w1 ⟨u, rfl, hE, rfl⟩
  have hbx := hbx.ext hE
  have hE := hX.tr hE
  clear hX
  obtain ⟨g1, hq1⟩ : ∃ g, greatB ws = g := ⟨_, rfl⟩
  rw [hq1]
  clear hg1
  cases g1
  case true =>
    clear hS0 hq1 hbx hg2
    go_wp2_with fail
    refine (hwk _).mono ?_
    rintro e w3 ⟨u, rfl, hE3, rfl⟩
    go_wp2
    go_ret
    exact Ret.mk (hE.tr hE3) rfl
  have hd0 := hbx.at_ 0 rfl
  have hd1 := hbx.at_ 1 rfl
  go_wp2_with fail
  refine (hg2 _ (VP.st _ _ _ _ hS0 hE)).mono ?_
  rintro e w2 ⟨u, rfl, hE2, rfl⟩
  have hbx := hbx.ext hE2
  have hE := hE.tr hE2
  clear hg2 hd0 hd1 hE2
  obtain ⟨g2, hq2⟩ : ∃ g, rightS f ws = g := ⟨_, rfl⟩
  rw [hq2]
  cases g2
  case false =>
    clear hS0 hq1 hq2 hbx
    go_wp2_with fail
    refine (hwk _).mono ?_
    rintro e w3 ⟨u, rfl, hE3, rfl⟩
    go_wp2
    go_ret
    exact Ret.mk (hE.tr hE3) rfl
  obtain ⟨l1, l2⟩ := greatB_false hq1
  have hl : ws.flatten.length ≤ 1000000 := by omega
  have hn : ws.length ≤ 1000000 := by omega
  have hcl := clOf_any f ws _ w2 (VP.st _ _ _ _ hS0 hE) hl hn
  have hcO : clsO f ws = ((cRun f (hasB f ws.flatten) 256).1, (cRun f (hasB f ws.flatten) 256).2, 0) := by unfold clsO; rw [if_pos hq2]
  rw [hcO] at hcl
  have htw := fun i hi hh => hasB_twin (f := f) (bs := ws.flatten) (i := i) hi hh
  have hrg := fun a (ha : a < 256) => cls_range htw ha
  have hze := fun a (ha : a < 256) => cls_zero htw ha
  have heq := fun a b (ha : a < 256) (hb : b < 256) (h1 : hasB f ws.flatten a = true) (h2 : hasB f ws.flatten b = true) => (cls_eq htw ha hb h1 h2).trans ((decide_eq_true_iff).symm.trans (by rw [← same_rep f ha hb]))
  clear hcO htw hq1 hq2
  generalize (cRun f (hasB f ws.flatten) 256).1 = cf at *
  generalize (cRun f (hasB f ws.flatten) 256).2 = m at *
  have Hrg := hide hrg
  have Hze := hide hze
  have Heq := hide heq
  have HB := hide hbx
  have HE := hide hE
  have hd0 := hbx.at_ 0 rfl
  have hd1 := hbx.at_ 1 rfl
  clear hbx hE hrg hze heq
  go_wp2_with fail
  refine hcl.mono ?_
  rintro _ w3 ⟨u, rfl, hE2, hu⟩
  obtain ⟨_, _, _, rfl, rfl, rfl, rfl⟩ := VTup.inv3 hu
  clear hu hd0 hd1 hcl
  go_upto_region 4 with (first | (refine wpList_allocZ rfl 29 rfl _ zeroI ?_) | (refine wpList_store_row rfl 29 _ _ rfl w3.heap.size (iArr cf) rfl rfl 29 (iArr fun _ => 0) (Box.new w3 29 (iArr fun _ => 0)) (by rw [iArr_size]; kernel_rfl) (by rw [iArr_size, iArr_size]) (arr_one fun _ _ => rfl) ?_))
  have hX2 := hE2.tr (new_row (w2 := w3) (T := 29) (iArr fun _ => 0) (iArr cf))
  have hb9 : Box ((w3.alloc (.cells (iArr fun _ => 0) 29)).setRow w3.heap.size (iArr cf)) w3.heap.size 29 (iArr cf) := (Box.new w3 29 (iArr fun _ => 0)).setRow_
  generalize (w3.alloc (.cells (iArr fun _ => 0) 29)).setRow w3.heap.size (iArr cf) = W4 at *
  generalize w3.heap.size = g9 at *
  have HB := hide (HB.out.ext hX2)
  have HE := hide (HE.out.tr hX2)
  have H9 := hide hb9
  clear hX2 hE2 hb9
  go_wp2_with (refine wpList_allocZ rfl 43 rfl _ zeroB ?_)
  have HX : Hid (Ext W4 (W4.alloc (.cells (bArr fun _ => false) 43))) := hide (ext_alloc _ _)
  have H6 : Hid (Box (W4.alloc (.cells (bArr fun _ => false) 43)) W4.heap.size 43 (bArr (hasB f (ws.take 0).flatten))) := Box.new W4 43 (bArr fun _ => false)
  generalize W4.alloc (.cells (bArr fun _ => false) 43) = W5 at *
  go_loopw [7] (fun i wr => ∃ k : Nat, k ≤ ws.length ∧ i = .int .i64 (k : Int) ∧ Hid (Ext W4 wr) ∧ Hid (Box wr W4.heap.size 43 (bArr (hasB f (ws.take k).flatten)))) (fun i _ => ws.length - (intOf i).toNat)
  case atStart => exact ⟨0, by omega, rfl, HX, H6⟩
  case round =>
    clear HX H6
    obtain ⟨k, hk, rfl, HX, H6⟩ := hrel
    have hw1 := (HB.out.ext HX.out).at_ 1 rfl
    by_cases hlt : k < ws.length
    · obtain ⟨b, off, rfl, hbl, hcell⟩ := hx (by omega)
      obtain ⟨z, hz, hz2⟩ := hcell k hlt
      have hE : Ext w wr := HE.out.tr HX.out
      have hz3 := (hE.cell (p := ⟨b, off + k, none⟩) hbl).trans hz
      obtain ⟨A2, c2, rfl, hd1, hd2, hy⟩ := VBytes.form hz2
      unfold maxLen at hd2
      have Hsn : Hid ((ws.take (k + 1)).flatten = (ws.take k).flatten ++ ws[k]) := takeF_succ ws k hlt
      clear hcell hx hz2
      generalize hwk : ws[k] = bs at *
      have H6' : Hid (Box wr W4.heap.size 43 (bArr (hasB f ((ws.take k).flatten ++ bs.take 0)))) := by show Box _ _ _ _; rw [List.take_zero, List.append_nil]; exact H6.out
      have Hz := hide hz
      clear hwk H6 hz hE
      go_wp2_with fail
      go_loopw [8] (fun i wq => ∃ j : Nat, j ≤ bs.length ∧ i = .int .i64 (j : Int) ∧ Hid (Ext W4 wq) ∧ Hid (Box wq W4.heap.size 43 (bArr (hasB f ((ws.take k).flatten ++ bs.take j))))) (fun i _ => bs.length - (intOf i).toNat)
      case atStart => exact ⟨0, by omega, rfl, HX, H6'⟩
      case round =>
        clear HX H6' hz3 hw1
        obtain ⟨j, hj, rfl, HX, H6⟩ := hrel
        have hE : Ext w wr := HE.out.tr HX.out
        have hz3 := (hE.cell (p := ⟨b, off + k, none⟩) hbl).trans Hz.out
        have hw1 := (HB.out.ext HX.out).at_ 1 rfl
        by_cases hlt2 : j < bs.length
        · obtain ⟨b2, off2, rfl, hbl2, hcell2⟩ := hy (by omega)
          have hz4 := (hE.cell (p := ⟨b2, off2 + j, none⟩) hbl2).trans (hcell2 j hlt2)
          have Hsb : Hid (bs.take (j + 1) = bs.take j ++ [bs[j]]) := List.take_succ_eq_append_getElem hlt2
          have Hpre : Hid ((ws.take k).flatten ++ bs.take (j + 1) = ((ws.take k).flatten ++ bs.take j) ++ [bs[j]]) := by show _ = _; rw [Hsb.out, List.append_assoc]
          clear hcell2 hy Hsb
          generalize bs[j] = ch at *
          have hcl := UInt8.toNat_lt ch
          have hcl' : (ch.toNat : Int) < 256 := by omega
          have hcl2 : ((ch.toNat : Int).toNat : Nat) = ch.toNat := by omega
          have hold := (H6.out.cell ch.toNat).trans (bArr_get _ (by omega))
          have hfr := H6.out.frozen ch.toNat
          have Hq : Hid (Ext W4 (wr.setCell ⟨W4.heap.size, ch.toNat, none⟩ (.bool true))) := hide (Below.setCell HX.out (p := ⟨W4.heap.size, ch.toNat, none⟩) (by simp) _)
          have Hq3 := hide (H6.out.set_ ch.toNat (.bool true))
          have hq0 := (HB.out.ext Hq.out).at_ 0 rfl
          by_cases hf : (f && smallB ch.toNat) = true
          · obtain ⟨rfl, hsm⟩ : f = true ∧ smallB ch.toNat = true := by simpa using hf
            have Hf := hide hf
            have hsm' := of_decide_eq_true (by unfold smallB at hsm; simpa using hsm : decide (97 ≤ ch.toNat ∧ ch.toNat ≤ 122) = true)
            have hs1 : (97 : Int) ≤ (ch.toNat : Int) := by omega
            have hs2 : (ch.toNat : Int) ≤ 122 := by omega
            have hci : ((ch.toNat : Int) - 32).toNat = ch.toNat - 32 := by omega
            have ho3 : (wr.setCell ⟨W4.heap.size, ch.toNat, none⟩ (.bool true)).cell? ⟨W4.heap.size, ch.toNat - 32, none⟩ = some _ := (Hq3.out.cell (ch.toNat - 32)).trans (by rw [bArr_set]; exact bArr_get _ (by omega))
            have hf3 := Hq3.out.frozen (ch.toNat - 32)
            have Hn : Hid (Box ((wr.setCell ⟨W4.heap.size, ch.toNat, none⟩ (.bool true)).setCell ⟨W4.heap.size, ch.toNat - 32, none⟩ (.bool true)) W4.heap.size 43 (bArr (hasB true ((ws.take k).flatten ++ bs.take (j + 1))))) := by
              have h := Hq3.out.set_ (ch.toNat - 32) (.bool true)
              rwa [has_step1 Hf.out, ← Hpre.out] at h
            have Hm : Hid (Ext W4 ((wr.setCell ⟨W4.heap.size, ch.toNat, none⟩ (.bool true)).setCell ⟨W4.heap.size, ch.toNat - 32, none⟩ (.bool true))) := hide (Below.setCell Hq.out (p := ⟨W4.heap.size, ch.toNat - 32, none⟩) (by simp) _)
            clear HX H6 hE hf hsm Hf Hpre Hq Hq3
            go_wp2
            exact ⟨⟨j + 1, by omega, by go_num, Hm, Hn⟩, by simp [intOf]; omega⟩
          · have hf : (f && smallB ch.toNat) = false := by simpa using hf
            have Hn : Hid (Box (wr.setCell ⟨W4.heap.size, ch.toNat, none⟩ (.bool true)) W4.heap.size 43 (bArr (hasB f ((ws.take k).flatten ++ bs.take (j + 1))))) := by
              have h := Hq3.out
              rwa [has_step0 hf, ← Hpre.out] at h
            clear HX H6 hE Hpre Hq3
            cases f
            · clear hf
              go_wp2_with fail
              exact ⟨⟨j + 1, by omega, by go_num, Hq, Hn⟩, by simp [intOf]; omega⟩
            · have hsm : smallB ch.toNat = false := by simpa using hf
              clear hf
              by_cases hs1 : (97 : Int) ≤ (ch.toNat : Int)
              · have hs2 : ¬ (ch.toNat : Int) ≤ 122 := by
                  intro h
                  unfold smallB at hsm
                  rw [decide_eq_true (show 97 ≤ ch.toNat by omega), decide_eq_true (show ch.toNat ≤ 122 by omega)] at hsm
                  cases hsm
                clear hsm
                go_wp2_with fail
                exact ⟨⟨j + 1, by omega, by go_num, Hq, Hn⟩, by simp [intOf]; omega⟩
              · clear hsm
                go_wp2_with fail
                exact ⟨⟨j + 1, by omega, by go_num, Hq, Hn⟩, by simp [intOf]; omega⟩
        · obtain rfl : j = bs.length := by omega
          have Hn : Hid (Box wr W4.heap.size 43 (bArr (hasB f (ws.take (k + 1)).flatten))) := by
            have h := H6.out
            rwa [List.take_length, ← Hsn.out] at h
          clear H6 hE
          go_wp2_with fail
          exact ⟨⟨k + 1, by omega, by go_num, HX, Hn⟩, by simp [intOf]; omega⟩
    · obtain rfl : k = ws.length := by omega
      have Hn : Hid (Box wr W4.heap.size 43 (bArr (hasB f ws.flatten))) := by
        have h := H6.out
        rwa [List.take_length] at h
      clear H6 hx
      obtain ⟨W6, hW6⟩ : ∃ W, W = wr := ⟨_, rfl⟩
      subst hW6
      have H9 := hide (H9.out.ext HX.out)
      have HB := hide (HB.out.ext HX.out)
      have HE := hide (HE.out.tr HX.out)
      clear HX hc5 hc6 hS0
      generalize hasB f ws.flatten = hh at *
      generalize W4.heap.size = g6 at *
      go_wp2_with fail
      clear hw1
      go_loopw [10] (fun i wq => ∃ k : Nat, k ≤ 256 ∧ i = .int .i64 (k : Int) ∧ Hid (Ext W6 wq)) (fun i _ => 256 - (intOf i).toNat)
      case atStart => exact ⟨0, by omega, rfl, Ext.rf _⟩
      case round =>
        obtain ⟨a, ha, rfl, HX⟩ := hrel
        by_cases hlt : a < 256
        · have hE : Ext w wr := HE.out.tr HX.out
          have hq1 : wr.cell? ⟨g9, a, none⟩ = some (.int .i64 (cf a)) := ((H9.out.ext HX.out).cell a).trans (iArr_get cf hlt)
          have hq2 : wr.cell? ⟨g6, a, none⟩ = some (.bool (hh a)) := ((Hn.out.ext HX.out).cell a).trans (bArr_get hh hlt)
          have hr1 := (Hrg.out a hlt).1
          have hr2 := (Hrg.out a hlt).2
          have hzz := Hze.out a hlt
          go_upto_region 20 with (fail)
          have key : ∀ W20, Ext wr W20 → Hid (Ext W6 W20) := fun W20 h => HX.out.tr h
          cases hya : hh a
          · have hz0 := hzz.2 hya
            rw [hya] at hq2
            refine vregion 21 [] (by kernel_rfl) (by kernel_rfl) (fun _ _ _ _ _ h => h) ?_
            refine VWalk.move _ rfl (want_none rfl) (opd_frame 10 rfl (by kernel_rfl)) ?_
            refine VWalk.indexArr (g := g9) (i := a) 29 3 _ _ .i64 rfl Try.underlying29 (by kernel_rfl) hlt (want_none rfl) (opd_frame 3 rfl (by kernel_rfl)) (opd_dep 0 73 0 rfl rfl rfl rfl) ?_
            refine VWalk.load1 3 _ rfl (want_none rfl) (opd_dep 1 74 0 rfl rfl rfl rfl) (fun _ => by kernel_rfl) hq1 (ext_drew _) ?_
            refine VWalk.lssF _ _ _ _ rfl (want_none rfl) (opd_dep 2 75 0 rfl rfl rfl rfl) (opd_const _) (by omega) ?_
            refine VWalk.move _ rfl (want_none rfl) (opd_dep 3 76 0 rfl rfl rfl rfl) ?_
            refine VWalk.move _ rfl (want_ff 4 77 0 rfl (by kernel_rfl) rfl rfl rfl rfl) (opd_frame 10 rfl (by kernel_rfl)) ?_
            refine VWalk.indexArr (g := g9) (i := a) 29 3 _ _ .i64 rfl Try.underlying29 (by kernel_rfl) hlt (want_ff 4 77 1 rfl (by kernel_rfl) rfl rfl rfl rfl) (opd_frame 3 rfl (by kernel_rfl)) (opd_dep 5 78 0 rfl rfl rfl rfl) ?_
            refine VWalk.load1 3 _ rfl (want_ff 4 77 2 rfl (by kernel_rfl) rfl rfl rfl rfl) (opd_dep 6 79 0 rfl rfl rfl rfl) (fun _ => by kernel_rfl) hq1 (ext_drew _) ?_
            refine VWalk.move _ rfl (want_ff 4 77 3 rfl (by kernel_rfl) rfl rfl rfl rfl) (opd_frame 4 rfl (by kernel_rfl)) ?_
            refine VWalk.geqF _ _ _ _ rfl (want_ff 4 77 4 rfl (by kernel_rfl) rfl rfl rfl rfl) (opd_dep 7 80 1 rfl rfl rfl rfl) (opd_dep 8 81 0 rfl rfl rfl rfl) (by omega) ?_
            refine VWalk.pickF _ _ _ rfl (want_none rfl) (opd_dep 4 77 5 rfl rfl rfl rfl) (opd_dep 9 82 0 rfl rfl rfl rfl) ?_
            refine VWalk.move _ rfl (want_none rfl) (opd_dep 10 83 0 rfl rfl rfl rfl) ?_
            refine VWalk.move _ rfl (want_ff 11 84 0 rfl (by kernel_rfl) rfl rfl rfl rfl) (opd_frame 10 rfl (by kernel_rfl)) ?_
            refine VWalk.indexArr (g := g9) (i := a) 29 3 _ _ .i64 rfl Try.underlying29 (by kernel_rfl) hlt (want_ff 11 84 1 rfl (by kernel_rfl) rfl rfl rfl rfl) (opd_frame 3 rfl (by kernel_rfl)) (opd_dep 12 85 0 rfl rfl rfl rfl) ?_
            refine VWalk.load1 3 _ rfl (want_ff 11 84 2 rfl (by kernel_rfl) rfl rfl rfl rfl) (opd_dep 13 86 0 rfl rfl rfl rfl) (fun _ => by kernel_rfl) hq1 (ext_drew _) ?_
            refine VWalk.eqT _ _ _ _ rfl (want_ff 11 84 3 rfl (by kernel_rfl) rfl rfl rfl rfl) (opd_dep 14 87 0 rfl rfl rfl rfl) (opd_const _) hz0 ?_
            refine VWalk.move _ rfl (want_ff 11 84 4 rfl (by kernel_rfl) rfl rfl rfl rfl) (opd_frame 10 rfl (by kernel_rfl)) ?_
            refine VWalk.indexArr (g := g6) (i := a) 43 4 _ _ .i64 rfl Try.underlying43 (by kernel_rfl) hlt (want_ff 11 84 5 rfl (by kernel_rfl) rfl rfl rfl rfl) (opd_frame 6 rfl (by kernel_rfl)) (opd_dep 16 89 0 rfl rfl rfl rfl) ?_
            refine VWalk.load1 4 _ rfl (want_ff 11 84 6 rfl (by kernel_rfl) rfl rfl rfl rfl) (opd_dep 17 90 0 rfl rfl rfl rfl) (fun _ => by kernel_rfl) hq2 (ext_drew _) ?_
            refine VWalk.eqTb' _ _ _ _ rfl (want_ff 11 84 7 rfl (by kernel_rfl) rfl rfl rfl rfl) (opd_dep 15 88 3 rfl rfl rfl rfl) (opd_dep 18 91 0 rfl rfl rfl rfl) Try.underlying4 (by decide) ?_
            refine VWalk.pickF _ _ _ rfl (want_none rfl) (opd_dep 11 84 8 rfl rfl rfl rfl) (opd_dep 19 92 0 rfl rfl rfl rfl) ?_
            refine ⟨rfl, fun W20 hE20 => ?_⟩
            refine VFin.eq ?_  -- 0
            refine VFin.eq ?_  -- 1
            refine VFin.eq ?_  -- 2
            refine VFin.eq ?_  -- 3
            refine VFin.eq ?_  -- 4
            refine VFin.eq ?_  -- 5
            refine VFin.eq ?_  -- 6
            refine VFin.eq ?_  -- 7
            refine VFin.eq ?_  -- 8
            refine VFin.eq ?_  -- 9
            refine VFin.eq ?_  -- 10
            refine VFin.eq ?_  -- 11
            refine VFin.eq ?_  -- 12
            refine VFin.eq ?_  -- 13
            refine VFin.eq ?_  -- 14
            refine VFin.eq ?_  -- 15
            refine VFin.eq ?_  -- 16
            refine VFin.eq ?_  -- 17
            refine VFin.eq ?_  -- 18
            refine VFin.eq ?_  -- 19
            refine VFin.eq ?_  -- 20
            refine VFin.nil ?_
            simp only [Act.put, List.setIfInBounds_toArray, List.set_cons_zero, List.set_cons_succ]
            have hE := hE.tr ((ext_drew _).tr hE20)
            have HX20 := key _ ((ext_drew _).tr hE20)
            clear hE hE20 hq1 hq2 hzz hz0 key HX hr1 hr2
            go_wp2_with fail
            go_loopw [11] (fun i wq => ∃ k : Nat, k ≤ a ∧ i = .int .i64 (k : Int) ∧ Hid (Ext W6 wq)) (fun i _ => a - (intOf i).toNat)
            case atStart => exact ⟨0, by omega, rfl, HX20⟩
            case round =>
              clear HX20
              obtain ⟨b, hb, rfl, HX⟩ := hrel
              by_cases hlt2 : b < a
              · have hE : Ext w wr := HE.out.tr HX.out
                have hbs := HB.out.ext HX.out
                have hw1 : IntKind.u8.wrap (a : Int) = (a : Int) := IntWalk.u8_in _ (by omega)
                have hw2 : IntKind.u8.wrap (b : Int) = (b : Int) := IntWalk.u8_in _ (by omega)
                go_upto_region 25 with (fail)
                refine vregion0 9 (by kernel_rfl) ?_
                refine VWalk.det1 (Operand.tmp 1) (want_none rfl) (opd_frame 1 rfl (by kernel_rfl)) (fun ρ w hE h1 => by simp [execOp, h1, go_sem]; rfl) ?_
                refine VWalk.load1 4 _ rfl (want_none rfl) (opd_dep 0 99 0 rfl rfl rfl rfl) (fun _ => by kernel_rfl) (hbs.at_ 0 rfl) (Ext.rf _) ?_
                refine VWalk.move _ rfl (want_none rfl) (opd_frame 10 rfl (by kernel_rfl)) ?_
                refine VWalk.det1 (r := .int .u8 ((UInt8.ofNat a).toNat : Int)) (Operand.tmp 101) (want_none rfl) (opd_dep 2 101 0 rfl rfl rfl rfl) (fun ρ w _ h1 => by rw [byte_toNat (by omega)]; simp [execOp, h1, go_sem]; exact hw1) ?_
                refine VWalk.lit (Fs := [_]) [Operand.tmp 102] 26 5 1 _ rfl rfl (by decide) (by decide) rfl Try.underlying26 (by kernel_rfl) (by kernel_rfl) ⟨oneCell_eq rfl, trivial⟩ (want_none rfl) ⟨(opd_dep 3 102 0 rfl rfl rfl rfl), trivial⟩ ?_
                refine VWalk.move _ rfl (want_none rfl) (opd_frame 11 rfl (by kernel_rfl)) ?_
                refine VWalk.det1 (r := .int .u8 ((UInt8.ofNat b).toNat : Int)) (Operand.tmp 104) (want_none rfl) (opd_dep 5 104 0 rfl rfl rfl rfl) (fun ρ w _ h1 => by rw [byte_toNat (by omega)]; simp [execOp, h1, go_sem]; exact hw2) ?_
                refine VWalk.lit (Fs := [_]) [Operand.tmp 105] 26 5 1 _ rfl rfl (by decide) (by decide) rfl Try.underlying26 (by kernel_rfl) (by kernel_rfl) ⟨oneCell_eq rfl, trivial⟩ (want_none rfl) ⟨(opd_dep 6 105 0 rfl rfl rfl rfl), trivial⟩ ?_
                refine VWalk.call3 20 _ _ _ _ rfl (enters_of Try.func20 (by kernel_rfl) rfl) (want_none rfl) (opd_dep 1 100 6 rfl rfl rfl rfl) (opd_dep 4 103 3 rfl rfl rfl rfl) (opd_dep 7 106 0 rfl rfl rfl rfl) (fun u v x W hX hu hv hx => by rw [show u = _ from hu]; exact rsame_any f [UInt8.ofNat a] [UInt8.ofNat b] v x W hv hx (by simp) (by simp)) ?_
                refine ⟨rfl, fun W25 hE25 => ?_⟩
                refine VFin.eq ?_  -- 0
                refine VFin.eq ?_  -- 1
                refine VFin.eq ?_  -- 2
                refine VFin.eq ?_  -- 3
                refine VFin.any fun v25_4 hv25_4 => ?_
                refine VFin.eq ?_  -- 5
                refine VFin.eq ?_  -- 6
                refine VFin.any fun v25_7 hv25_7 => ?_
                refine VFin.eq ?_  -- 8
                refine VFin.nil ?_
                simp only [Act.put, List.setIfInBounds_toArray, List.set_cons_zero, List.set_cons_succ]
                clear hv25_4 hv25_7
                have hE := hE.tr hE25
                have HX25 := hide (HX.out.tr hE25)
                have hp1 : W25.cell? ⟨g6, a, none⟩ = some (.bool false) := ((Hn.out.ext HX25.out).cell a).trans ((bArr_get hh hlt).trans (by rw [hya]))
                clear HX hE25 hbs
                go_upto_region 26 with (fail)
                refine vregion 19 [] (by kernel_rfl) (by kernel_rfl) (fun _ _ _ _ _ h => h) ?_
                refine VWalk.move _ rfl (want_none rfl) (opd_frame 10 rfl (by kernel_rfl)) ?_
                refine VWalk.indexArr (g := g6) (i := a) 43 4 _ _ .i64 rfl Try.underlying43 (by kernel_rfl) hlt (want_none rfl) (opd_frame 6 rfl (by kernel_rfl)) (opd_dep 0 108 0 rfl rfl rfl rfl) ?_
                refine VWalk.load1 4 _ rfl (want_none rfl) (opd_dep 1 109 0 rfl rfl rfl rfl) (fun _ => by kernel_rfl) hp1 (ext_drew _) ?_
                refine VWalk.move _ rfl (want_none rfl) (opd_dep 2 110 0 rfl rfl rfl rfl) ?_
                refine VWalk.skip (want_ft 3 111 0 rfl (by kernel_rfl) rfl rfl rfl rfl) ?_
                refine VWalk.skip (want_ft 3 111 1 rfl (by kernel_rfl) rfl rfl rfl rfl) ?_
                refine VWalk.skip (want_ft 3 111 2 rfl (by kernel_rfl) rfl rfl rfl rfl) ?_
                refine VWalk.pickF _ _ _ rfl (want_none rfl) (opd_dep 3 111 3 rfl rfl rfl rfl) (opd_const _) ?_
                refine VWalk.move _ rfl (want_none rfl) (opd_dep 7 115 0 rfl rfl rfl rfl) ?_
                refine VWalk.skip (want_ft 8 116 0 rfl (by kernel_rfl) rfl rfl rfl rfl) ?_
                refine VWalk.skip (want_ft 8 116 1 rfl (by kernel_rfl) rfl rfl rfl rfl) ?_
                refine VWalk.skip (want_ft 8 116 2 rfl (by kernel_rfl) rfl rfl rfl rfl) ?_
                refine VWalk.skip (want_ft 8 116 3 rfl (by kernel_rfl) rfl rfl rfl rfl) ?_
                refine VWalk.skip (want_ft 8 116 4 rfl (by kernel_rfl) rfl rfl rfl rfl) ?_
                refine VWalk.skip (want_ft 8 116 5 rfl (by kernel_rfl) rfl rfl rfl rfl) ?_
                refine VWalk.skip (want_ft 8 116 6 rfl (by kernel_rfl) rfl rfl rfl rfl) ?_
                refine VWalk.skip (want_ft 8 116 7 rfl (by kernel_rfl) rfl rfl rfl rfl) ?_
                refine VWalk.skip (want_ft 8 116 8 rfl (by kernel_rfl) rfl rfl rfl rfl) ?_
                refine VWalk.pickF _ _ _ rfl (want_none rfl) (opd_dep 8 116 9 rfl rfl rfl rfl) (opd_const _) ?_
                refine ⟨rfl, fun W26 hE26 => ?_⟩
                refine VFin.eq ?_  -- 0
                refine VFin.eq ?_  -- 1
                refine VFin.eq ?_  -- 2
                refine VFin.eq ?_  -- 3
                refine VFin.eq ?_  -- 4
                refine VFin.eq ?_  -- 5
                refine VFin.eq ?_  -- 6
                refine VFin.eq ?_  -- 7
                refine VFin.eq ?_  -- 8
                refine VFin.eq ?_  -- 9
                refine VFin.eq ?_  -- 10
                refine VFin.eq ?_  -- 11
                refine VFin.eq ?_  -- 12
                refine VFin.eq ?_  -- 13
                refine VFin.eq ?_  -- 14
                refine VFin.eq ?_  -- 15
                refine VFin.eq ?_  -- 16
                refine VFin.eq ?_  -- 17
                refine VFin.eq ?_  -- 18
                refine VFin.nil ?_
                simp only [Act.put, List.setIfInBounds_toArray, List.set_cons_zero, List.set_cons_succ]
                have hE := hE.tr ((ext_drew _).tr hE26)
                have HX26 := hide (HX25.out.tr ((ext_drew _).tr hE26))
                clear HX25 hE26 hE hp1
                go_wp2_with fail
                exact ⟨⟨b + 1, by omega, by go_num, HX26⟩, by simp [intOf]; omega⟩
              · go_wp2_with fail
                exact ⟨⟨a + 1, by omega, by go_num, HX⟩, by simp [intOf]; omega⟩
          · have hz0 : ¬ cf a = 0 := fun h => by rw [hzz.1 h] at hya; cases hya
            rw [hya] at hq2
            refine vregion 21 [] (by kernel_rfl) (by kernel_rfl) (fun _ _ _ _ _ h => h) ?_
            refine VWalk.move _ rfl (want_none rfl) (opd_frame 10 rfl (by kernel_rfl)) ?_
            refine VWalk.indexArr (g := g9) (i := a) 29 3 _ _ .i64 rfl Try.underlying29 (by kernel_rfl) hlt (want_none rfl) (opd_frame 3 rfl (by kernel_rfl)) (opd_dep 0 73 0 rfl rfl rfl rfl) ?_
            refine VWalk.load1 3 _ rfl (want_none rfl) (opd_dep 1 74 0 rfl rfl rfl rfl) (fun _ => by kernel_rfl) hq1 (ext_drew _) ?_
            refine VWalk.lssF _ _ _ _ rfl (want_none rfl) (opd_dep 2 75 0 rfl rfl rfl rfl) (opd_const _) (by omega) ?_
            refine VWalk.move _ rfl (want_none rfl) (opd_dep 3 76 0 rfl rfl rfl rfl) ?_
            refine VWalk.move _ rfl (want_ff 4 77 0 rfl (by kernel_rfl) rfl rfl rfl rfl) (opd_frame 10 rfl (by kernel_rfl)) ?_
            refine VWalk.indexArr (g := g9) (i := a) 29 3 _ _ .i64 rfl Try.underlying29 (by kernel_rfl) hlt (want_ff 4 77 1 rfl (by kernel_rfl) rfl rfl rfl rfl) (opd_frame 3 rfl (by kernel_rfl)) (opd_dep 5 78 0 rfl rfl rfl rfl) ?_
            refine VWalk.load1 3 _ rfl (want_ff 4 77 2 rfl (by kernel_rfl) rfl rfl rfl rfl) (opd_dep 6 79 0 rfl rfl rfl rfl) (fun _ => by kernel_rfl) hq1 (ext_drew _) ?_
            refine VWalk.move _ rfl (want_ff 4 77 3 rfl (by kernel_rfl) rfl rfl rfl rfl) (opd_frame 4 rfl (by kernel_rfl)) ?_
            refine VWalk.geqF _ _ _ _ rfl (want_ff 4 77 4 rfl (by kernel_rfl) rfl rfl rfl rfl) (opd_dep 7 80 1 rfl rfl rfl rfl) (opd_dep 8 81 0 rfl rfl rfl rfl) (by omega) ?_
            refine VWalk.pickF _ _ _ rfl (want_none rfl) (opd_dep 4 77 5 rfl rfl rfl rfl) (opd_dep 9 82 0 rfl rfl rfl rfl) ?_
            refine VWalk.move _ rfl (want_none rfl) (opd_dep 10 83 0 rfl rfl rfl rfl) ?_
            refine VWalk.move _ rfl (want_ff 11 84 0 rfl (by kernel_rfl) rfl rfl rfl rfl) (opd_frame 10 rfl (by kernel_rfl)) ?_
            refine VWalk.indexArr (g := g9) (i := a) 29 3 _ _ .i64 rfl Try.underlying29 (by kernel_rfl) hlt (want_ff 11 84 1 rfl (by kernel_rfl) rfl rfl rfl rfl) (opd_frame 3 rfl (by kernel_rfl)) (opd_dep 12 85 0 rfl rfl rfl rfl) ?_
            refine VWalk.load1 3 _ rfl (want_ff 11 84 2 rfl (by kernel_rfl) rfl rfl rfl rfl) (opd_dep 13 86 0 rfl rfl rfl rfl) (fun _ => by kernel_rfl) hq1 (ext_drew _) ?_
            refine VWalk.eqT' _ _ _ _ rfl (want_ff 11 84 3 rfl (by kernel_rfl) rfl rfl rfl rfl) (opd_dep 14 87 0 rfl rfl rfl rfl) (opd_const _) hz0 ?_
            refine VWalk.move _ rfl (want_ff 11 84 4 rfl (by kernel_rfl) rfl rfl rfl rfl) (opd_frame 10 rfl (by kernel_rfl)) ?_
            refine VWalk.indexArr (g := g6) (i := a) 43 4 _ _ .i64 rfl Try.underlying43 (by kernel_rfl) hlt (want_ff 11 84 5 rfl (by kernel_rfl) rfl rfl rfl rfl) (opd_frame 6 rfl (by kernel_rfl)) (opd_dep 16 89 0 rfl rfl rfl rfl) ?_
            refine VWalk.load1 4 _ rfl (want_ff 11 84 6 rfl (by kernel_rfl) rfl rfl rfl rfl) (opd_dep 17 90 0 rfl rfl rfl rfl) (fun _ => by kernel_rfl) hq2 (ext_drew _) ?_
            refine VWalk.eqTb' _ _ _ _ rfl (want_ff 11 84 7 rfl (by kernel_rfl) rfl rfl rfl rfl) (opd_dep 15 88 3 rfl rfl rfl rfl) (opd_dep 18 91 0 rfl rfl rfl rfl) Try.underlying4 (by decide) ?_
            refine VWalk.pickF _ _ _ rfl (want_none rfl) (opd_dep 11 84 8 rfl rfl rfl rfl) (opd_dep 19 92 0 rfl rfl rfl rfl) ?_
            refine ⟨rfl, fun W20 hE20 => ?_⟩
            refine VFin.eq ?_  -- 0
            refine VFin.eq ?_  -- 1
            refine VFin.eq ?_  -- 2
            refine VFin.eq ?_  -- 3
            refine VFin.eq ?_  -- 4
            refine VFin.eq ?_  -- 5
            refine VFin.eq ?_  -- 6
            refine VFin.eq ?_  -- 7
            refine VFin.eq ?_  -- 8
            refine VFin.eq ?_  -- 9
            refine VFin.eq ?_  -- 10
            refine VFin.eq ?_  -- 11
            refine VFin.eq ?_  -- 12
            refine VFin.eq ?_  -- 13
            refine VFin.eq ?_  -- 14
            refine VFin.eq ?_  -- 15
            refine VFin.eq ?_  -- 16
            refine VFin.eq ?_  -- 17
            refine VFin.eq ?_  -- 18
            refine VFin.eq ?_  -- 19
            refine VFin.eq ?_  -- 20
            refine VFin.nil ?_
            simp only [Act.put, List.setIfInBounds_toArray, List.set_cons_zero, List.set_cons_succ]
            have hE := hE.tr ((ext_drew _).tr hE20)
            have HX20 := key _ ((ext_drew _).tr hE20)
            clear hE hE20 hq1 hq2 hzz hz0 key HX hr1 hr2
            go_wp2_with fail
            go_loopw [11] (fun i wq => ∃ k : Nat, k ≤ a ∧ i = .int .i64 (k : Int) ∧ Hid (Ext W6 wq)) (fun i _ => a - (intOf i).toNat)
            case atStart => exact ⟨0, by omega, rfl, HX20⟩
            case round =>
              clear HX20
              obtain ⟨b, hb, rfl, HX⟩ := hrel
              by_cases hlt2 : b < a
              · have hE : Ext w wr := HE.out.tr HX.out
                have hbs := HB.out.ext HX.out
                have hltb : b < 256 := by omega
                have hw1 : IntKind.u8.wrap (a : Int) = (a : Int) := IntWalk.u8_in _ (by omega)
                have hw2 : IntKind.u8.wrap (b : Int) = (b : Int) := IntWalk.u8_in _ (by omega)
                have heq := Heq.out a b hlt hltb hya
                have hsame := fun v x W hv hx => rsame_any f [UInt8.ofNat a] [UInt8.ofNat b] v x W hv hx (by simp) (by simp)
                generalize sameB f [UInt8.ofNat a] [UInt8.ofNat b] = zz at *
                have Hq := hide heq
                clear heq
                go_upto_region 25 with (fail)
                refine vregion0 9 (by kernel_rfl) ?_
                refine VWalk.det1 (Operand.tmp 1) (want_none rfl) (opd_frame 1 rfl (by kernel_rfl)) (fun ρ w hE h1 => by simp [execOp, h1, go_sem]; rfl) ?_
                refine VWalk.load1 4 _ rfl (want_none rfl) (opd_dep 0 99 0 rfl rfl rfl rfl) (fun _ => by kernel_rfl) (hbs.at_ 0 rfl) (Ext.rf _) ?_
                refine VWalk.move _ rfl (want_none rfl) (opd_frame 10 rfl (by kernel_rfl)) ?_
                refine VWalk.det1 (r := .int .u8 ((UInt8.ofNat a).toNat : Int)) (Operand.tmp 101) (want_none rfl) (opd_dep 2 101 0 rfl rfl rfl rfl) (fun ρ w _ h1 => by rw [byte_toNat (by omega)]; simp [execOp, h1, go_sem]; exact hw1) ?_
                refine VWalk.lit (Fs := [_]) [Operand.tmp 102] 26 5 1 _ rfl rfl (by decide) (by decide) rfl Try.underlying26 (by kernel_rfl) (by kernel_rfl) ⟨oneCell_eq rfl, trivial⟩ (want_none rfl) ⟨(opd_dep 3 102 0 rfl rfl rfl rfl), trivial⟩ ?_
                refine VWalk.move _ rfl (want_none rfl) (opd_frame 11 rfl (by kernel_rfl)) ?_
                refine VWalk.det1 (r := .int .u8 ((UInt8.ofNat b).toNat : Int)) (Operand.tmp 104) (want_none rfl) (opd_dep 5 104 0 rfl rfl rfl rfl) (fun ρ w _ h1 => by rw [byte_toNat (by omega)]; simp [execOp, h1, go_sem]; exact hw2) ?_
                refine VWalk.lit (Fs := [_]) [Operand.tmp 105] 26 5 1 _ rfl rfl (by decide) (by decide) rfl Try.underlying26 (by kernel_rfl) (by kernel_rfl) ⟨oneCell_eq rfl, trivial⟩ (want_none rfl) ⟨(opd_dep 6 105 0 rfl rfl rfl rfl), trivial⟩ ?_
                refine VWalk.call3 20 _ _ _ _ rfl (enters_of Try.func20 (by kernel_rfl) rfl) (want_none rfl) (opd_dep 1 100 6 rfl rfl rfl rfl) (opd_dep 4 103 3 rfl rfl rfl rfl) (opd_dep 7 106 0 rfl rfl rfl rfl) (fun u v x W hX hu hv hx => by rw [show u = _ from hu]; exact hsame v x W hv hx) ?_
                refine ⟨rfl, fun W25 hE25 => ?_⟩
                refine VFin.eq ?_  -- 0
                refine VFin.eq ?_  -- 1
                refine VFin.eq ?_  -- 2
                refine VFin.eq ?_  -- 3
                refine VFin.any fun v25_4 hv25_4 => ?_
                refine VFin.eq ?_  -- 5
                refine VFin.eq ?_  -- 6
                refine VFin.any fun v25_7 hv25_7 => ?_
                refine VFin.eq ?_  -- 8
                refine VFin.nil ?_
                simp only [Act.put, List.setIfInBounds_toArray, List.set_cons_zero, List.set_cons_succ]
                clear hv25_4 hv25_7
                have hE := hE.tr hE25
                have HX25 := hide (HX.out.tr hE25)
                have hp1 : W25.cell? ⟨g6, a, none⟩ = some (.bool true) := ((Hn.out.ext HX25.out).cell a).trans ((bArr_get hh hlt).trans (by rw [hya]))
                have hp2 : W25.cell? ⟨g6, b, none⟩ = some (.bool (hh b)) := ((Hn.out.ext HX25.out).cell b).trans (bArr_get hh hltb)
                have hp3 : W25.cell? ⟨g9, a, none⟩ = some (.int .i64 (cf a)) := ((H9.out.ext HX25.out).cell a).trans (iArr_get cf hlt)
                have hp4 : W25.cell? ⟨g9, b, none⟩ = some (.int .i64 (cf b)) := ((H9.out.ext HX25.out).cell b).trans (iArr_get cf hltb)
                clear HX hE25 hbs hsame
                go_upto_region 26 with (fail)
                cases hyb : hh b
                · rw [hyb] at hp2
                  refine vregion 19 [] (by kernel_rfl) (by kernel_rfl) (fun _ _ _ _ _ h => h) ?_
                  refine VWalk.move _ rfl (want_none rfl) (opd_frame 10 rfl (by kernel_rfl)) ?_
                  refine VWalk.indexArr (g := g6) (i := a) 43 4 _ _ .i64 rfl Try.underlying43 (by kernel_rfl) hlt (want_none rfl) (opd_frame 6 rfl (by kernel_rfl)) (opd_dep 0 108 0 rfl rfl rfl rfl) ?_
                  refine VWalk.load1 4 _ rfl (want_none rfl) (opd_dep 1 109 0 rfl rfl rfl rfl) (fun _ => by kernel_rfl) hp1 (ext_drew _) ?_
                  refine VWalk.move _ rfl (want_none rfl) (opd_dep 2 110 0 rfl rfl rfl rfl) ?_
                  refine VWalk.move _ rfl (want_tt 3 111 0 rfl (by kernel_rfl) rfl rfl rfl rfl) (opd_frame 11 rfl (by kernel_rfl)) ?_
                  refine VWalk.indexArr (g := g6) (i := b) 43 4 _ _ .i64 rfl Try.underlying43 (by kernel_rfl) hltb (want_tt 3 111 1 rfl (by kernel_rfl) rfl rfl rfl rfl) (opd_frame 6 rfl (by kernel_rfl)) (opd_dep 4 112 0 rfl rfl rfl rfl) ?_
                  refine VWalk.load1 4 _ rfl (want_tt 3 111 2 rfl (by kernel_rfl) rfl rfl rfl rfl) (opd_dep 5 113 0 rfl rfl rfl rfl) (fun _ => by kernel_rfl) hp2 (ext_drew _) ?_
                  refine VWalk.pickT _ _ _ rfl (want_none rfl) (opd_dep 3 111 3 rfl rfl rfl rfl) (opd_dep 6 114 0 rfl rfl rfl rfl) ?_
                  refine VWalk.move _ rfl (want_none rfl) (opd_dep 7 115 0 rfl rfl rfl rfl) ?_
                  refine VWalk.skip (want_ft 8 116 0 rfl (by kernel_rfl) rfl rfl rfl rfl) ?_
                  refine VWalk.skip (want_ft 8 116 1 rfl (by kernel_rfl) rfl rfl rfl rfl) ?_
                  refine VWalk.skip (want_ft 8 116 2 rfl (by kernel_rfl) rfl rfl rfl rfl) ?_
                  refine VWalk.skip (want_ft 8 116 3 rfl (by kernel_rfl) rfl rfl rfl rfl) ?_
                  refine VWalk.skip (want_ft 8 116 4 rfl (by kernel_rfl) rfl rfl rfl rfl) ?_
                  refine VWalk.skip (want_ft 8 116 5 rfl (by kernel_rfl) rfl rfl rfl rfl) ?_
                  refine VWalk.skip (want_ft 8 116 6 rfl (by kernel_rfl) rfl rfl rfl rfl) ?_
                  refine VWalk.skip (want_ft 8 116 7 rfl (by kernel_rfl) rfl rfl rfl rfl) ?_
                  refine VWalk.skip (want_ft 8 116 8 rfl (by kernel_rfl) rfl rfl rfl rfl) ?_
                  refine VWalk.pickF _ _ _ rfl (want_none rfl) (opd_dep 8 116 9 rfl rfl rfl rfl) (opd_const _) ?_
                  refine ⟨rfl, fun W26 hE26 => ?_⟩
                  refine VFin.eq ?_  -- 0
                  refine VFin.eq ?_  -- 1
                  refine VFin.eq ?_  -- 2
                  refine VFin.eq ?_  -- 3
                  refine VFin.eq ?_  -- 4
                  refine VFin.eq ?_  -- 5
                  refine VFin.eq ?_  -- 6
                  refine VFin.eq ?_  -- 7
                  refine VFin.eq ?_  -- 8
                  refine VFin.eq ?_  -- 9
                  refine VFin.eq ?_  -- 10
                  refine VFin.eq ?_  -- 11
                  refine VFin.eq ?_  -- 12
                  refine VFin.eq ?_  -- 13
                  refine VFin.eq ?_  -- 14
                  refine VFin.eq ?_  -- 15
                  refine VFin.eq ?_  -- 16
                  refine VFin.eq ?_  -- 17
                  refine VFin.eq ?_  -- 18
                  refine VFin.nil ?_
                  simp only [Act.put, List.setIfInBounds_toArray, List.set_cons_zero, List.set_cons_succ]
                  have hE := hE.tr ((ext_drew _).tr hE26)
                  have HX26 := hide (HX25.out.tr ((ext_drew _).tr hE26))
                  clear HX25 hE26 hE hp1 hp2 hp3 hp4
                  go_wp2_with fail
                  exact ⟨⟨b + 1, by omega, by go_num, HX26⟩, by simp [intOf]; omega⟩
                · rw [hyb] at hp2
                  cases zz
                  · have he : ¬ cf a = cf b := fun h => by have := (Hq.out hyb).1 h; cases this
                    refine vregion 19 [] (by kernel_rfl) (by kernel_rfl) (fun _ _ _ _ _ h => h) ?_
                    refine VWalk.move _ rfl (want_none rfl) (opd_frame 10 rfl (by kernel_rfl)) ?_
                    refine VWalk.indexArr (g := g6) (i := a) 43 4 _ _ .i64 rfl Try.underlying43 (by kernel_rfl) hlt (want_none rfl) (opd_frame 6 rfl (by kernel_rfl)) (opd_dep 0 108 0 rfl rfl rfl rfl) ?_
                    refine VWalk.load1 4 _ rfl (want_none rfl) (opd_dep 1 109 0 rfl rfl rfl rfl) (fun _ => by kernel_rfl) hp1 (ext_drew _) ?_
                    refine VWalk.move _ rfl (want_none rfl) (opd_dep 2 110 0 rfl rfl rfl rfl) ?_
                    refine VWalk.move _ rfl (want_tt 3 111 0 rfl (by kernel_rfl) rfl rfl rfl rfl) (opd_frame 11 rfl (by kernel_rfl)) ?_
                    refine VWalk.indexArr (g := g6) (i := b) 43 4 _ _ .i64 rfl Try.underlying43 (by kernel_rfl) hltb (want_tt 3 111 1 rfl (by kernel_rfl) rfl rfl rfl rfl) (opd_frame 6 rfl (by kernel_rfl)) (opd_dep 4 112 0 rfl rfl rfl rfl) ?_
                    refine VWalk.load1 4 _ rfl (want_tt 3 111 2 rfl (by kernel_rfl) rfl rfl rfl rfl) (opd_dep 5 113 0 rfl rfl rfl rfl) (fun _ => by kernel_rfl) hp2 (ext_drew _) ?_
                    refine VWalk.pickT _ _ _ rfl (want_none rfl) (opd_dep 3 111 3 rfl rfl rfl rfl) (opd_dep 6 114 0 rfl rfl rfl rfl) ?_
                    refine VWalk.move _ rfl (want_none rfl) (opd_dep 7 115 0 rfl rfl rfl rfl) ?_
                    refine VWalk.move _ rfl (want_tt 8 116 0 rfl (by kernel_rfl) rfl rfl rfl rfl) (opd_frame 10 rfl (by kernel_rfl)) ?_
                    refine VWalk.indexArr (g := g9) (i := a) 29 3 _ _ .i64 rfl Try.underlying29 (by kernel_rfl) hlt (want_tt 8 116 1 rfl (by kernel_rfl) rfl rfl rfl rfl) (opd_frame 3 rfl (by kernel_rfl)) (opd_dep 9 117 0 rfl rfl rfl rfl) ?_
                    refine VWalk.load1 3 _ rfl (want_tt 8 116 2 rfl (by kernel_rfl) rfl rfl rfl rfl) (opd_dep 10 118 0 rfl rfl rfl rfl) (fun _ => by kernel_rfl) hp3 (ext_drew _) ?_
                    refine VWalk.move _ rfl (want_tt 8 116 3 rfl (by kernel_rfl) rfl rfl rfl rfl) (opd_frame 11 rfl (by kernel_rfl)) ?_
                    refine VWalk.indexArr (g := g9) (i := b) 29 3 _ _ .i64 rfl Try.underlying29 (by kernel_rfl) hltb (want_tt 8 116 4 rfl (by kernel_rfl) rfl rfl rfl rfl) (opd_frame 3 rfl (by kernel_rfl)) (opd_dep 12 120 0 rfl rfl rfl rfl) ?_
                    refine VWalk.load1 3 _ rfl (want_tt 8 116 5 rfl (by kernel_rfl) rfl rfl rfl rfl) (opd_dep 13 121 0 rfl rfl rfl rfl) (fun _ => by kernel_rfl) hp4 (ext_drew _) ?_
                    refine VWalk.eqT' _ _ _ _ rfl (want_tt 8 116 6 rfl (by kernel_rfl) rfl rfl rfl rfl) (opd_dep 11 119 3 rfl rfl rfl rfl) (opd_dep 14 122 0 rfl rfl rfl rfl) he ?_
                    refine VWalk.move _ rfl (want_tt 8 116 7 rfl (by kernel_rfl) rfl rfl rfl rfl) (opd_frame 12 rfl (by kernel_rfl)) ?_
                    refine VWalk.neTb _ _ _ _ rfl (want_tt 8 116 8 rfl (by kernel_rfl) rfl rfl rfl rfl) (opd_dep 15 123 1 rfl rfl rfl rfl) (opd_dep 16 124 0 rfl rfl rfl rfl) Try.underlying4 rfl ?_
                    refine VWalk.pickT _ _ _ rfl (want_none rfl) (opd_dep 8 116 9 rfl rfl rfl rfl) (opd_dep 17 125 0 rfl rfl rfl rfl) ?_
                    refine ⟨rfl, fun W26 hE26 => ?_⟩
                    refine VFin.eq ?_  -- 0
                    refine VFin.eq ?_  -- 1
                    refine VFin.eq ?_  -- 2
                    refine VFin.eq ?_  -- 3
                    refine VFin.eq ?_  -- 4
                    refine VFin.eq ?_  -- 5
                    refine VFin.eq ?_  -- 6
                    refine VFin.eq ?_  -- 7
                    refine VFin.eq ?_  -- 8
                    refine VFin.eq ?_  -- 9
                    refine VFin.eq ?_  -- 10
                    refine VFin.eq ?_  -- 11
                    refine VFin.eq ?_  -- 12
                    refine VFin.eq ?_  -- 13
                    refine VFin.eq ?_  -- 14
                    refine VFin.eq ?_  -- 15
                    refine VFin.eq ?_  -- 16
                    refine VFin.eq ?_  -- 17
                    refine VFin.eq ?_  -- 18
                    refine VFin.nil ?_
                    simp only [Act.put, List.setIfInBounds_toArray, List.set_cons_zero, List.set_cons_succ]
                    have hE := hE.tr ((ext_drew _).tr hE26)
                    have HX26 := hide (HX25.out.tr ((ext_drew _).tr hE26))
                    clear HX25 hE26 hE hp1 hp2 hp3 hp4 he
                    go_wp2_with fail
                    exact ⟨⟨b + 1, by omega, by go_num, HX26⟩, by simp [intOf]; omega⟩
                  · have he : cf a = cf b := (Hq.out hyb).2 rfl
                    refine vregion 19 [] (by kernel_rfl) (by kernel_rfl) (fun _ _ _ _ _ h => h) ?_
                    refine VWalk.move _ rfl (want_none rfl) (opd_frame 10 rfl (by kernel_rfl)) ?_
                    refine VWalk.indexArr (g := g6) (i := a) 43 4 _ _ .i64 rfl Try.underlying43 (by kernel_rfl) hlt (want_none rfl) (opd_frame 6 rfl (by kernel_rfl)) (opd_dep 0 108 0 rfl rfl rfl rfl) ?_
                    refine VWalk.load1 4 _ rfl (want_none rfl) (opd_dep 1 109 0 rfl rfl rfl rfl) (fun _ => by kernel_rfl) hp1 (ext_drew _) ?_
                    refine VWalk.move _ rfl (want_none rfl) (opd_dep 2 110 0 rfl rfl rfl rfl) ?_
                    refine VWalk.move _ rfl (want_tt 3 111 0 rfl (by kernel_rfl) rfl rfl rfl rfl) (opd_frame 11 rfl (by kernel_rfl)) ?_
                    refine VWalk.indexArr (g := g6) (i := b) 43 4 _ _ .i64 rfl Try.underlying43 (by kernel_rfl) hltb (want_tt 3 111 1 rfl (by kernel_rfl) rfl rfl rfl rfl) (opd_frame 6 rfl (by kernel_rfl)) (opd_dep 4 112 0 rfl rfl rfl rfl) ?_
                    refine VWalk.load1 4 _ rfl (want_tt 3 111 2 rfl (by kernel_rfl) rfl rfl rfl rfl) (opd_dep 5 113 0 rfl rfl rfl rfl) (fun _ => by kernel_rfl) hp2 (ext_drew _) ?_
                    refine VWalk.pickT _ _ _ rfl (want_none rfl) (opd_dep 3 111 3 rfl rfl rfl rfl) (opd_dep 6 114 0 rfl rfl rfl rfl) ?_
                    refine VWalk.move _ rfl (want_none rfl) (opd_dep 7 115 0 rfl rfl rfl rfl) ?_
                    refine VWalk.move _ rfl (want_tt 8 116 0 rfl (by kernel_rfl) rfl rfl rfl rfl) (opd_frame 10 rfl (by kernel_rfl)) ?_
                    refine VWalk.indexArr (g := g9) (i := a) 29 3 _ _ .i64 rfl Try.underlying29 (by kernel_rfl) hlt (want_tt 8 116 1 rfl (by kernel_rfl) rfl rfl rfl rfl) (opd_frame 3 rfl (by kernel_rfl)) (opd_dep 9 117 0 rfl rfl rfl rfl) ?_
                    refine VWalk.load1 3 _ rfl (want_tt 8 116 2 rfl (by kernel_rfl) rfl rfl rfl rfl) (opd_dep 10 118 0 rfl rfl rfl rfl) (fun _ => by kernel_rfl) hp3 (ext_drew _) ?_
                    refine VWalk.move _ rfl (want_tt 8 116 3 rfl (by kernel_rfl) rfl rfl rfl rfl) (opd_frame 11 rfl (by kernel_rfl)) ?_
                    refine VWalk.indexArr (g := g9) (i := b) 29 3 _ _ .i64 rfl Try.underlying29 (by kernel_rfl) hltb (want_tt 8 116 4 rfl (by kernel_rfl) rfl rfl rfl rfl) (opd_frame 3 rfl (by kernel_rfl)) (opd_dep 12 120 0 rfl rfl rfl rfl) ?_
                    refine VWalk.load1 3 _ rfl (want_tt 8 116 5 rfl (by kernel_rfl) rfl rfl rfl rfl) (opd_dep 13 121 0 rfl rfl rfl rfl) (fun _ => by kernel_rfl) hp4 (ext_drew _) ?_
                    refine VWalk.eqT _ _ _ _ rfl (want_tt 8 116 6 rfl (by kernel_rfl) rfl rfl rfl rfl) (opd_dep 11 119 3 rfl rfl rfl rfl) (opd_dep 14 122 0 rfl rfl rfl rfl) he ?_
                    refine VWalk.move _ rfl (want_tt 8 116 7 rfl (by kernel_rfl) rfl rfl rfl rfl) (opd_frame 12 rfl (by kernel_rfl)) ?_
                    refine VWalk.neTb _ _ _ _ rfl (want_tt 8 116 8 rfl (by kernel_rfl) rfl rfl rfl rfl) (opd_dep 15 123 1 rfl rfl rfl rfl) (opd_dep 16 124 0 rfl rfl rfl rfl) Try.underlying4 rfl ?_
                    refine VWalk.pickT _ _ _ rfl (want_none rfl) (opd_dep 8 116 9 rfl rfl rfl rfl) (opd_dep 17 125 0 rfl rfl rfl rfl) ?_
                    refine ⟨rfl, fun W26 hE26 => ?_⟩
                    refine VFin.eq ?_  -- 0
                    refine VFin.eq ?_  -- 1
                    refine VFin.eq ?_  -- 2
                    refine VFin.eq ?_  -- 3
                    refine VFin.eq ?_  -- 4
                    refine VFin.eq ?_  -- 5
                    refine VFin.eq ?_  -- 6
                    refine VFin.eq ?_  -- 7
                    refine VFin.eq ?_  -- 8
                    refine VFin.eq ?_  -- 9
                    refine VFin.eq ?_  -- 10
                    refine VFin.eq ?_  -- 11
                    refine VFin.eq ?_  -- 12
                    refine VFin.eq ?_  -- 13
                    refine VFin.eq ?_  -- 14
                    refine VFin.eq ?_  -- 15
                    refine VFin.eq ?_  -- 16
                    refine VFin.eq ?_  -- 17
                    refine VFin.eq ?_  -- 18
                    refine VFin.nil ?_
                    simp only [Act.put, List.setIfInBounds_toArray, List.set_cons_zero, List.set_cons_succ]
                    have hE := hE.tr ((ext_drew _).tr hE26)
                    have HX26 := hide (HX25.out.tr ((ext_drew _).tr hE26))
                    clear HX25 hE26 hE hp1 hp2 hp3 hp4 he
                    go_wp2_with fail
                    exact ⟨⟨b + 1, by omega, by go_num, HX26⟩, by simp [intOf]; omega⟩
              · go_wp2_with fail
                exact ⟨⟨a + 1, by omega, by go_num, HX⟩, by simp [intOf]; omega⟩
        · have hE : Ext w wr := HE.out.tr HX.out
          go_wp2_with fail
          refine (hwk _).mono ?_
          rintro e w3 ⟨u, rfl, hE3, rfl⟩
          go_wp2
          go_ret
          exact Ret.mk (hE.tr hE3) rfl
end Go.Proofs.Ytfbamdkalamliaa
