/- ClassRise, walked. -/
import Derived.Test.YtfbamdkalamliaaClX
import Derived.Test.YtfbamdkalamliaaClU
namespace Go.Proofs.Ytfbamdkalamliaa
open Go.RowKit LetM SetM
set_option maxRecDepth 100000 in
set_option maxHeartbeats 8000000 in
theorem classRise_any (f : Bool) (ws : List (List UInt8)) (u : Value) (w : World) (hS : VSet f ws u w) : Calls Try.prog 6 #[u] w (Ret w (VEq (.bool true))) := by
  have hwk := wakes_any
  have hg1 := fun W hv => setgreat_any f ws u W hv
  have hg2 := fun W hv => setright_any f ws u W hv
  unfold VGreat at hg1
  have hS0 := hS
  obtain ⟨sl, rfl, hP⟩ := hS
  obtain ⟨A, c, rfl, hc5, hc6, hx⟩ := VParts.form hP
  unfold maxLen at hc6
  clear hP
  have hX := ext_alloc w (.cells #[.bool f, .slice A ws.length c] 24)
  have hbx := Box.new w 24 #[.bool f, .slice A ws.length c]
  go_enter Try.func6, Try.ntmps6
  go_wp2_with fail
  refine (hg1 _ (VP.st _ _ _ _ hS0 hX)).mono ?_
  rintro e w1 ⟨u, rfl, hE, rfl⟩
  have hbx := hbx.ext hE
  have hE := hX.tr hE
  clear hX
  obtain ⟨g1, hq1⟩ : ∃ g, greatB ws = g := ⟨_, rfl⟩
  rw [hq1]
  clear hg1
  cases g1
  case true =>
    clear hS0 hq1 hbx hg2
    go_wp2_with fail
    refine (hwk _).mono ?_
    rintro e w3 ⟨u, rfl, hE3, rfl⟩
    go_wp2
    go_ret
    exact Ret.mk (hE.tr hE3) rfl
  have hd0 := hbx.at_ 0 rfl
  have hd1 := hbx.at_ 1 rfl
  go_wp2_with fail
  refine (hg2 _ (VP.st _ _ _ _ hS0 hE)).mono ?_
  rintro e w2 ⟨u, rfl, hE2, rfl⟩
  have hbx := hbx.ext hE2
  have hE := hE.tr hE2
  clear hg2 hd0 hd1 hE2
  obtain ⟨g2, hq2⟩ : ∃ g, rightS f ws = g := ⟨_, rfl⟩
  rw [hq2]
  cases g2
  case false =>
    clear hS0 hq1 hq2 hbx
    go_wp2_with fail
    refine (hwk _).mono ?_
    rintro e w3 ⟨u, rfl, hE3, rfl⟩
    go_wp2
    go_ret
    exact Ret.mk (hE.tr hE3) rfl
  obtain ⟨l1, l2⟩ := greatB_false hq1
  have hl : ws.flatten.length ≤ 1000000 := by omega
  have hn : ws.length ≤ 1000000 := by omega
  have hcl := clOf_any f ws _ w2 (VP.st _ _ _ _ hS0 hE) hl hn
  have hcO : clsO f ws = ((cRun f (hasB f ws.flatten) 256).1, (cRun f (hasB f ws.flatten) 256).2, 0) := by unfold clsO; rw [if_pos hq2]
  rw [hcO] at hcl
  have htw := fun i hi hh => hasB_twin (f := f) (bs := ws.flatten) (i := i) hi hh
  have hby := fun k : Int => show bytesO f ws k = clsL (cRun f (hasB f ws.flatten) 256).1 k 256 by unfold bytesO; rw [if_pos hq2]
  have hle := fun k : Int => show leastO f ws [k] = (clsL (cRun f (hasB f ws.flatten) 256).1 k 256).take 1 by unfold leastO; rw [if_pos hq2, leastL_one]
  have hcB := fun (k : Int) W hS => clBytes_any f ws k (.agg #[.bool f, .slice A ws.length c]) W hS hl hn
  have hcL := fun (k : Int) v W hS hv => clLeast_any f ws [k] (.agg #[.bool f, .slice A ws.length c]) v W hS hv hl hn (by simp)
  simp only [hby] at hcB
  simp only [hle] at hcL
  have hnx := fun b (hb : b < 256) => cls_next htw hb
  have hrg := fun a (ha : a < 256) => cls_range htw ha
  have hso := fun k h1 h2 => cls_some htw (k := k) h1 h2
  have hla := fun k h1 h2 h3 => lastL_lt htw (k := k) h1 h2 h3
  have hmn := cRun_many f (hasB f ws.flatten) 256
  have hn0 := cRun_start f (hasB f ws.flatten)
  have hnM := fun b => cRun_many f (hasB f ws.flatten) b
  clear hcO htw hq1 hq2 hby hle
  obtain ⟨nx, hnxe⟩ : ∃ nx : Nat → Int, (fun n => (cRun f (hasB f ws.flatten) n).2) = nx := ⟨_, rfl⟩
  have hne : ∀ n, (cRun f (hasB f ws.flatten) n).2 = nx n := fun n => congrFun hnxe n

  clear hnxe
  simp only [hne] at hcl hnx hrg hso hla hmn hn0 hnM
  clear hne
  generalize (cRun f (hasB f ws.flatten) 256).1 = cf at *
  obtain ⟨M, hM⟩ : ∃ M : Nat, nx 256 = (M : Int) := ⟨(nx 256).toNat, by omega⟩
  rw [hM] at hcl hrg hso hla hmn
  have htot := totL_all (f := cf) (m := M) 256 hrg
  have hno1 : clsL cf (M : Int) 256 = [] := clsL_none fun i hi => by have := hrg i hi; omega
  have hno2 : clsL cf (-1) 256 = [] := clsL_none fun i hi => by have := hrg i hi; omega
  have hM2 : M ≤ 257 := by omega
  have Hnx := hide hnx
  have Hso := hide hso
  have Hla := hide hla
  have Htot := hide htot
  have Hno1 := hide hno1
  have Hno2 := hide hno2
  have HM := hide hM
  have HnM := hide hnM
  have Hn0 := hide hn0
  have HcB := hide hcB
  have HcL := hide hcL
  clear hnx hrg hso hla htot hno1 hno2 hM hnM hn0 hmn hx hcB hcL
  have HB := hide hbx
  have HE := hide hE
  have hd0 := hbx.at_ 0 rfl
  have hd1 := hbx.at_ 1 rfl
  clear hbx hE
  go_wp2_with fail
  refine hcl.mono ?_
  rintro _ w3 ⟨u, rfl, hE2, hu⟩
  obtain ⟨_, _, _, rfl, rfl, rfl, rfl⟩ := VTup.inv3 hu
  clear hu hd0 hd1 hcl
  go_upto_region 4 with (first | (refine wpList_allocZ rfl 29 rfl _ zeroI ?_) | (refine wpList_store_row rfl 29 _ _ rfl w3.heap.size (iArr cf) rfl rfl 29 (iArr fun _ => 0) (Box.new w3 29 (iArr fun _ => 0)) (by rw [iArr_size]; kernel_rfl) (by rw [iArr_size, iArr_size]) (arr_one fun _ _ => rfl) ?_))
  have hX2 := hE2.tr (new_row (w2 := w3) (T := 29) (iArr fun _ => 0) (iArr cf))
  have hb9 : Box ((w3.alloc (.cells (iArr fun _ => 0) 29)).setRow w3.heap.size (iArr cf)) w3.heap.size 29 (iArr cf) := (Box.new w3 29 (iArr fun _ => 0)).setRow_
  generalize (w3.alloc (.cells (iArr fun _ => 0) 29)).setRow w3.heap.size (iArr cf) = W4 at *
  generalize w3.heap.size = g9 at *
  have HB := hide (HB.out.ext hX2)
  have HE := hide (HE.out.tr hX2)
  have H9 := hide hb9
  clear hX2 hE2 hb9
  have HE0 := HE
  go_wp2_with fail
  go_loopw [6, 7] (fun x i wr => ∃ k : Nat, k ≤ 256 ∧ i = .int .i64 (k : Int) ∧ x = .int .i64 (nx k) ∧ Hid (Ext W4 wr)) (fun _ i _ => 256 - (intOf i).toNat)
  case atStart => exact ⟨0, by omega, rfl, by rw [Hn0.out], Ext.rf _⟩
  case round =>
    obtain ⟨k, hk, rfl, rfl, HX⟩ := hrel
    by_cases hlt : k < 256
    · have hq1 : wr.cell? ⟨g9, k, none⟩ = some (.int .i64 (cf k)) := ((H9.out.ext HX.out).cell k).trans (iArr_get cf hlt)
      have hb := HnM.out k
      rcases Hnx.out k hlt with ⟨h1, h2⟩ | ⟨h1, h2⟩
      · have Hn2 := hide h2
        clear h2
        go_wp2_with fail
        exact ⟨⟨k + 1, by omega, by go_num, by rw [Hn2.out], HX⟩, by simp [intOf]; omega⟩
      · have Hn2 := hide h2
        rw [h1] at hq1
        clear h2 h1
        go_wp2_with fail
        exact ⟨⟨k + 1, by omega, by go_num, by rw [Hn2.out], HX⟩, by simp [intOf]; omega⟩
    · obtain rfl : k = 256 := by omega
      rw [HM.out]
      obtain ⟨W6, hW6⟩ : ∃ W, W = wr := ⟨_, rfl⟩
      subst hW6
      have H9 := hide (H9.out.ext HX.out)
      have HB := hide (HB.out.ext HX.out)
      have HE := hide (HE0.out.tr HX.out)
      clear HX hc5 hc6
      go_wp2_with fail
      go_loopw [8, 9, 10] (fun t l i wr => ∃ k : Nat, k ≤ M ∧ i = .int .i64 (k : Int) ∧ t = .int .i64 (totL cf 256 k : Int) ∧ l = .int .i64 (lastL cf k) ∧ Hid (Ext W6 wr)) (fun _ _ i _ => M - (intOf i).toNat)
      case atStart => exact ⟨0, by omega, rfl, rfl, rfl, Ext.rf _⟩
      case round =>
        obtain ⟨k, hk, rfl, rfl, rfl, HX⟩ := hrel
        have hE : Ext w wr := HE.out.tr HX.out
        have hbs := HB.out.ext HX.out
        by_cases hlt : k < M
        · have hat : ∀ i (h : i < (clsL cf (k : Int) 256).length), cf ((clsL cf (k : Int) 256)[i]'h).toNat = k := fun i h => clsL_at h
          have hri : ∀ i (h : i + 1 < (clsL cf (k : Int) 256).length), ((clsL cf (k : Int) 256)[i]'(Nat.lt_of_succ_lt h)).toNat < ((clsL cf (k : Int) 256)[i + 1]'h).toNat := fun i h => clsL_rise (Nat.lt_succ_self i) h
          have hsm := fun h0 : 0 < k => Hso.out (k : Int) (by omega) (by omega)
          have hls : ∀ (h0 : 0 < k) (h : 0 < (clsL cf (k : Int) 256).length), lastL cf k < (((clsL cf (k : Int) 256)[0]'h).toNat : Int) := fun h0 h => Hla.out k h0 h (by omega)
          have hup : ∀ (h0 : 0 < k) (h : 0 < (clsL cf (k : Int) 256).length), lastL cf (k + 1) = (((clsL cf (k : Int) 256)[0]'h).toNat : Int) := fun h0 h => lastL_up h0 h
          have htt : totL cf 256 (k + 1) = totL cf 256 k + (clsL cf (k : Int) 256).length := rfl
          have hll := clsL_len cf (k : Int) 256
          have htl := totL_le cf k
          have hB := HcB.out (k : Int) wr (VP.st _ _ _ _ hS0 hE)
          have hL := fun v W (hX : Ext wr W) hv => HcL.out (k : Int) v W (VP.st _ _ _ _ hS0 (hE.tr hX)) hv
          generalize clsL cf (k : Int) 256 = ll at *
          have Hat := hide hat
          have Hri := hide hri
          have Hsm := hide hsm
          have Hls := hide hls
          have Hup := hide hup
          have Htt := hide htt
          have Hll := hide hll
          have Htl := hide htl
          have hd0 := hbs.at_ 0 rfl
          have hd1 := hbs.at_ 1 rfl
          clear hat hri hsm hls hup htt hll htl hbs
          go_wp2_with fail
          refine hB.mono ?_
          rintro _ w7 ⟨v, rfl, hE7, hv⟩
          have hv' := hv
          obtain ⟨A11, c11, rfl, hl1, hl2, -⟩ := VBytes.form hv
          unfold maxLen at hl2
          clear hd0 hd1 hB hv
          have hE := hE.tr hE7
          have HX7 := hide (HX.out.tr hE7)
          have hbs := HB.out.ext HX7.out
          have hl11 := hv'
          clear hv' HX
          go_upto_region 20 with (fail)
          refine vregion0 4 (by kernel_rfl) ?_
          refine VWalk.loadBox 24 _ rfl (want_none rfl) (opd_frame 1 rfl (by kernel_rfl)) Try.underlying24 rfl (by kernel_rfl) hbs (Ext.rf _) ?_
          refine VWalk.move _ rfl (want_none rfl) (opd_frame 10 rfl (by kernel_rfl)) ?_
          refine VWalk.lit (Fs := [_]) [Operand.tmp 60] 25 3 1 _ rfl rfl (by decide) (by decide) rfl Try.underlying25 (by kernel_rfl) (by kernel_rfl) ⟨oneCell_eq rfl, trivial⟩ (want_none rfl) ⟨(opd_dep 1 60 0 rfl rfl rfl rfl), trivial⟩ ?_
          refine VWalk.call2 16 _ _ _ rfl (enters_of Try.func16 (by kernel_rfl) rfl) (want_none rfl) (opd_dep 0 59 2 rfl rfl rfl rfl) (opd_dep 2 61 0 rfl rfl rfl rfl) (fun a b W hX ha hb => by rw [show a = _ from ha]; exact hL b W (hE7.tr hX) hb) ?_
          refine ⟨rfl, fun W20 hE20 => ?_⟩
          refine VFin.eq ?_  -- 0
          refine VFin.eq ?_  -- 1
          refine VFin.any fun v20_2 hv20_2 => ?_
          refine VFin.any fun v20_3 hv20_3 => ?_
          refine VFin.nil ?_
          simp only [Act.put, List.setIfInBounds_toArray, List.set_cons_zero, List.set_cons_succ]
          clear hv20_2
          have hl11 := VP.st _ _ _ _ hl11 hE20
          have hbs := hbs.ext hE20
          have hE := hE.tr hE20
          have hl12 := hv20_3
          obtain ⟨A12, c12, rfl, -⟩ := VBytes.form hv20_3
          have HX20 := hide (HX7.out.tr hE20)
          have h1 := Hll.out
          have h2 := Htl.out
          have HE20 := hide hE
          have H11 := hide hl11
          have H12 := hide hl12
          clear hL hE7 HX7 hE20 hbs hv20_3 hE hl11 hl12
          go_wp2_with fail
          go_loopw [13] (fun i wr => ∃ j : Nat, j ≤ ll.length ∧ i = .int .i64 (j : Int) ∧ Hid (Ext W20 wr)) (fun i _ => ll.length - (intOf i).toNat)
          case atStart => exact ⟨0, by omega, rfl, Ext.rf _⟩
          case round =>
            obtain ⟨j, hj, rfl, HX⟩ := hrel
            by_cases hlt2 : j < ll.length
            · have hE : Ext W20 wr := HX.out
              have hl11 := VP.st _ _ _ _ H11.out HX.out
              have hq1 : wr.cell? ⟨g9, ll[j].toNat, none⟩ = some (.int .i64 (k : Int)) := ((H9.out.ext (HX20.out.tr HX.out)).cell _).trans ((iArr_get cf (UInt8.toNat_lt _)).trans (by rw [Hat.out j hlt2]))
              go_upto_region 25 with (fail)
              cases j with
              | zero =>
                refine vregion 24 [] (by kernel_rfl) (by kernel_rfl) (fun _ _ _ _ _ h => h) ?_
                refine VWalk.move _ rfl (want_none rfl) (opd_fr 11 rfl hl11 (ext_drew _) (by kernel_rfl)) ?_
                refine VWalk.move _ rfl (want_none rfl) (opd_frame 13 rfl (by kernel_rfl)) ?_
                refine VWalk.indexB 26 5 _ _ .i64 0 rfl Try.underlying26 (by kernel_rfl) (want_none rfl) (opd_dep 0 73 1 rfl rfl rfl rfl) (opd_dep 1 74 0 rfl rfl rfl rfl) hlt2 ?_
                refine VWalk.loadP 5 _ rfl (want_none rfl) (opd_dep 2 75 0 rfl rfl rfl rfl) (fun _ => by kernel_rfl) ?_
                refine VWalk.indexArr (g := g9) (i := ll[0].toNat) 29 3 _ _ .u8 rfl Try.underlying29 (by kernel_rfl) (UInt8.toNat_lt _) (want_none rfl) (opd_frame 3 rfl (by kernel_rfl)) (opd_dep 3 76 0 rfl rfl rfl rfl) ?_
                refine VWalk.load1 3 _ rfl (want_none rfl) (opd_dep 4 77 0 rfl rfl rfl rfl) (fun _ => by kernel_rfl) hq1 (ext_drew _) ?_
                refine VWalk.move _ rfl (want_none rfl) (opd_frame 10 rfl (by kernel_rfl)) ?_
                refine VWalk.neT _ _ _ _ rfl (want_none rfl) (opd_dep 5 78 1 rfl rfl rfl rfl) (opd_dep 6 79 0 rfl rfl rfl rfl) rfl ?_
                refine VWalk.move _ rfl (want_none rfl) (opd_dep 7 80 0 rfl rfl rfl rfl) ?_
                refine VWalk.move _ rfl (want_ff 8 81 0 rfl (by kernel_rfl) rfl rfl rfl rfl) (opd_frame 13 rfl (by kernel_rfl)) ?_
                refine VWalk.gtrF _ _ _ _ rfl (want_ff 8 81 1 rfl (by kernel_rfl) rfl rfl rfl rfl) (opd_dep 9 82 0 rfl rfl rfl rfl) (opd_const _) (by omega) ?_
                refine VWalk.move _ rfl (want_ff 8 81 2 rfl (by kernel_rfl) rfl rfl rfl rfl) (opd_dep 10 83 0 rfl rfl rfl rfl) ?_
                refine VWalk.skip (want_ft 11 84 0 rfl (by kernel_rfl) rfl rfl rfl rfl) ?_
                refine VWalk.skip (want_ft 11 84 1 rfl (by kernel_rfl) rfl rfl rfl rfl) ?_
                refine VWalk.skip (want_ft 11 84 2 rfl (by kernel_rfl) rfl rfl rfl rfl) ?_
                refine VWalk.skip (want_ft 11 84 3 rfl (by kernel_rfl) rfl rfl rfl rfl) ?_
                refine VWalk.skip (want_ft 11 84 4 rfl (by kernel_rfl) rfl rfl rfl rfl) ?_
                refine VWalk.skip (want_ft 11 84 5 rfl (by kernel_rfl) rfl rfl rfl rfl) ?_
                refine VWalk.skip (want_ft 11 84 6 rfl (by kernel_rfl) rfl rfl rfl rfl) ?_
                refine VWalk.skip (want_ft 11 84 7 rfl (by kernel_rfl) rfl rfl rfl rfl) ?_
                refine VWalk.skip (want_ft 11 84 8 rfl (by kernel_rfl) rfl rfl rfl rfl) ?_
                refine VWalk.skip (want_ft 11 84 9 rfl (by kernel_rfl) rfl rfl rfl rfl) ?_
                refine VWalk.pickF _ _ _ rfl (want_ff 8 81 13 rfl (by kernel_rfl) rfl rfl rfl rfl) (opd_dep 11 84 10 rfl rfl rfl rfl) (opd_const _) ?_
                refine VWalk.pickF _ _ _ rfl (want_none rfl) (opd_dep 8 81 14 rfl rfl rfl rfl) (opd_dep 22 95 0 rfl rfl rfl rfl) ?_
                refine ⟨rfl, fun W25 hE25 => ?_⟩
                refine VFin.any fun v25_0 hv25_0 => ?_
                refine VFin.eq ?_  -- 1
                refine VFin.any fun v25_2 hv25_2 => ?_
                refine VFin.eq ?_  -- 3
                refine VFin.eq ?_  -- 4
                refine VFin.eq ?_  -- 5
                refine VFin.eq ?_  -- 6
                refine VFin.eq ?_  -- 7
                refine VFin.eq ?_  -- 8
                refine VFin.eq ?_  -- 9
                refine VFin.eq ?_  -- 10
                refine VFin.eq ?_  -- 11
                refine VFin.eq ?_  -- 12
                refine VFin.eq ?_  -- 13
                refine VFin.eq ?_  -- 14
                refine VFin.eq ?_  -- 15
                refine VFin.eq ?_  -- 16
                refine VFin.eq ?_  -- 17
                refine VFin.eq ?_  -- 18
                refine VFin.eq ?_  -- 19
                refine VFin.eq ?_  -- 20
                refine VFin.eq ?_  -- 21
                refine VFin.eq ?_  -- 22
                refine VFin.eq ?_  -- 23
                refine VFin.nil ?_
                simp only [Act.put, List.setIfInBounds_toArray, List.set_cons_zero, List.set_cons_succ]
                clear hv25_0 hv25_2
                have hl11 := VP.st _ _ _ _ hl11 ((ext_drew _).tr hE25)
                have hE := hE.tr ((ext_drew _).tr hE25)
                have HX := hide (HX.out.tr ((ext_drew _).tr hE25))
                clear hE25 hE hl11 hq1
                go_wp2_with fail
                exact ⟨⟨0 + 1, by omega, by go_num, HX⟩, by simp [intOf]; omega⟩
              | succ jj =>
                have hrr := Hri.out jj hlt2
                refine vregion 24 [] (by kernel_rfl) (by kernel_rfl) (fun _ _ _ _ _ h => h) ?_
                refine VWalk.move _ rfl (want_none rfl) (opd_fr 11 rfl hl11 (ext_drew _) (by kernel_rfl)) ?_
                refine VWalk.move _ rfl (want_none rfl) (opd_frame 13 rfl (by kernel_rfl)) ?_
                refine VWalk.indexB 26 5 _ _ .i64 (jj + 1) rfl Try.underlying26 (by kernel_rfl) (want_none rfl) (opd_dep 0 73 1 rfl rfl rfl rfl) (opd_dep 1 74 0 rfl rfl rfl rfl) hlt2 ?_
                refine VWalk.loadP 5 _ rfl (want_none rfl) (opd_dep 2 75 0 rfl rfl rfl rfl) (fun _ => by kernel_rfl) ?_
                refine VWalk.indexArr (g := g9) (i := ll[jj + 1].toNat) 29 3 _ _ .u8 rfl Try.underlying29 (by kernel_rfl) (UInt8.toNat_lt _) (want_none rfl) (opd_frame 3 rfl (by kernel_rfl)) (opd_dep 3 76 0 rfl rfl rfl rfl) ?_
                refine VWalk.load1 3 _ rfl (want_none rfl) (opd_dep 4 77 0 rfl rfl rfl rfl) (fun _ => by kernel_rfl) hq1 (ext_drew _) ?_
                refine VWalk.move _ rfl (want_none rfl) (opd_frame 10 rfl (by kernel_rfl)) ?_
                refine VWalk.neT _ _ _ _ rfl (want_none rfl) (opd_dep 5 78 1 rfl rfl rfl rfl) (opd_dep 6 79 0 rfl rfl rfl rfl) rfl ?_
                refine VWalk.move _ rfl (want_none rfl) (opd_dep 7 80 0 rfl rfl rfl rfl) ?_
                refine VWalk.move _ rfl (want_ff 8 81 0 rfl (by kernel_rfl) rfl rfl rfl rfl) (opd_frame 13 rfl (by kernel_rfl)) ?_
                refine VWalk.gtrT _ _ _ _ rfl (want_ff 8 81 1 rfl (by kernel_rfl) rfl rfl rfl rfl) (opd_dep 9 82 0 rfl rfl rfl rfl) (opd_const _) (by omega) ?_
                refine VWalk.move _ rfl (want_ff 8 81 2 rfl (by kernel_rfl) rfl rfl rfl rfl) (opd_dep 10 83 0 rfl rfl rfl rfl) ?_
                refine VWalk.move _ rfl (want_tt 11 84 0 rfl (by kernel_rfl) rfl rfl rfl rfl) (opd_fr 11 rfl hl11 (ext_drew _) (by kernel_rfl)) ?_
                refine VWalk.move _ rfl (want_tt 11 84 1 rfl (by kernel_rfl) rfl rfl rfl rfl) (opd_frame 13 rfl (by kernel_rfl)) ?_
                refine VWalk.indexB 26 5 _ _ .i64 (jj + 1) rfl Try.underlying26 (by kernel_rfl) (want_tt 11 84 2 rfl (by kernel_rfl) rfl rfl rfl rfl) (opd_dep 12 85 1 rfl rfl rfl rfl) (opd_dep 13 86 0 rfl rfl rfl rfl) hlt2 ?_
                refine VWalk.loadP 5 _ rfl (want_tt 11 84 3 rfl (by kernel_rfl) rfl rfl rfl rfl) (opd_dep 14 87 0 rfl rfl rfl rfl) (fun _ => by kernel_rfl) ?_
                refine VWalk.move _ rfl (want_tt 11 84 4 rfl (by kernel_rfl) rfl rfl rfl rfl) (opd_fr 11 rfl hl11 (ext_drew _) (by kernel_rfl)) ?_
                refine VWalk.move _ rfl (want_tt 11 84 5 rfl (by kernel_rfl) rfl rfl rfl rfl) (opd_frame 13 rfl (by kernel_rfl)) ?_
                refine VWalk.sub64 _ _ _ _ rfl (want_tt 11 84 6 rfl (by kernel_rfl) rfl rfl rfl rfl) (opd_dep 17 90 0 rfl rfl rfl rfl) (opd_const _) (by omega) ?_
                rw [show ((jj + 1 : Nat) : Int) - 1 = (jj : Int) by omega]
                refine VWalk.indexB 26 5 _ _ .i64 jj rfl Try.underlying26 (by kernel_rfl) (want_tt 11 84 7 rfl (by kernel_rfl) rfl rfl rfl rfl) (opd_dep 16 89 2 rfl rfl rfl rfl) (opd_dep 18 91 0 rfl rfl rfl rfl) (by omega) ?_
                refine VWalk.loadP 5 _ rfl (want_tt 11 84 8 rfl (by kernel_rfl) rfl rfl rfl rfl) (opd_dep 19 92 0 rfl rfl rfl rfl) (fun _ => by kernel_rfl) ?_
                refine VWalk.leqF _ _ _ _ rfl (want_tt 11 84 9 rfl (by kernel_rfl) rfl rfl rfl rfl) (opd_dep 15 88 5 rfl rfl rfl rfl) (opd_dep 20 93 0 rfl rfl rfl rfl) (by omega) ?_
                refine VWalk.pickT _ _ _ rfl (want_ff 8 81 13 rfl (by kernel_rfl) rfl rfl rfl rfl) (opd_dep 11 84 10 rfl rfl rfl rfl) (opd_dep 21 94 0 rfl rfl rfl rfl) ?_
                refine VWalk.pickF _ _ _ rfl (want_none rfl) (opd_dep 8 81 14 rfl rfl rfl rfl) (opd_dep 22 95 0 rfl rfl rfl rfl) ?_
                refine ⟨rfl, fun W25 hE25 => ?_⟩
                refine VFin.any fun v25_0 hv25_0 => ?_
                refine VFin.eq ?_  -- 1
                refine VFin.any fun v25_2 hv25_2 => ?_
                refine VFin.eq ?_  -- 3
                refine VFin.eq ?_  -- 4
                refine VFin.eq ?_  -- 5
                refine VFin.eq ?_  -- 6
                refine VFin.eq ?_  -- 7
                refine VFin.eq ?_  -- 8
                refine VFin.eq ?_  -- 9
                refine VFin.eq ?_  -- 10
                refine VFin.eq ?_  -- 11
                refine VFin.any fun v25_12 hv25_12 => ?_
                refine VFin.eq ?_  -- 13
                refine VFin.any fun v25_14 hv25_14 => ?_
                refine VFin.eq ?_  -- 15
                refine VFin.any fun v25_16 hv25_16 => ?_
                refine VFin.eq ?_  -- 17
                refine VFin.eq ?_  -- 18
                refine VFin.any fun v25_19 hv25_19 => ?_
                refine VFin.eq ?_  -- 20
                refine VFin.eq ?_  -- 21
                refine VFin.eq ?_  -- 22
                refine VFin.eq ?_  -- 23
                refine VFin.nil ?_
                simp only [Act.put, List.setIfInBounds_toArray, List.set_cons_zero, List.set_cons_succ]
                clear hv25_0 hv25_2 hv25_12 hv25_14 hv25_16 hv25_19
                have hl11 := VP.st _ _ _ _ hl11 ((ext_drew _).tr hE25)
                have hE := hE.tr ((ext_drew _).tr hE25)
                have HX := hide (HX.out.tr ((ext_drew _).tr hE25))
                clear hE25 hE hl11 hq1 hrr
                go_wp2_with fail
                exact ⟨⟨jj + 1 + 1, by omega, by go_num, HX⟩, by simp [intOf]; omega⟩
            · have hE : Ext W20 wr := HX.out
              have hl11 := VP.st _ _ _ _ H11.out HX.out
              have hl12 := VP.st _ _ _ _ H12.out HX.out
              have HX := hide (HX20.out.tr HX.out)
              obtain rfl : j = ll.length := by omega
              go_upto_region 27 with (fail)
              clear H11 H12 HX20 HE20 hlt2
              have Hnn : ∀ W', Ext wr W' → Hid (Ext W6 W') := fun W' h => HX.out.tr h
              have hsm := Hsm.out
              have hls := Hls.out
              have hup := Hup.out
              have htt := Htt.out
              have hlk := fun h : k = 0 => show lastL cf (k + 1) = lastL cf k by subst h; rfl
              clear Hsm Hls Hup Htt Hat Hri HX
              by_cases hpos : 0 < ll.length
              case neg =>
                obtain rfl : k = 0 := by
                  rcases Nat.eq_zero_or_pos k with h | h
                  · exact h
                  · exact absurd (hsm h) hpos
                have htl : (ll.take 1).length = 0 := by rw [List.length_take]; omega
                have htk : ll.take 1 = [] := List.eq_nil_of_length_eq_zero htl
                rw [htl] at hl12 ⊢
                rw [htk] at hl12
                have hlk := hlk rfl
                have htt' : (totL cf 256 (0 + 1) : Int) = (totL cf 256 0 : Int) + (ll.length : Int) := by rw [htt]; push_cast; rfl
                have Hlk := hide hlk
                have Htt := hide htt'
                have hpi : ¬ (0 : Int) < (ll.length : Int) := by omega
                clear hsm hls hup hlk htt htt' htl htk
                refine vregion 26 [] (by kernel_rfl) (by kernel_rfl) (fun _ _ _ _ _ h => h) ?_
                refine VWalk.move _ rfl (want_none rfl) (opd_fr 12 rfl hl12 (ext_drew _) (by kernel_rfl)) ?_
                refine VWalk.lenB 26 5 _ rfl Try.underlying26 (want_none rfl) (opd_dep 0 97 0 rfl rfl rfl rfl) ?_
                refine VWalk.eqT' _ _ _ _ rfl (want_none rfl) (opd_dep 1 98 0 rfl rfl rfl rfl) (opd_const _) (by simp) ?_
                refine VWalk.move _ rfl (want_none rfl) (opd_fr 11 rfl hl11 (ext_drew _) (by kernel_rfl)) ?_
                refine VWalk.lenB 26 5 _ rfl Try.underlying26 (want_none rfl) (opd_dep 3 100 0 rfl rfl rfl rfl) ?_
                refine VWalk.gtrF _ _ _ _ rfl (want_none rfl) (opd_dep 4 101 0 rfl rfl rfl rfl) (opd_const _) hpi ?_
                refine VWalk.neTb _ _ _ _ rfl (want_none rfl) (opd_dep 2 99 3 rfl rfl rfl rfl) (opd_dep 5 102 0 rfl rfl rfl rfl) Try.underlying4 rfl ?_
                refine VWalk.move _ rfl (want_none rfl) (opd_dep 6 103 0 rfl rfl rfl rfl) ?_
                refine VWalk.move _ rfl (want_ff 7 104 0 rfl (by kernel_rfl) rfl rfl rfl rfl) (opd_fr 12 rfl hl12 (ext_drew _) (by kernel_rfl)) ?_
                refine VWalk.lenB 26 5 _ rfl Try.underlying26 (want_ff 7 104 1 rfl (by kernel_rfl) rfl rfl rfl rfl) (opd_dep 8 105 0 rfl rfl rfl rfl) ?_
                refine VWalk.gtrF _ _ _ _ rfl (want_ff 7 104 2 rfl (by kernel_rfl) rfl rfl rfl rfl) (opd_dep 9 106 0 rfl rfl rfl rfl) (opd_const _) (by simp) ?_
                refine VWalk.pickF _ _ _ rfl (want_none rfl) (opd_dep 7 104 3 rfl rfl rfl rfl) (opd_dep 10 107 0 rfl rfl rfl rfl) ?_
                refine VWalk.move _ rfl (want_none rfl) (opd_dep 11 108 0 rfl rfl rfl rfl) ?_
                refine VWalk.move _ rfl (want_ff 12 109 0 rfl (by kernel_rfl) rfl rfl rfl rfl) (opd_fr 11 rfl hl11 (ext_drew _) (by kernel_rfl)) ?_
                refine VWalk.lenB 26 5 _ rfl Try.underlying26 (want_ff 12 109 1 rfl (by kernel_rfl) rfl rfl rfl rfl) (opd_dep 13 110 0 rfl rfl rfl rfl) ?_
                refine VWalk.gtrF _ _ _ _ rfl (want_ff 12 109 2 rfl (by kernel_rfl) rfl rfl rfl rfl) (opd_dep 14 111 0 rfl rfl rfl rfl) (opd_const _) hpi ?_
                refine VWalk.move _ rfl (want_ff 12 109 3 rfl (by kernel_rfl) rfl rfl rfl rfl) (opd_dep 15 112 0 rfl rfl rfl rfl) ?_
                refine VWalk.skip (want_ft 16 113 0 rfl (by kernel_rfl) rfl rfl rfl rfl) ?_
                refine VWalk.skip (want_ft 16 113 1 rfl (by kernel_rfl) rfl rfl rfl rfl) ?_
                refine VWalk.skip (want_ft 16 113 2 rfl (by kernel_rfl) rfl rfl rfl rfl) ?_
                refine VWalk.skip (want_ft 16 113 3 rfl (by kernel_rfl) rfl rfl rfl rfl) ?_
                refine VWalk.skip (want_ft 16 113 4 rfl (by kernel_rfl) rfl rfl rfl rfl) ?_
                refine VWalk.skip (want_ft 16 113 5 rfl (by kernel_rfl) rfl rfl rfl rfl) ?_
                refine VWalk.skip (want_ft 16 113 6 rfl (by kernel_rfl) rfl rfl rfl rfl) ?_
                refine VWalk.pickF _ _ _ rfl (want_ff 12 109 11 rfl (by kernel_rfl) rfl rfl rfl rfl) (opd_dep 16 113 7 rfl rfl rfl rfl) (opd_const _) ?_
                refine VWalk.pickF _ _ _ rfl (want_none rfl) (opd_dep 12 109 12 rfl rfl rfl rfl) (opd_dep 24 121 0 rfl rfl rfl rfl) ?_
                refine ⟨rfl, fun W27 hE27 => ?_⟩
                refine VFin.any fun v27_0 hv27_0 => ?_
                refine VFin.eq ?_  -- 1
                refine VFin.eq ?_  -- 2
                refine VFin.any fun v27_3 hv27_3 => ?_
                refine VFin.eq ?_  -- 4
                refine VFin.eq ?_  -- 5
                refine VFin.eq ?_  -- 6
                refine VFin.eq ?_  -- 7
                refine VFin.any fun v27_8 hv27_8 => ?_
                refine VFin.eq ?_  -- 9
                refine VFin.eq ?_  -- 10
                refine VFin.eq ?_  -- 11
                refine VFin.eq ?_  -- 12
                refine VFin.any fun v27_13 hv27_13 => ?_
                refine VFin.eq ?_  -- 14
                refine VFin.eq ?_  -- 15
                refine VFin.eq ?_  -- 16
                refine VFin.eq ?_  -- 17
                refine VFin.eq ?_  -- 18
                refine VFin.eq ?_  -- 19
                refine VFin.eq ?_  -- 20
                refine VFin.eq ?_  -- 21
                refine VFin.eq ?_  -- 22
                refine VFin.eq ?_  -- 23
                refine VFin.eq ?_  -- 24
                refine VFin.eq ?_  -- 25
                refine VFin.nil ?_
                simp only [Act.put, List.setIfInBounds_toArray, List.set_cons_zero, List.set_cons_succ]
                clear hv27_0 hv27_3 hv27_8 hv27_13
                have hl11 := VP.st _ _ _ _ hl11 ((ext_drew _).tr hE27)
                have hl12 := VP.st _ _ _ _ hl12 ((ext_drew _).tr hE27)
                have hE := hE.tr ((ext_drew _).tr hE27)
                have HX := Hnn _ ((ext_drew _).tr hE27)
                clear Hnn hE hE27 hl11 hl12 h1 h2 hpi hpos
                rw [show ((0 : Nat) : Int) = 0 from rfl]
                go_wp2_with fail
                refine ⟨⟨_, _, _, _, _, _, _, _, _, _, _, _, _, _, _, _, _, _, _, _, _, _, _, _, _, _, _, _, _, _, _, _, _, _, _, _, _, _, _, _, _, _, _, _, _, _, _, _, _, _, _, _, _, _, _, _, _, _, _, _, _, _, _, _, _, _, _, _, _, _, _, _, _, _, _, _, _, _, _, _, _, _, _, _, _, _, _, _, _, _, _, _, _, _, _, _, _, _, _, _, ?rel, rfl⟩, ?measure⟩
                case rel => exact ⟨0 + 1, by omega, by go_num, by rw [Htt.out], by rw [Hlk.out], HX⟩
                case measure => simp [intOf]; omega
              have htl : (ll.take 1).length = 1 := by rw [List.length_take]; omega
              have htk : ll.take 1 = [ll[0]] := by
                cases ll with
                | nil => simp at hpos
                | cons x xs => rfl
              rw [htl] at hl12 ⊢
              rw [htk] at hl12
              have hls := fun h0 => hls h0 hpos
              have hup := fun h0 => hup h0 hpos
              have htt' : (totL cf 256 (k + 1) : Int) = (totL cf 256 k : Int) + (ll.length : Int) := by rw [htt]; push_cast; rfl
              have Htt := hide htt'
              clear htt htt' hsm htl htk
              have hpi : (0 : Int) < (ll.length : Int) := by omega
              have hne : ¬ (ll.length : Int) = 0 := by omega
              refine vregion 26 [] (by kernel_rfl) (by kernel_rfl) (fun _ _ _ _ _ h => h) ?_
              refine VWalk.move _ rfl (want_none rfl) (opd_fr 12 rfl hl12 (ext_drew _) (by kernel_rfl)) ?_
              refine VWalk.lenB 26 5 _ rfl Try.underlying26 (want_none rfl) (opd_dep 0 97 0 rfl rfl rfl rfl) ?_
              refine VWalk.eqT _ _ _ _ rfl (want_none rfl) (opd_dep 1 98 0 rfl rfl rfl rfl) (opd_const _) rfl ?_
              refine VWalk.move _ rfl (want_none rfl) (opd_fr 11 rfl hl11 (ext_drew _) (by kernel_rfl)) ?_
              refine VWalk.lenB 26 5 _ rfl Try.underlying26 (want_none rfl) (opd_dep 3 100 0 rfl rfl rfl rfl) ?_
              refine VWalk.gtrT _ _ _ _ rfl (want_none rfl) (opd_dep 4 101 0 rfl rfl rfl rfl) (opd_const _) hpi ?_
              refine VWalk.neTb _ _ _ _ rfl (want_none rfl) (opd_dep 2 99 3 rfl rfl rfl rfl) (opd_dep 5 102 0 rfl rfl rfl rfl) Try.underlying4 rfl ?_
              refine VWalk.move _ rfl (want_none rfl) (opd_dep 6 103 0 rfl rfl rfl rfl) ?_
              refine VWalk.move _ rfl (want_ff 7 104 0 rfl (by kernel_rfl) rfl rfl rfl rfl) (opd_fr 12 rfl hl12 (ext_drew _) (by kernel_rfl)) ?_
              refine VWalk.lenB 26 5 _ rfl Try.underlying26 (want_ff 7 104 1 rfl (by kernel_rfl) rfl rfl rfl rfl) (opd_dep 8 105 0 rfl rfl rfl rfl) ?_
              refine VWalk.gtrF _ _ _ _ rfl (want_ff 7 104 2 rfl (by kernel_rfl) rfl rfl rfl rfl) (opd_dep 9 106 0 rfl rfl rfl rfl) (opd_const _) (by simp) ?_
              refine VWalk.pickF _ _ _ rfl (want_none rfl) (opd_dep 7 104 3 rfl rfl rfl rfl) (opd_dep 10 107 0 rfl rfl rfl rfl) ?_
              refine VWalk.move _ rfl (want_none rfl) (opd_dep 11 108 0 rfl rfl rfl rfl) ?_
              refine VWalk.move _ rfl (want_ff 12 109 0 rfl (by kernel_rfl) rfl rfl rfl rfl) (opd_fr 11 rfl hl11 (ext_drew _) (by kernel_rfl)) ?_
              refine VWalk.lenB 26 5 _ rfl Try.underlying26 (want_ff 12 109 1 rfl (by kernel_rfl) rfl rfl rfl rfl) (opd_dep 13 110 0 rfl rfl rfl rfl) ?_
              refine VWalk.gtrT _ _ _ _ rfl (want_ff 12 109 2 rfl (by kernel_rfl) rfl rfl rfl rfl) (opd_dep 14 111 0 rfl rfl rfl rfl) (opd_const _) hpi ?_
              refine VWalk.move _ rfl (want_ff 12 109 3 rfl (by kernel_rfl) rfl rfl rfl rfl) (opd_dep 15 112 0 rfl rfl rfl rfl) ?_
              refine VWalk.move _ rfl (want_tt 16 113 0 rfl (by kernel_rfl) rfl rfl rfl rfl) (opd_fr 12 rfl hl12 (ext_drew _) (by kernel_rfl)) ?_
              refine VWalk.indexB 26 5 _ _ .i64 0 rfl Try.underlying26 (by kernel_rfl) (want_tt 16 113 1 rfl (by kernel_rfl) rfl rfl rfl rfl) (opd_dep 17 114 0 rfl rfl rfl rfl) (opd_const _) (by simp) ?_
              refine VWalk.loadP 5 _ rfl (want_tt 16 113 2 rfl (by kernel_rfl) rfl rfl rfl rfl) (opd_dep 18 115 0 rfl rfl rfl rfl) (fun _ => by kernel_rfl) ?_
              refine VWalk.move _ rfl (want_tt 16 113 3 rfl (by kernel_rfl) rfl rfl rfl rfl) (opd_fr 11 rfl hl11 (ext_drew _) (by kernel_rfl)) ?_
              refine VWalk.indexB 26 5 _ _ .i64 0 rfl Try.underlying26 (by kernel_rfl) (want_tt 16 113 4 rfl (by kernel_rfl) rfl rfl rfl rfl) (opd_dep 20 117 0 rfl rfl rfl rfl) (opd_const _) hpos ?_
              refine VWalk.loadP 5 _ rfl (want_tt 16 113 5 rfl (by kernel_rfl) rfl rfl rfl rfl) (opd_dep 21 118 0 rfl rfl rfl rfl) (fun _ => by kernel_rfl) ?_
              refine VWalk.neT _ _ _ _ rfl (want_tt 16 113 6 rfl (by kernel_rfl) rfl rfl rfl rfl) (opd_dep 19 116 3 rfl rfl rfl rfl) (opd_dep 22 119 0 rfl rfl rfl rfl) rfl ?_
              refine VWalk.pickT _ _ _ rfl (want_ff 12 109 11 rfl (by kernel_rfl) rfl rfl rfl rfl) (opd_dep 16 113 7 rfl rfl rfl rfl) (opd_dep 23 120 0 rfl rfl rfl rfl) ?_
              refine VWalk.pickF _ _ _ rfl (want_none rfl) (opd_dep 12 109 12 rfl rfl rfl rfl) (opd_dep 24 121 0 rfl rfl rfl rfl) ?_
              refine ⟨rfl, fun W27 hE27 => ?_⟩
              refine VFin.any fun v27_0 hv27_0 => ?_
              refine VFin.eq ?_  -- 1
              refine VFin.eq ?_  -- 2
              refine VFin.any fun v27_3 hv27_3 => ?_
              refine VFin.eq ?_  -- 4
              refine VFin.eq ?_  -- 5
              refine VFin.eq ?_  -- 6
              refine VFin.eq ?_  -- 7
              refine VFin.any fun v27_8 hv27_8 => ?_
              refine VFin.eq ?_  -- 9
              refine VFin.eq ?_  -- 10
              refine VFin.eq ?_  -- 11
              refine VFin.eq ?_  -- 12
              refine VFin.any fun v27_13 hv27_13 => ?_
              refine VFin.eq ?_  -- 14
              refine VFin.eq ?_  -- 15
              refine VFin.eq ?_  -- 16
              refine VFin.any fun v27_17 hv27_17 => ?_
              refine VFin.any fun v27_18 hv27_18 => ?_
              refine VFin.eq ?_  -- 19
              refine VFin.any fun v27_20 hv27_20 => ?_
              refine VFin.any fun v27_21 hv27_21 => ?_
              refine VFin.eq ?_  -- 22
              refine VFin.eq ?_  -- 23
              refine VFin.eq ?_  -- 24
              refine VFin.eq ?_  -- 25
              refine VFin.nil ?_
              simp only [Act.put, List.setIfInBounds_toArray, List.set_cons_zero, List.set_cons_succ]
              clear hv27_0 hv27_3 hv27_8 hv27_13 hv27_17 hv27_18 hv27_20 hv27_21
              have hl11 := VP.st _ _ _ _ hl11 ((ext_drew _).tr hE27)
              have hl12 := VP.st _ _ _ _ hl12 ((ext_drew _).tr hE27)
              have hE := hE.tr ((ext_drew _).tr hE27)
              have HX := Hnn _ ((ext_drew _).tr hE27)
              rcases Nat.eq_zero_or_pos k with rfl | hk0
              · have hlk := hlk rfl
                have Hlk := hide hlk
                clear hls hup hlk Hnn hE hE27 hl11 h1 h2 hpi hne
                rw [show ((0 : Nat) : Int) = 0 from rfl]
                go_wp2_with fail
                refine ⟨⟨_, _, _, _, _, _, _, _, _, _, _, _, _, _, _, _, _, _, _, _, _, _, _, _, _, _, _, _, _, _, _, _, _, _, _, _, _, _, _, _, _, _, _, _, _, _, _, _, _, _, _, _, _, _, _, _, _, _, _, _, _, _, _, _, _, _, _, _, _, _, _, _, _, _, _, _, _, _, _, _, _, _, _, _, _, _, _, _, _, _, _, _, _, _, _, _, _, _, _, _, ?rel, rfl⟩, ?measure⟩
                case rel => exact ⟨0 + 1, by omega, by go_num, by rw [Htt.out], by rw [Hlk.out], HX⟩
                case measure => simp [intOf]; omega
              · have hls := hls hk0
                have hup := hup hk0
                have Hup := hide hup
                have hkz : (k : Int) > 0 := by omega
                clear hup hlk Hnn hl12 h1 h2
                have hw0 : IntKind.i64.wrap (ll[0].toNat : Int) = (ll[0].toNat : Int) := IntWalk.i64_in _ (by have := UInt8.toNat_lt ll[0]; omega)
                have hE := HX.out
                go_upto_region 29 with (fail)
                refine vregion0 15 (by kernel_rfl) ?_
                refine VWalk.move _ rfl (want_none rfl) (opd_frame 10 rfl (by kernel_rfl)) ?_
                refine VWalk.gtrT _ _ _ _ rfl (want_none rfl) (opd_dep 0 123 0 rfl rfl rfl rfl) (opd_const _) hkz ?_
                refine VWalk.move _ rfl (want_none rfl) (opd_dep 1 124 0 rfl rfl rfl rfl) ?_
                refine VWalk.move _ rfl (want_tt 2 125 0 rfl (by kernel_rfl) rfl rfl rfl rfl) (opd_fr 11 rfl hl11 (Ext.rf _) (by kernel_rfl)) ?_
                refine VWalk.lenB 26 5 _ rfl Try.underlying26 (want_tt 2 125 1 rfl (by kernel_rfl) rfl rfl rfl rfl) (opd_dep 3 126 0 rfl rfl rfl rfl) ?_
                refine VWalk.eqT' _ _ _ _ rfl (want_tt 2 125 2 rfl (by kernel_rfl) rfl rfl rfl rfl) (opd_dep 4 127 0 rfl rfl rfl rfl) (opd_const _) hne ?_
                refine VWalk.move _ rfl (want_tt 2 125 3 rfl (by kernel_rfl) rfl rfl rfl rfl) (opd_dep 5 128 0 rfl rfl rfl rfl) ?_
                refine VWalk.move _ rfl (want_ff 6 129 0 rfl (by kernel_rfl) rfl rfl rfl rfl) (opd_fr 11 rfl hl11 (Ext.rf _) (by kernel_rfl)) ?_
                refine VWalk.indexB 26 5 _ _ .i64 0 rfl Try.underlying26 (by kernel_rfl) (want_ff 6 129 1 rfl (by kernel_rfl) rfl rfl rfl rfl) (opd_dep 7 130 0 rfl rfl rfl rfl) (opd_const _) hpos ?_
                refine VWalk.loadP 5 _ rfl (want_ff 6 129 2 rfl (by kernel_rfl) rfl rfl rfl rfl) (opd_dep 8 131 0 rfl rfl rfl rfl) (fun _ => by kernel_rfl) ?_
                refine VWalk.det1 (r := .int .i64 (ll[0].toNat : Int)) (Operand.tmp 132) (want_ff 6 129 3 rfl (by kernel_rfl) rfl rfl rfl rfl) (opd_dep 9 132 0 rfl rfl rfl rfl) (fun ρ w _ h1 => by simp [execOp, h1, byteV, go_sem]; exact hw0) ?_
                refine VWalk.move _ rfl (want_ff 6 129 4 rfl (by kernel_rfl) rfl rfl rfl rfl) (opd_frame 9 rfl (by kernel_rfl)) ?_
                refine VWalk.leqF _ _ _ _ rfl (want_ff 6 129 5 rfl (by kernel_rfl) rfl rfl rfl rfl) (opd_dep 10 133 1 rfl rfl rfl rfl) (opd_dep 11 134 0 rfl rfl rfl rfl) (by omega) ?_
                refine VWalk.pickF _ _ _ rfl (want_tt 2 125 10 rfl (by kernel_rfl) rfl rfl rfl rfl) (opd_dep 6 129 6 rfl rfl rfl rfl) (opd_dep 12 135 0 rfl rfl rfl rfl) ?_
                refine VWalk.pickT _ _ _ rfl (want_none rfl) (opd_dep 2 125 11 rfl rfl rfl rfl) (opd_dep 13 136 0 rfl rfl rfl rfl) ?_
                refine ⟨rfl, fun W29 hE29 => ?_⟩
                refine VFin.eq ?_  -- 0
                refine VFin.eq ?_  -- 1
                refine VFin.eq ?_  -- 2
                refine VFin.any fun v29_3 hv29_3 => ?_
                refine VFin.eq ?_  -- 4
                refine VFin.eq ?_  -- 5
                refine VFin.eq ?_  -- 6
                refine VFin.any fun v29_7 hv29_7 => ?_
                refine VFin.any fun v29_8 hv29_8 => ?_
                refine VFin.eq ?_  -- 9
                refine VFin.eq ?_  -- 10
                refine VFin.eq ?_  -- 11
                refine VFin.eq ?_  -- 12
                refine VFin.eq ?_  -- 13
                refine VFin.eq ?_  -- 14
                refine VFin.nil ?_
                simp only [Act.put, List.setIfInBounds_toArray, List.set_cons_zero, List.set_cons_succ]
                clear hv29_3 hv29_7 hv29_8
                have hl11 := VP.st _ _ _ _ hl11 hE29
                have hE := hE.tr hE29
                go_upto_region 32 with (fail)
                refine vregion0 4 (by kernel_rfl) ?_
                refine VWalk.move _ rfl (want_none rfl) (opd_fr 11 rfl hl11 (Ext.rf _) (by kernel_rfl)) ?_
                refine VWalk.indexB 26 5 _ _ .i64 0 rfl Try.underlying26 (by kernel_rfl) (want_none rfl) (opd_dep 0 140 0 rfl rfl rfl rfl) (opd_const _) hpos ?_
                refine VWalk.loadP 5 _ rfl (want_none rfl) (opd_dep 1 141 0 rfl rfl rfl rfl) (fun _ => by kernel_rfl) ?_
                refine VWalk.det1 (r := .int .i64 (ll[0].toNat : Int)) (Operand.tmp 142) (want_none rfl) (opd_dep 2 142 0 rfl rfl rfl rfl) (fun ρ w _ h1 => by simp [execOp, h1, byteV, go_sem]; exact hw0) ?_
                refine ⟨rfl, fun W32 hE32 => ?_⟩
                refine VFin.any fun v32_0 hv32_0 => ?_
                refine VFin.any fun v32_1 hv32_1 => ?_
                refine VFin.eq ?_  -- 2
                refine VFin.eq ?_  -- 3
                refine VFin.nil ?_
                simp only [Act.put, List.setIfInBounds_toArray, List.set_cons_zero, List.set_cons_succ]
                clear hv32_0 hv32_1
                have hl11 := VP.st _ _ _ _ hl11 hE32
                have hE := hE.tr hE32
                have HX := hide hE
                clear hE hE29 hE32 hl11 hls
                go_wp2_with fail
                refine ⟨⟨_, _, _, _, _, _, _, _, _, _, _, _, _, _, _, _, _, _, _, _, _, _, _, _, _, _, _, _, _, _, _, _, _, _, _, _, _, _, _, _, _, _, _, _, _, _, _, _, _, _, _, _, _, _, _, _, _, _, _, _, _, _, _, _, _, _, _, _, _, _, _, _, _, _, _, _, _, _, _, _, _, _, _, _, _, _, _, _, _, _, _, _, _, _, _, _, _, _, _, _, ?rel, rfl⟩, ?measure⟩
                case rel => exact ⟨k + 1, by omega, by go_num, by rw [Htt.out], by rw [Hup.out], HX⟩
                case measure => simp [intOf]; omega
        · obtain rfl : k = M := by omega
          rw [Htot.out]
          have HB1 := hide (HcB.out (k : Int))
          have HB2 := hide (HcB.out (-1))
          rw [Hno1.out] at HB1
          rw [Hno2.out] at HB2
          clear HcB HcL
          go_upto_region 33 with (fail)
          refine law_end0 (r := .bool true) (by assumption) 18 2 161 _ (by kernel_rfl) rfl rfl rfl rfl rfl (by kernel_rfl) rfl 17 rfl rfl ?_
          refine VWalk.move _ rfl (want_none rfl) (opd_frame 8 rfl (by kernel_rfl)) ?_
          refine VWalk.eqT _ _ _ _ rfl (want_none rfl) (opd_dep 0 144 0 rfl rfl rfl rfl) (opd_const _) rfl ?_
          refine VWalk.move _ rfl (want_none rfl) (opd_dep 1 145 0 rfl rfl rfl rfl) ?_
          refine VWalk.loadBox 24 _ rfl (want_tt 2 146 0 rfl (by kernel_rfl) rfl rfl rfl rfl) (opd_frame 1 rfl (by kernel_rfl)) Try.underlying24 rfl (by kernel_rfl) hbs (Ext.rf _) ?_
          refine VWalk.move _ rfl (want_tt 2 146 1 rfl (by kernel_rfl) rfl rfl rfl rfl) (opd_frame 4 rfl (by kernel_rfl)) ?_
          refine VWalk.call2 14 _ _ _ rfl (enters_of Try.func14 (by kernel_rfl) rfl) (want_tt 2 146 2 rfl (by kernel_rfl) rfl rfl rfl rfl) (opd_dep 3 147 1 rfl rfl rfl rfl) (opd_dep 4 148 0 rfl rfl rfl rfl) (fun a b W hX ha hb => by rw [show a = _ from ha, show b = _ from hb]; exact HB1.out W (VP.st _ _ _ _ hS0 (hE.tr hX))) ?_
          refine VWalk.lenB 26 5 _ rfl Try.underlying26 (want_tt 2 146 3 rfl (by kernel_rfl) rfl rfl rfl rfl) (opd_dep 5 149 0 rfl rfl rfl rfl) ?_
          refine VWalk.eqT _ _ _ _ rfl (want_tt 2 146 4 rfl (by kernel_rfl) rfl rfl rfl rfl) (opd_dep 6 150 0 rfl rfl rfl rfl) (opd_const _) rfl ?_
          refine VWalk.pickT _ _ _ rfl (want_none rfl) (opd_dep 2 146 5 rfl rfl rfl rfl) (opd_dep 7 151 0 rfl rfl rfl rfl) ?_
          refine VWalk.move _ rfl (want_none rfl) (opd_dep 8 152 0 rfl rfl rfl rfl) ?_
          refine VWalk.loadBox 24 _ rfl (want_tt 9 153 0 rfl (by kernel_rfl) rfl rfl rfl rfl) (opd_frame 1 rfl (by kernel_rfl)) Try.underlying24 rfl (by kernel_rfl) hbs (Ext.rf _) ?_
          refine VWalk.call2 14 _ _ _ rfl (enters_of Try.func14 (by kernel_rfl) rfl) (want_tt 9 153 1 rfl (by kernel_rfl) rfl rfl rfl rfl) (opd_dep 10 154 0 rfl rfl rfl rfl) (opd_const _) (fun a b W hX ha hb => by rw [show a = _ from ha, show b = _ from hb]; exact HB2.out W (VP.st _ _ _ _ hS0 (hE.tr hX))) ?_
          refine VWalk.lenB 26 5 _ rfl Try.underlying26 (want_tt 9 153 2 rfl (by kernel_rfl) rfl rfl rfl rfl) (opd_dep 11 155 0 rfl rfl rfl rfl) ?_
          refine VWalk.eqT _ _ _ _ rfl (want_tt 9 153 3 rfl (by kernel_rfl) rfl rfl rfl rfl) (opd_dep 12 156 0 rfl rfl rfl rfl) (opd_const _) rfl ?_
          refine VWalk.pickT _ _ _ rfl (want_none rfl) (opd_dep 9 153 4 rfl rfl rfl rfl) (opd_dep 13 157 0 rfl rfl rfl rfl) ?_
          refine VWalk.move _ rfl (want_none rfl) (opd_dep 14 158 0 rfl rfl rfl rfl) ?_
          refine VWalk.call0 8 _ rfl (enters_of Try.func8 (by kernel_rfl) rfl) (want_tt 15 159 0 rfl (by kernel_rfl) rfl rfl rfl rfl) (fun W _ => hwk W) ?_
          refine VWalk.pickT _ _ _ rfl (want_none rfl) (opd_dep 15 159 1 rfl rfl rfl rfl) (opd_dep 16 160 0 rfl rfl rfl rfl) ?_
          refine ⟨rfl, rfl, rfl, fun W33 hE33 => ?_⟩
          exact Ret.mk (hE.tr hE33) rfl
end Go.Proofs.Ytfbamdkalamliaa
