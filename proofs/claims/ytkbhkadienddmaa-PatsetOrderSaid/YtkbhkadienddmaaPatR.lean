/- PatsetNodes, walked. -/
import Derived.Test.YtkbhkadienddmaaPatQ
namespace Go.Proofs.Ytkbhkadienddmaa
open Go.RowKit Go.Shelf LetM SetM
theorem clampN (n : Nat) (i : Int) (hn : 0 < n) : ∃ k : Nat, k < n ∧ (if (n : Int) - 1 < (if i < 0 then 0 else i) then (n : Int) - 1 else (if i < 0 then 0 else i)) = (k : Int) := by
  by_cases h1 : i < 0
  · exact ⟨0, hn, by rw [if_pos h1, if_neg (by omega)]; rfl⟩
  by_cases h2 : (n : Int) - 1 < i
  · exact ⟨n - 1, by omega, by rw [if_neg h1, if_pos h2]; omega⟩
  · exact ⟨i.toNat, by omega, by rw [if_neg h1, if_neg h2]; omega⟩
set_option maxRecDepth 100000 in
set_option maxHeartbeats 8000000 in
theorem patsetNodes_any (fold : Bool) (ls : List (List UInt8)) (wd : List UInt8) (ii kk : Int) (vl vw : Value) (w : World) (hL : VParts ls vl w) (hW : VBytes wd vw w) :
    Calls Try.prog 6 #[.bool fold, vl, vw, .int .i64 ii, .int .i64 kk] w (Ret w (VEq (.bool true))) := by
  have hwk := wakes_any
  have hg1 := fun W hv => great_any ls vl W hv
  unfold VGreat at hg1
  have hL0 := hL
  have hW0 := hW
  obtain ⟨i0, hi, hz0, hz1, hz2⟩ := info_parts Try.infoSl
  obtain ⟨A, c, rfl, hc1, hc2, -⟩ := VParts.form hL
  obtain ⟨D, d, rfl, hd1, hd2, -⟩ := VBytes.form hW
  unfold maxLen at hc2 hd2
  clear hL hW
  go_enter Try.func6, Try.ntmps6
  go_wp2_with fail
  refine (hg1 _ hL0).mono ?_
  rintro e w1 ⟨u, rfl, hE, rfl⟩
  obtain ⟨g1, hq1⟩ : ∃ g, greatB ls = g := ⟨_, rfl⟩
  rw [hq1]
  clear hg1
  cases g1
  case true =>
    clear hL0 hW0 hq1
    go_wp2_with fail
    refine (hwk _).mono ?_
    rintro e w3 ⟨u, rfl, hE3, rfl⟩
    go_wp2
    go_ret
    exact Ret.mk (hE.tr hE3) rfl
  by_cases hlen : wd.length ≤ 400
  case neg =>
    clear hL0 hW0 hq1
    go_wp2_with fail
    refine (hwk _).mono ?_
    rintro e w4 ⟨u, rfl, hE4, rfl⟩
    go_wp2
    go_ret
    exact Ret.mk (hE.tr hE4) rfl
  obtain ⟨l1, l2⟩ := greatB_false hq1
  clear hq1
  obtain ⟨n0, hn0⟩ : ∃ n0, nodesR fold ls = n0 := ⟨_, rfl⟩
  have hnd := fun v W (hv : VParts ls v W) => pnodes_any fold ls v W hv (by omega)
  rw [hn0] at hnd
  have hn1 : n0 ≤ 3001 := by
    have := nodesFrom_le fold ls [] 1
    rw [show nodesFrom fold 1 [] ls = n0 from hn0] at this
    omega
  have HN0 := hide hn0
  clear hn0
  go_wp2_with fail
  refine (hnd _ _ (VP.st _ _ _ _ hL0 hE)).mono ?_
  rintro e w2 ⟨u, rfl, hE2, rfl⟩
  have hE := hE.tr hE2
  have HE2 := hide hE
  have HL := hide (VP.st _ _ _ _ hL0 hE)
  have HW := hide (VP.st _ _ _ _ hW0 hE)
  clear hE hE2 hL0 hW0
  go_wp2
  go_loopw [12, 13] (fun q j wr => ∃ x y : Nat, x ≤ ls.length ∧ j = .int .i64 (x : Int) ∧ q = .int .i64 (y : Int) ∧ y ≤ wd.length ∧ Hid (oldFrom fold wd y (ls.drop x) = oldOf fold wd ls) ∧ Hid (Below w2.heap.size w2 wr)) (fun _ j _ => ls.length - (intOf j).toNat)
  case atStart => exact ⟨0, 0, by omega, rfl, rfl, by omega, hide (by rw [oldFrom_max, List.drop_zero]; omega), hide (Ext.rf w2)⟩
  case round =>
    obtain ⟨x, y, hx, rfl, rfl, hy, HO, HX⟩ := hrel
    generalize wr = wa at *
    have hXr : Ext w2 wa := HX.out
    by_cases hlt : x < ls.length
    · have hwl := flat_le hlt
      have HL2 := hide (VP.st _ _ _ _ HL.out hXr)
      have HW2 := hide (VP.st _ _ _ _ HW.out hXr)
      clear hnd
      go_wp2
      go_loopw [14] (fun cv wr => ∃ cn : Nat, cv = .int .i64 (cn : Int) ∧ cn ≤ wd.length ∧ cn ≤ ls[x].length ∧ Hid ((textF fold wd).take cn = (textF fold ls[x]).take cn) ∧ Hid (Below wa.heap.size wa wr)) (fun cv _ => wd.length - (intOf cv).toNat)
      case atStart => exact ⟨0, rfl, by omega, by omega, hide (by rw [List.take_zero, List.take_zero]), hide (Ext.rf wa)⟩
      case round =>
        obtain ⟨cn, rfl, hc3, hc4, HC, HY⟩ := hrel
        have hYr : Ext wa wr := HY.out
        have hl := VP.st _ _ _ _ HL2.out hYr
        have hw := VP.st _ _ _ _ HW2.out hYr
        have hXw := hYr
        by_cases hlw : cn < wd.length
        · by_cases hll : cn < ls[x].length
          · obtain ⟨sb, hsb⟩ : ∃ sb, sameB fold (wd.take (cn + 1)) (ls[x].take (cn + 1)) = sb := ⟨_, rfl⟩
            have hsm := fun u v W (hu : VBytes (wd.take (cn + 1)) u W) (hv : VBytes (ls[x].take (cn + 1)) v W) => rsame_any fold (wd.take (cn + 1)) (ls[x].take (cn + 1)) u v W hu hv (by rw [List.length_take]; omega) (by rw [List.length_take]; omega)
            rw [hsb] at hsm
            have Hsb := hide hsb
            clear hsb HY hYr
            cases sb
            · skip
              go_upto_region 9 with (fail)
              refine vregion 28 [] (by kernel_rfl) (by kernel_rfl) (fun _ _ _ _ _ h => h) ?_
              refine VWalk.move _ rfl (want_none rfl) (opd_frame 14 rfl (by kernel_rfl)) ?_
              refine VWalk.move _ rfl (want_none rfl) (opd_fr 2 rfl hw (ext_drew _) (by kernel_rfl)) ?_
              refine VWalk.lenB 25 5 _ rfl Try.underlying25 (want_none rfl) (opd_dep 1 34 0 rfl rfl rfl rfl) ?_
              refine VWalk.lssT _ _ _ _ rfl (want_none rfl) (opd_dep 0 33 2 rfl rfl rfl rfl) (opd_dep 2 35 0 rfl rfl rfl rfl) (by omega) ?_
              refine VWalk.move _ rfl (want_none rfl) (opd_dep 3 36 0 rfl rfl rfl rfl) ?_
              refine VWalk.move _ rfl (want_tt 4 37 0 rfl (by kernel_rfl) rfl rfl rfl rfl) (opd_frame 14 rfl (by kernel_rfl)) ?_
              refine VWalk.move _ rfl (want_tt 4 37 1 rfl (by kernel_rfl) rfl rfl rfl rfl) (opd_fr 1 rfl hl (ext_drew _) (by kernel_rfl)) ?_
              refine VWalk.move _ rfl (want_tt 4 37 2 rfl (by kernel_rfl) rfl rfl rfl rfl) (opd_frame 13 rfl (by kernel_rfl)) ?_
              refine VWalk.indexP 22 25 _ _ .i64 x rfl Try.underlying22 (by kernel_rfl) (want_tt 4 37 3 rfl (by kernel_rfl) rfl rfl rfl rfl) (opd_dep 6 39 1 rfl rfl rfl rfl) (opd_dep 7 40 0 rfl rfl rfl rfl) hlt ?_
              refine VWalk.loadP 25 _ rfl (want_tt 4 37 4 rfl (by kernel_rfl) rfl rfl rfl rfl) (opd_dep 8 41 0 rfl rfl rfl rfl) (fun _ => by kernel_rfl) ?_
              refine VWalk.lenB 25 5 _ rfl Try.underlying25 (want_tt 4 37 5 rfl (by kernel_rfl) rfl rfl rfl rfl) (opd_dep 9 42 0 rfl rfl rfl rfl) ?_
              refine VWalk.lssT _ _ _ _ rfl (want_tt 4 37 6 rfl (by kernel_rfl) rfl rfl rfl rfl) (opd_dep 5 38 5 rfl rfl rfl rfl) (opd_dep 10 43 0 rfl rfl rfl rfl) (by omega) ?_
              refine VWalk.pickT _ _ _ rfl (want_none rfl) (opd_dep 4 37 7 rfl rfl rfl rfl) (opd_dep 11 44 0 rfl rfl rfl rfl) ?_
              refine VWalk.move _ rfl (want_none rfl) (opd_dep 12 45 0 rfl rfl rfl rfl) ?_
              refine VWalk.move _ rfl (want_tt 13 46 0 rfl (by kernel_rfl) rfl rfl rfl rfl) (opd_frame 0 rfl (by kernel_rfl)) ?_
              refine VWalk.move _ rfl (want_tt 13 46 1 rfl (by kernel_rfl) rfl rfl rfl rfl) (opd_fr 2 rfl hw (ext_drew _) (by kernel_rfl)) ?_
              refine VWalk.move _ rfl (want_tt 13 46 2 rfl (by kernel_rfl) rfl rfl rfl rfl) (opd_frame 14 rfl (by kernel_rfl)) ?_
              refine VWalk.add64 _ _ _ _ rfl (want_tt 13 46 3 rfl (by kernel_rfl) rfl rfl rfl rfl) (opd_dep 16 49 0 rfl rfl rfl rfl) (opd_const _) (by omega) ?_
              refine VWalk.cutToB 25 5 _ _ .i64 (cn + 1) rfl Try.underlying25 (by kernel_rfl) (want_tt 13 46 4 rfl (by kernel_rfl) rfl rfl rfl rfl) (opd_dep 15 48 2 rfl rfl rfl rfl) (opd_dep 17 50 0 rfl rfl rfl rfl) (by omega) ?_
              refine VWalk.move _ rfl (want_tt 13 46 5 rfl (by kernel_rfl) rfl rfl rfl rfl) (opd_fr 1 rfl hl (ext_drew _) (by kernel_rfl)) ?_
              refine VWalk.move _ rfl (want_tt 13 46 6 rfl (by kernel_rfl) rfl rfl rfl rfl) (opd_frame 13 rfl (by kernel_rfl)) ?_
              refine VWalk.indexP 22 25 _ _ .i64 x rfl Try.underlying22 (by kernel_rfl) (want_tt 13 46 7 rfl (by kernel_rfl) rfl rfl rfl rfl) (opd_dep 19 52 1 rfl rfl rfl rfl) (opd_dep 20 53 0 rfl rfl rfl rfl) hlt ?_
              refine VWalk.loadP 25 _ rfl (want_tt 13 46 8 rfl (by kernel_rfl) rfl rfl rfl rfl) (opd_dep 21 54 0 rfl rfl rfl rfl) (fun _ => by kernel_rfl) ?_
              refine VWalk.move _ rfl (want_tt 13 46 9 rfl (by kernel_rfl) rfl rfl rfl rfl) (opd_frame 14 rfl (by kernel_rfl)) ?_
              refine VWalk.add64 _ _ _ _ rfl (want_tt 13 46 10 rfl (by kernel_rfl) rfl rfl rfl rfl) (opd_dep 23 56 0 rfl rfl rfl rfl) (opd_const _) (by omega) ?_
              refine VWalk.cutToB 25 5 _ _ .i64 (cn + 1) rfl Try.underlying25 (by kernel_rfl) (want_tt 13 46 11 rfl (by kernel_rfl) rfl rfl rfl rfl) (opd_dep 22 55 2 rfl rfl rfl rfl) (opd_dep 24 57 0 rfl rfl rfl rfl) (by omega) ?_
              refine VWalk.call3 26 _ _ _ _ rfl (enters_of Try.func26 (by kernel_rfl) rfl) (want_tt 13 46 12 rfl (by kernel_rfl) rfl rfl rfl rfl) (opd_dep 14 47 11 rfl rfl rfl rfl) (opd_dep 18 51 7 rfl rfl rfl rfl) (opd_dep 25 58 0 rfl rfl rfl rfl) (fun b u v W hX hb hu hv => by rw [show b = _ from hb]; exact hsm u v W hu hv) ?_
              refine VWalk.headF (by decide) ?_
              refine VWalk.pickT _ _ _ rfl (want_none rfl) (opd_dep 13 46 13 rfl rfl rfl rfl) (opd_dep 26 59 0 rfl rfl rfl rfl) ?_
              refine ⟨rfl, fun W9 hE9 => ?_⟩
              refine VFin.eq ?_  -- 0
              refine VFin.any fun v9_1 hv9_1 => ?_
              refine VFin.eq ?_  -- 2
              refine VFin.eq ?_  -- 3
              refine VFin.eq ?_  -- 4
              refine VFin.eq ?_  -- 5
              refine VFin.any fun v9_6 hv9_6 => ?_
              refine VFin.eq ?_  -- 7
              refine VFin.any fun v9_8 hv9_8 => ?_
              refine VFin.any fun v9_9 hv9_9 => ?_
              refine VFin.eq ?_  -- 10
              refine VFin.eq ?_  -- 11
              refine VFin.eq ?_  -- 12
              refine VFin.eq ?_  -- 13
              refine VFin.eq ?_  -- 14
              refine VFin.any fun v9_15 hv9_15 => ?_
              refine VFin.eq ?_  -- 16
              refine VFin.eq ?_  -- 17
              refine VFin.any fun v9_18 hv9_18 => ?_
              refine VFin.any fun v9_19 hv9_19 => ?_
              refine VFin.eq ?_  -- 20
              refine VFin.any fun v9_21 hv9_21 => ?_
              refine VFin.any fun v9_22 hv9_22 => ?_
              refine VFin.eq ?_  -- 23
              refine VFin.eq ?_  -- 24
              refine VFin.any fun v9_25 hv9_25 => ?_
              refine VFin.eq ?_  -- 26
              refine VFin.eq ?_  -- 27
              refine VFin.nil ?_
              simp only [Act.put, List.setIfInBounds_toArray, List.set_cons_zero, List.set_cons_succ]
              clear hv9_1 hv9_6 hv9_8 hv9_9 hv9_15 hv9_18 hv9_19 hv9_21 hv9_22 hv9_25
              have hl := VP.st _ _ _ _ hl ((ext_drew _).tr hE9)
              have hw := VP.st _ _ _ _ hw ((ext_drew _).tr hE9)
              have hE := ((ext_drew _).tr hE9)
              have hXw := hXw.tr ((ext_drew _).tr hE9)
              have hcm := common_stop fold wd ls[x] cn HC.out hc3 hc4 (fun _ _ => Hsb.out)
              have hst := old_step fold wd ls x y hlt
              rw [HO.out, hcm] at hst
              have HXX := hide (hXr.tr hXw)
              by_cases hyc : (y : Int) < (cn : Int)
              · rw [show max y cn = cn by omega] at hst
                have Hst := hide hst.symm
                clear hst hcm hl hw hE hXw hXr HX
                go_wp2
                exact ⟨⟨x + 1, cn, by omega, by go_num, rfl, hc3, Hst, HXX⟩, by simp [intOf]; omega⟩
              · rw [show max y cn = y by omega] at hst
                have Hst := hide hst.symm
                clear hst hcm hl hw hE hXw hXr HX
                go_wp2
                exact ⟨⟨x + 1, y, by omega, by go_num, rfl, hy, Hst, HXX⟩, by simp [intOf]; omega⟩
            · skip
              go_upto_region 9 with (fail)
              refine vregion 28 [] (by kernel_rfl) (by kernel_rfl) (fun _ _ _ _ _ h => h) ?_
              refine VWalk.move _ rfl (want_none rfl) (opd_frame 14 rfl (by kernel_rfl)) ?_
              refine VWalk.move _ rfl (want_none rfl) (opd_fr 2 rfl hw (ext_drew _) (by kernel_rfl)) ?_
              refine VWalk.lenB 25 5 _ rfl Try.underlying25 (want_none rfl) (opd_dep 1 34 0 rfl rfl rfl rfl) ?_
              refine VWalk.lssT _ _ _ _ rfl (want_none rfl) (opd_dep 0 33 2 rfl rfl rfl rfl) (opd_dep 2 35 0 rfl rfl rfl rfl) (by omega) ?_
              refine VWalk.move _ rfl (want_none rfl) (opd_dep 3 36 0 rfl rfl rfl rfl) ?_
              refine VWalk.move _ rfl (want_tt 4 37 0 rfl (by kernel_rfl) rfl rfl rfl rfl) (opd_frame 14 rfl (by kernel_rfl)) ?_
              refine VWalk.move _ rfl (want_tt 4 37 1 rfl (by kernel_rfl) rfl rfl rfl rfl) (opd_fr 1 rfl hl (ext_drew _) (by kernel_rfl)) ?_
              refine VWalk.move _ rfl (want_tt 4 37 2 rfl (by kernel_rfl) rfl rfl rfl rfl) (opd_frame 13 rfl (by kernel_rfl)) ?_
              refine VWalk.indexP 22 25 _ _ .i64 x rfl Try.underlying22 (by kernel_rfl) (want_tt 4 37 3 rfl (by kernel_rfl) rfl rfl rfl rfl) (opd_dep 6 39 1 rfl rfl rfl rfl) (opd_dep 7 40 0 rfl rfl rfl rfl) hlt ?_
              refine VWalk.loadP 25 _ rfl (want_tt 4 37 4 rfl (by kernel_rfl) rfl rfl rfl rfl) (opd_dep 8 41 0 rfl rfl rfl rfl) (fun _ => by kernel_rfl) ?_
              refine VWalk.lenB 25 5 _ rfl Try.underlying25 (want_tt 4 37 5 rfl (by kernel_rfl) rfl rfl rfl rfl) (opd_dep 9 42 0 rfl rfl rfl rfl) ?_
              refine VWalk.lssT _ _ _ _ rfl (want_tt 4 37 6 rfl (by kernel_rfl) rfl rfl rfl rfl) (opd_dep 5 38 5 rfl rfl rfl rfl) (opd_dep 10 43 0 rfl rfl rfl rfl) (by omega) ?_
              refine VWalk.pickT _ _ _ rfl (want_none rfl) (opd_dep 4 37 7 rfl rfl rfl rfl) (opd_dep 11 44 0 rfl rfl rfl rfl) ?_
              refine VWalk.move _ rfl (want_none rfl) (opd_dep 12 45 0 rfl rfl rfl rfl) ?_
              refine VWalk.move _ rfl (want_tt 13 46 0 rfl (by kernel_rfl) rfl rfl rfl rfl) (opd_frame 0 rfl (by kernel_rfl)) ?_
              refine VWalk.move _ rfl (want_tt 13 46 1 rfl (by kernel_rfl) rfl rfl rfl rfl) (opd_fr 2 rfl hw (ext_drew _) (by kernel_rfl)) ?_
              refine VWalk.move _ rfl (want_tt 13 46 2 rfl (by kernel_rfl) rfl rfl rfl rfl) (opd_frame 14 rfl (by kernel_rfl)) ?_
              refine VWalk.add64 _ _ _ _ rfl (want_tt 13 46 3 rfl (by kernel_rfl) rfl rfl rfl rfl) (opd_dep 16 49 0 rfl rfl rfl rfl) (opd_const _) (by omega) ?_
              refine VWalk.cutToB 25 5 _ _ .i64 (cn + 1) rfl Try.underlying25 (by kernel_rfl) (want_tt 13 46 4 rfl (by kernel_rfl) rfl rfl rfl rfl) (opd_dep 15 48 2 rfl rfl rfl rfl) (opd_dep 17 50 0 rfl rfl rfl rfl) (by omega) ?_
              refine VWalk.move _ rfl (want_tt 13 46 5 rfl (by kernel_rfl) rfl rfl rfl rfl) (opd_fr 1 rfl hl (ext_drew _) (by kernel_rfl)) ?_
              refine VWalk.move _ rfl (want_tt 13 46 6 rfl (by kernel_rfl) rfl rfl rfl rfl) (opd_frame 13 rfl (by kernel_rfl)) ?_
              refine VWalk.indexP 22 25 _ _ .i64 x rfl Try.underlying22 (by kernel_rfl) (want_tt 13 46 7 rfl (by kernel_rfl) rfl rfl rfl rfl) (opd_dep 19 52 1 rfl rfl rfl rfl) (opd_dep 20 53 0 rfl rfl rfl rfl) hlt ?_
              refine VWalk.loadP 25 _ rfl (want_tt 13 46 8 rfl (by kernel_rfl) rfl rfl rfl rfl) (opd_dep 21 54 0 rfl rfl rfl rfl) (fun _ => by kernel_rfl) ?_
              refine VWalk.move _ rfl (want_tt 13 46 9 rfl (by kernel_rfl) rfl rfl rfl rfl) (opd_frame 14 rfl (by kernel_rfl)) ?_
              refine VWalk.add64 _ _ _ _ rfl (want_tt 13 46 10 rfl (by kernel_rfl) rfl rfl rfl rfl) (opd_dep 23 56 0 rfl rfl rfl rfl) (opd_const _) (by omega) ?_
              refine VWalk.cutToB 25 5 _ _ .i64 (cn + 1) rfl Try.underlying25 (by kernel_rfl) (want_tt 13 46 11 rfl (by kernel_rfl) rfl rfl rfl rfl) (opd_dep 22 55 2 rfl rfl rfl rfl) (opd_dep 24 57 0 rfl rfl rfl rfl) (by omega) ?_
              refine VWalk.call3 26 _ _ _ _ rfl (enters_of Try.func26 (by kernel_rfl) rfl) (want_tt 13 46 12 rfl (by kernel_rfl) rfl rfl rfl rfl) (opd_dep 14 47 11 rfl rfl rfl rfl) (opd_dep 18 51 7 rfl rfl rfl rfl) (opd_dep 25 58 0 rfl rfl rfl rfl) (fun b u v W hX hb hu hv => by rw [show b = _ from hb]; exact hsm u v W hu hv) ?_
              refine VWalk.headT (by decide) ?_
              refine VWalk.pickT _ _ _ rfl (want_none rfl) (opd_dep 13 46 13 rfl rfl rfl rfl) (opd_dep 26 59 0 rfl rfl rfl rfl) ?_
              refine ⟨rfl, fun W9 hE9 => ?_⟩
              refine VFin.eq ?_  -- 0
              refine VFin.any fun v9_1 hv9_1 => ?_
              refine VFin.eq ?_  -- 2
              refine VFin.eq ?_  -- 3
              refine VFin.eq ?_  -- 4
              refine VFin.eq ?_  -- 5
              refine VFin.any fun v9_6 hv9_6 => ?_
              refine VFin.eq ?_  -- 7
              refine VFin.any fun v9_8 hv9_8 => ?_
              refine VFin.any fun v9_9 hv9_9 => ?_
              refine VFin.eq ?_  -- 10
              refine VFin.eq ?_  -- 11
              refine VFin.eq ?_  -- 12
              refine VFin.eq ?_  -- 13
              refine VFin.eq ?_  -- 14
              refine VFin.any fun v9_15 hv9_15 => ?_
              refine VFin.eq ?_  -- 16
              refine VFin.eq ?_  -- 17
              refine VFin.any fun v9_18 hv9_18 => ?_
              refine VFin.any fun v9_19 hv9_19 => ?_
              refine VFin.eq ?_  -- 20
              refine VFin.any fun v9_21 hv9_21 => ?_
              refine VFin.any fun v9_22 hv9_22 => ?_
              refine VFin.eq ?_  -- 23
              refine VFin.eq ?_  -- 24
              refine VFin.any fun v9_25 hv9_25 => ?_
              refine VFin.eq ?_  -- 26
              refine VFin.eq ?_  -- 27
              refine VFin.nil ?_
              simp only [Act.put, List.setIfInBounds_toArray, List.set_cons_zero, List.set_cons_succ]
              clear hv9_1 hv9_6 hv9_8 hv9_9 hv9_15 hv9_18 hv9_19 hv9_21 hv9_22 hv9_25
              have hl := VP.st _ _ _ _ hl ((ext_drew _).tr hE9)
              have hw := VP.st _ _ _ _ hw ((ext_drew _).tr hE9)
              have hE := ((ext_drew _).tr hE9)
              have hXw := hXw.tr ((ext_drew _).tr hE9)
              have HYY := hide hXw
              have HCC := hide ((take_same fold wd ls[x] (cn + 1)).1 Hsb.out)
              clear hl hw hE hXw
              go_wp2
              exact ⟨⟨cn + 1, by go_num, by omega, by omega, HCC, HYY⟩, by simp [intOf]; omega⟩
          · skip
            go_upto_region 9 with (fail)
            refine vregion 28 [] (by kernel_rfl) (by kernel_rfl) (fun _ _ _ _ _ h => h) ?_
            refine VWalk.move _ rfl (want_none rfl) (opd_frame 14 rfl (by kernel_rfl)) ?_
            refine VWalk.move _ rfl (want_none rfl) (opd_fr 2 rfl hw (ext_drew _) (by kernel_rfl)) ?_
            refine VWalk.lenB 25 5 _ rfl Try.underlying25 (want_none rfl) (opd_dep 1 34 0 rfl rfl rfl rfl) ?_
            refine VWalk.lssT _ _ _ _ rfl (want_none rfl) (opd_dep 0 33 2 rfl rfl rfl rfl) (opd_dep 2 35 0 rfl rfl rfl rfl) (by omega) ?_
            refine VWalk.move _ rfl (want_none rfl) (opd_dep 3 36 0 rfl rfl rfl rfl) ?_
            refine VWalk.move _ rfl (want_tt 4 37 0 rfl (by kernel_rfl) rfl rfl rfl rfl) (opd_frame 14 rfl (by kernel_rfl)) ?_
            refine VWalk.move _ rfl (want_tt 4 37 1 rfl (by kernel_rfl) rfl rfl rfl rfl) (opd_fr 1 rfl hl (ext_drew _) (by kernel_rfl)) ?_
            refine VWalk.move _ rfl (want_tt 4 37 2 rfl (by kernel_rfl) rfl rfl rfl rfl) (opd_frame 13 rfl (by kernel_rfl)) ?_
            refine VWalk.indexP 22 25 _ _ .i64 x rfl Try.underlying22 (by kernel_rfl) (want_tt 4 37 3 rfl (by kernel_rfl) rfl rfl rfl rfl) (opd_dep 6 39 1 rfl rfl rfl rfl) (opd_dep 7 40 0 rfl rfl rfl rfl) hlt ?_
            refine VWalk.loadP 25 _ rfl (want_tt 4 37 4 rfl (by kernel_rfl) rfl rfl rfl rfl) (opd_dep 8 41 0 rfl rfl rfl rfl) (fun _ => by kernel_rfl) ?_
            refine VWalk.lenB 25 5 _ rfl Try.underlying25 (want_tt 4 37 5 rfl (by kernel_rfl) rfl rfl rfl rfl) (opd_dep 9 42 0 rfl rfl rfl rfl) ?_
            refine VWalk.lssF _ _ _ _ rfl (want_tt 4 37 6 rfl (by kernel_rfl) rfl rfl rfl rfl) (opd_dep 5 38 5 rfl rfl rfl rfl) (opd_dep 10 43 0 rfl rfl rfl rfl) (by omega) ?_
            refine VWalk.pickT _ _ _ rfl (want_none rfl) (opd_dep 4 37 7 rfl rfl rfl rfl) (opd_dep 11 44 0 rfl rfl rfl rfl) ?_
            refine VWalk.move _ rfl (want_none rfl) (opd_dep 12 45 0 rfl rfl rfl rfl) ?_
            refine VWalk.skip (want_ft 13 46 0 rfl (by kernel_rfl) rfl rfl rfl rfl) ?_
            refine VWalk.skip (want_ft 13 46 1 rfl (by kernel_rfl) rfl rfl rfl rfl) ?_
            refine VWalk.skip (want_ft 13 46 2 rfl (by kernel_rfl) rfl rfl rfl rfl) ?_
            refine VWalk.skip (want_ft 13 46 3 rfl (by kernel_rfl) rfl rfl rfl rfl) ?_
            refine VWalk.skip (want_ft 13 46 4 rfl (by kernel_rfl) rfl rfl rfl rfl) ?_
            refine VWalk.skip (want_ft 13 46 5 rfl (by kernel_rfl) rfl rfl rfl rfl) ?_
            refine VWalk.skip (want_ft 13 46 6 rfl (by kernel_rfl) rfl rfl rfl rfl) ?_
            refine VWalk.skip (want_ft 13 46 7 rfl (by kernel_rfl) rfl rfl rfl rfl) ?_
            refine VWalk.skip (want_ft 13 46 8 rfl (by kernel_rfl) rfl rfl rfl rfl) ?_
            refine VWalk.skip (want_ft 13 46 9 rfl (by kernel_rfl) rfl rfl rfl rfl) ?_
            refine VWalk.skip (want_ft 13 46 10 rfl (by kernel_rfl) rfl rfl rfl rfl) ?_
            refine VWalk.skip (want_ft 13 46 11 rfl (by kernel_rfl) rfl rfl rfl rfl) ?_
            refine VWalk.skip (want_ft 13 46 12 rfl (by kernel_rfl) rfl rfl rfl rfl) ?_
            refine VWalk.pickF _ _ _ rfl (want_none rfl) (opd_dep 13 46 13 rfl rfl rfl rfl) (opd_const _) ?_
            refine ⟨rfl, fun W9 hE9 => ?_⟩
            refine VFin.eq ?_  -- 0
            refine VFin.any fun v9_1 hv9_1 => ?_
            refine VFin.eq ?_  -- 2
            refine VFin.eq ?_  -- 3
            refine VFin.eq ?_  -- 4
            refine VFin.eq ?_  -- 5
            refine VFin.any fun v9_6 hv9_6 => ?_
            refine VFin.eq ?_  -- 7
            refine VFin.any fun v9_8 hv9_8 => ?_
            refine VFin.any fun v9_9 hv9_9 => ?_
            refine VFin.eq ?_  -- 10
            refine VFin.eq ?_  -- 11
            refine VFin.eq ?_  -- 12
            refine VFin.eq ?_  -- 13
            refine VFin.eq ?_  -- 14
            refine VFin.eq ?_  -- 15
            refine VFin.eq ?_  -- 16
            refine VFin.eq ?_  -- 17
            refine VFin.eq ?_  -- 18
            refine VFin.eq ?_  -- 19
            refine VFin.eq ?_  -- 20
            refine VFin.eq ?_  -- 21
            refine VFin.eq ?_  -- 22
            refine VFin.eq ?_  -- 23
            refine VFin.eq ?_  -- 24
            refine VFin.eq ?_  -- 25
            refine VFin.eq ?_  -- 26
            refine VFin.eq ?_  -- 27
            refine VFin.nil ?_
            simp only [Act.put, List.setIfInBounds_toArray, List.set_cons_zero, List.set_cons_succ]
            clear hv9_1 hv9_6 hv9_8 hv9_9
            have hl := VP.st _ _ _ _ hl ((ext_drew _).tr hE9)
            have hw := VP.st _ _ _ _ hw ((ext_drew _).tr hE9)
            have hE := ((ext_drew _).tr hE9)
            have hXw := hXw.tr ((ext_drew _).tr hE9)
            have hcm := common_stop fold wd ls[x] cn HC.out hc3 hc4 (fun _ h => absurd h hll)
            have hst := old_step fold wd ls x y hlt
            rw [HO.out, hcm] at hst
            have HXX := hide (hXr.tr hXw)
            by_cases hyc : (y : Int) < (cn : Int)
            · rw [show max y cn = cn by omega] at hst
              have Hst := hide hst.symm
              clear hst hcm hl hw hE hXw hXr HX
              go_wp2
              exact ⟨⟨x + 1, cn, by omega, by go_num, rfl, hc3, Hst, HXX⟩, by simp [intOf]; omega⟩
            · rw [show max y cn = y by omega] at hst
              have Hst := hide hst.symm
              clear hst hcm hl hw hE hXw hXr HX
              go_wp2
              exact ⟨⟨x + 1, y, by omega, by go_num, rfl, hy, Hst, HXX⟩, by simp [intOf]; omega⟩
        · skip
          go_upto_region 9 with (fail)
          refine vregion 28 [] (by kernel_rfl) (by kernel_rfl) (fun _ _ _ _ _ h => h) ?_
          refine VWalk.move _ rfl (want_none rfl) (opd_frame 14 rfl (by kernel_rfl)) ?_
          refine VWalk.move _ rfl (want_none rfl) (opd_fr 2 rfl hw (ext_drew _) (by kernel_rfl)) ?_
          refine VWalk.lenB 25 5 _ rfl Try.underlying25 (want_none rfl) (opd_dep 1 34 0 rfl rfl rfl rfl) ?_
          refine VWalk.lssF _ _ _ _ rfl (want_none rfl) (opd_dep 0 33 2 rfl rfl rfl rfl) (opd_dep 2 35 0 rfl rfl rfl rfl) (by omega) ?_
          refine VWalk.move _ rfl (want_none rfl) (opd_dep 3 36 0 rfl rfl rfl rfl) ?_
          refine VWalk.skip (want_ft 4 37 0 rfl (by kernel_rfl) rfl rfl rfl rfl) ?_
          refine VWalk.skip (want_ft 4 37 1 rfl (by kernel_rfl) rfl rfl rfl rfl) ?_
          refine VWalk.skip (want_ft 4 37 2 rfl (by kernel_rfl) rfl rfl rfl rfl) ?_
          refine VWalk.skip (want_ft 4 37 3 rfl (by kernel_rfl) rfl rfl rfl rfl) ?_
          refine VWalk.skip (want_ft 4 37 4 rfl (by kernel_rfl) rfl rfl rfl rfl) ?_
          refine VWalk.skip (want_ft 4 37 5 rfl (by kernel_rfl) rfl rfl rfl rfl) ?_
          refine VWalk.skip (want_ft 4 37 6 rfl (by kernel_rfl) rfl rfl rfl rfl) ?_
          refine VWalk.pickF _ _ _ rfl (want_none rfl) (opd_dep 4 37 7 rfl rfl rfl rfl) (opd_const _) ?_
          refine VWalk.move _ rfl (want_none rfl) (opd_dep 12 45 0 rfl rfl rfl rfl) ?_
          refine VWalk.skip (want_ft 13 46 0 rfl (by kernel_rfl) rfl rfl rfl rfl) ?_
          refine VWalk.skip (want_ft 13 46 1 rfl (by kernel_rfl) rfl rfl rfl rfl) ?_
          refine VWalk.skip (want_ft 13 46 2 rfl (by kernel_rfl) rfl rfl rfl rfl) ?_
          refine VWalk.skip (want_ft 13 46 3 rfl (by kernel_rfl) rfl rfl rfl rfl) ?_
          refine VWalk.skip (want_ft 13 46 4 rfl (by kernel_rfl) rfl rfl rfl rfl) ?_
          refine VWalk.skip (want_ft 13 46 5 rfl (by kernel_rfl) rfl rfl rfl rfl) ?_
          refine VWalk.skip (want_ft 13 46 6 rfl (by kernel_rfl) rfl rfl rfl rfl) ?_
          refine VWalk.skip (want_ft 13 46 7 rfl (by kernel_rfl) rfl rfl rfl rfl) ?_
          refine VWalk.skip (want_ft 13 46 8 rfl (by kernel_rfl) rfl rfl rfl rfl) ?_
          refine VWalk.skip (want_ft 13 46 9 rfl (by kernel_rfl) rfl rfl rfl rfl) ?_
          refine VWalk.skip (want_ft 13 46 10 rfl (by kernel_rfl) rfl rfl rfl rfl) ?_
          refine VWalk.skip (want_ft 13 46 11 rfl (by kernel_rfl) rfl rfl rfl rfl) ?_
          refine VWalk.skip (want_ft 13 46 12 rfl (by kernel_rfl) rfl rfl rfl rfl) ?_
          refine VWalk.pickF _ _ _ rfl (want_none rfl) (opd_dep 13 46 13 rfl rfl rfl rfl) (opd_const _) ?_
          refine ⟨rfl, fun W9 hE9 => ?_⟩
          refine VFin.eq ?_  -- 0
          refine VFin.any fun v9_1 hv9_1 => ?_
          refine VFin.eq ?_  -- 2
          refine VFin.eq ?_  -- 3
          refine VFin.eq ?_  -- 4
          refine VFin.eq ?_  -- 5
          refine VFin.eq ?_  -- 6
          refine VFin.eq ?_  -- 7
          refine VFin.eq ?_  -- 8
          refine VFin.eq ?_  -- 9
          refine VFin.eq ?_  -- 10
          refine VFin.eq ?_  -- 11
          refine VFin.eq ?_  -- 12
          refine VFin.eq ?_  -- 13
          refine VFin.eq ?_  -- 14
          refine VFin.eq ?_  -- 15
          refine VFin.eq ?_  -- 16
          refine VFin.eq ?_  -- 17
          refine VFin.eq ?_  -- 18
          refine VFin.eq ?_  -- 19
          refine VFin.eq ?_  -- 20
          refine VFin.eq ?_  -- 21
          refine VFin.eq ?_  -- 22
          refine VFin.eq ?_  -- 23
          refine VFin.eq ?_  -- 24
          refine VFin.eq ?_  -- 25
          refine VFin.eq ?_  -- 26
          refine VFin.eq ?_  -- 27
          refine VFin.nil ?_
          simp only [Act.put, List.setIfInBounds_toArray, List.set_cons_zero, List.set_cons_succ]
          clear hv9_1
          have hl := VP.st _ _ _ _ hl ((ext_drew _).tr hE9)
          have hw := VP.st _ _ _ _ hw ((ext_drew _).tr hE9)
          have hE := ((ext_drew _).tr hE9)
          have hXw := hXw.tr ((ext_drew _).tr hE9)
          have hcm := common_stop fold wd ls[x] cn HC.out hc3 hc4 (fun h _ => absurd h hlw)
          have hst := old_step fold wd ls x y hlt
          rw [HO.out, hcm] at hst
          have HXX := hide (hXr.tr hXw)
          by_cases hyc : (y : Int) < (cn : Int)
          · rw [show max y cn = cn by omega] at hst
            have Hst := hide hst.symm
            clear hst hcm hl hw hE hXw hXr HX
            go_wp2
            exact ⟨⟨x + 1, cn, by omega, by go_num, rfl, hc3, Hst, HXX⟩, by simp [intOf]; omega⟩
          · rw [show max y cn = y by omega] at hst
            have Hst := hide hst.symm
            clear hst hcm hl hw hE hXw hXr HX
            go_wp2
            exact ⟨⟨x + 1, y, by omega, by go_num, rfl, hy, Hst, HXX⟩, by simp [intOf]; omega⟩
    · obtain rfl : x = ls.length := by omega
      have hkn : oldOf fold wd ls = y := by
        have := HO.out
        rw [List.drop_length] at this
        exact this.symm
      have hns := nodes_snoc fold wd ls
      rw [hkn, HN0.out] at hns
      have hnd2 := fun v W (hv : VParts (ls ++ [wd]) v W) => pnodes_any fold (ls ++ [wd]) v W hv (by rw [List.flatten_append, List.length_append, List.flatten_cons, List.flatten_nil, List.append_nil]; omega)
      rw [hns, show ((n0 + (wd.length - y) : Nat) : Int) = (n0 : Int) + (wd.length : Int) - (y : Int) by omega] at hnd2
      have hl := VP.st _ _ _ _ HL.out hXr
      have hw := VP.st _ _ _ _ HW.out hXr
      obtain ⟨xs, hsrc, hxl, hxv⟩ := Src.parts hl
      have h1c : ∀ y ∈ xs, y.oneCell' = true := fun y hy => by
        obtain ⟨j, hj, rfl⟩ := List.getElem_of_mem hy
        exact VBytes.cell1 (hxv j hj (by omega))
      have HEr := hide (HE2.out.tr hXr)
      clear hns hkn HO HX hXr HE2 HL HW
      go_wp2_with (at_builtin; first | (refine wpList_append_src rfl _ _ 22 rfl wa.heap.size 25 i0 (.slice none 0 0) 1 24 Try.underlying22 hi hz0 hz1 hz2 rfl (by omega) _ _ 0 ls.length [] xs rfl (World.ownsRow_made wa #[] 0 (Nat.le_refl _) (by decide) rfl) (by omega) rfl (Src.st hsrc (ext_alloc _ _)) h1c (by omega) (Ext.rf _ |>.tr (ext_alloc _ _)).size ?_; intro v3 w3 hown3 hgrow3 hat3) | (refine wpList_append_src rfl _ _ 22 rfl wa.heap.size 25 i0 (.slice none 0 0) 1 24 Try.underlying22 hi hz0 hz1 hz2 rfl (by omega) _ _ (0 + ls.length) 1 ([] ++ xs) [.slice D wd.length d] rfl (own_st hown3 (ext_alloc _ _)) rfl rfl (Src.new _ _ _ _) (fun y hy => by rw [List.mem_singleton] at hy; subst hy; rfl) (by omega) (Nat.le_trans (ext_alloc wa _).size (Nat.le_trans hgrow3.size (ext_alloc w3 _).size)) ?_; intro v4 w4 hown4 hgrow4 hat4))
      rw [Nat.zero_add, List.nil_append] at hown3 hown4
      have hE3 : Ext wa w3 := below_ng (Ext.rf wa) hgrow3 (fun k hk => by cases hk; exact Nat.le_refl _)
      have hE4 : Ext wa w4 := below_ng hE3 hgrow4 (fun k hk => own_ge hown3 k hk)
      have hp4 : VParts (ls ++ [wd]) v4 w4 := row_parts (by rw [List.length_append]; exact hown4) (by simp [hxl]) (fun i h1 h2 => by
        simp only [List.getElem_append]
        by_cases hi : i < xs.length
        · rw [dif_pos hi, dif_pos (by omega)]
          exact VP.st _ _ _ _ (hxv i hi (by omega)) hE4
        · rw [dif_neg hi, dif_neg (by omega)]
          have e2 : i - xs.length = 0 := by simp at h1; omega
          have e3 : i - ls.length = 0 := by omega
          simp only [e2, e3, List.getElem_cons_zero]
          exact VP.st _ _ _ _ hw hE4)
      refine (hnd2 _ _ hp4).mono ?_
      rintro e w5 ⟨u, rfl, hE5, rfl⟩
      have hE := HEr.out.tr (hE4.tr hE5)
      have hl := VP.st _ _ _ _ hl (hE4.tr hE5)
      clear hnd2 hsrc hxl hxv h1c hw HEr hown3 hown4 hgrow3 hgrow4 hat3 hat4 hE3 hE4 hE5 hp4
      by_cases hl0 : ls.length = 0
      · obtain rfl : ls = [] := List.eq_nil_of_length_eq_zero hl0
        obtain rfl : n0 = 1 := HN0.out.symm
        clear hl
        go_wp2_with fail
        refine (hwk _).mono ?_
        rintro e w8 ⟨u, rfl, hE8, rfl⟩
        go_wp2
        go_ret
        exact Ret.mk (hE.tr hE8) rfl
      · have hl1 : ¬((ls.length : Int) = 0) := by omega
        obtain ⟨ys, hsrc, hyl, hyv⟩ := Src.parts hl
        have h1c : ∀ y ∈ ys, y.oneCell' = true := fun y hy => by
          obtain ⟨j, hj, rfl⟩ := List.getElem_of_mem hy
          exact VBytes.cell1 (hyv j hj (by omega))
        go_upto_region 17 with (at_builtin; refine wpList_append_src rfl _ _ 22 rfl w5.heap.size 25 i0 (.slice none 0 0) 1 24 Try.underlying22 hi hz0 hz1 hz2 rfl (by omega) _ _ 0 ls.length [] ys rfl (World.ownsRow_made w5 #[] 0 (Nat.le_refl _) (by decide) rfl) (by omega) rfl (Src.st hsrc (ext_alloc _ _)) h1c (by omega) (Ext.rf _ |>.tr (ext_alloc _ _)).size ?_; intro v6 w6 hown6 hgrow6 hat6)
        rw [Nat.zero_add, List.nil_append] at hown6
        have hE6 : Ext w5 w6 := below_ng (Ext.rf w5) hgrow6 (fun k hk => by cases hk; exact Nat.le_refl _)
        obtain ⟨g, cap, cur, rfl, hr⟩ := row_open hown6 (by omega)
        obtain ⟨i1, hi1, hiq⟩ := clampN ls.length ii (by omega)
        obtain ⟨k1, hk1, hkq⟩ := clampN ls.length kk (by omega)
        obtain ⟨mi, hmi⟩ : ∃ m, (if ii < 0 then 0 else ii) = m := ⟨_, rfl⟩
        obtain ⟨mk, hmk⟩ : ∃ m, (if kk < 0 then 0 else kk) = m := ⟨_, rfl⟩
        rw [hmi] at hiq
        rw [hmk] at hkq
        have Hmi := hide hmi
        have Hmk := hide hmk
        have Hiq := hide hiq
        have Hkq := hide hkq
        have hl := VP.st _ _ _ _ hl hE6
        have hEw := hE
        have hE := hE.tr hE6
        have hXw := hE6
        clear hmi hmk hiq hkq hown6 hgrow6 hat6 hE6 hsrc h1c
        refine vregion0 12 (by kernel_rfl) ?_
        refine VWalk.move _ rfl (want_none rfl) (opd_frame 3 rfl (by kernel_rfl)) ?_
        refine VWalk.det2 (r := .int .i64 mi) (Operand.tmp 92) (Operand.const (Value.int IntKind.i64 0)) (want_none rfl) (opd_dep 0 92 0 rfl rfl rfl rfl) (opd_const _) (fun ρ w hE h1 h2 => by simp [h1, h2, go_sem]; exact Hmi.out) ?_
        refine VWalk.move _ rfl (want_none rfl) (opd_fr 1 rfl hl (Ext.rf _) (by kernel_rfl)) ?_
        refine VWalk.lenS 22 25 _ rfl Try.underlying22 (want_none rfl) (opd_dep 2 94 0 rfl rfl rfl rfl) ?_
        refine VWalk.sub64 _ _ _ _ rfl (want_none rfl) (opd_dep 3 95 0 rfl rfl rfl rfl) (opd_const _) (by rw [List.length_map]; omega) ?_
        refine VWalk.det2 (r := .int .i64 (i1 : Int)) (Operand.tmp 93) (Operand.tmp 96) (want_none rfl) (opd_dep 1 93 3 rfl rfl rfl rfl) (opd_dep 4 96 0 rfl rfl rfl rfl) (fun ρ w hE h1 h2 => by simp [h1, h2, go_sem]; exact Hiq.out) ?_
        refine VWalk.move _ rfl (want_none rfl) (opd_frame 4 rfl (by kernel_rfl)) ?_
        refine VWalk.det2 (r := .int .i64 mk) (Operand.tmp 98) (Operand.const (Value.int IntKind.i64 0)) (want_none rfl) (opd_dep 6 98 0 rfl rfl rfl rfl) (opd_const _) (fun ρ w hE h1 h2 => by simp [h1, h2, go_sem]; exact Hmk.out) ?_
        refine VWalk.move _ rfl (want_none rfl) (opd_fr 1 rfl hl (Ext.rf _) (by kernel_rfl)) ?_
        refine VWalk.lenS 22 25 _ rfl Try.underlying22 (want_none rfl) (opd_dep 8 100 0 rfl rfl rfl rfl) ?_
        refine VWalk.sub64 _ _ _ _ rfl (want_none rfl) (opd_dep 9 101 0 rfl rfl rfl rfl) (opd_const _) (by rw [List.length_map]; omega) ?_
        refine VWalk.det2 (r := .int .i64 (k1 : Int)) (Operand.tmp 99) (Operand.tmp 102) (want_none rfl) (opd_dep 7 99 3 rfl rfl rfl rfl) (opd_dep 10 102 0 rfl rfl rfl rfl) (fun ρ w hE h1 h2 => by simp [h1, h2, go_sem]; exact Hkq.out) ?_
        refine ⟨rfl, fun W17 hE17 => ?_⟩
        refine VFin.eq ?_  -- 0
        refine VFin.eq ?_  -- 1
        refine VFin.any fun v17_2 hv17_2 => ?_
        refine VFin.eq ?_  -- 3
        refine VFin.eq ?_  -- 4
        refine VFin.eq ?_  -- 5
        refine VFin.eq ?_  -- 6
        refine VFin.eq ?_  -- 7
        refine VFin.any fun v17_8 hv17_8 => ?_
        refine VFin.eq ?_  -- 9
        refine VFin.eq ?_  -- 10
        refine VFin.eq ?_  -- 11
        refine VFin.nil ?_
        simp only [Act.put, List.setIfInBounds_toArray, List.set_cons_zero, List.set_cons_succ]
        clear hv17_2 hv17_8
        have hl := VP.st _ _ _ _ hl hE17
        have hE := hE.tr hE17
        have hr := hr.st hE17
        have hXw := hXw.tr hE17
        have hyk := hyv k1 (by omega) hk1
        have hyi := hyv i1 (by omega) hi1
        obtain ⟨Ak, ck, ek, -⟩ := VBytes.form hyk
        obtain ⟨Ai, ci, ei, -⟩ := VBytes.form hyi
        have hck := hr.at_ k1 (by omega) hk1
        have hci := hr.at_ i1 (by omega) hi1
        rw [ek] at hck
        rw [ei] at hci
        clear hyk hyi Hmi Hmk Hiq Hkq hl
        go_upto_region 18 with (fail)
        refine vregion 13 [2, 3] (by kernel_rfl) (by kernel_rfl) (fun _ _ _ _ _ h => h) ?_
        refine VWalk.move _ rfl (want_none rfl) (opd_frame 15 rfl (by kernel_rfl)) ?_
        refine VWalk.move _ rfl (want_none rfl) (opd_frame 3 rfl (by kernel_rfl)) ?_
        refine VWalk.move _ rfl (want_none rfl) (opd_frame 15 rfl (by kernel_rfl)) ?_
        refine VWalk.move _ rfl (want_none rfl) (opd_frame 4 rfl (by kernel_rfl)) ?_
        refine VWalk.move _ rfl (want_none rfl) (opd_frame 15 rfl (by kernel_rfl)) ?_
        refine VWalk.move _ rfl (want_none rfl) (opd_frame 4 rfl (by kernel_rfl)) ?_
        refine VWalk.index1E 22 25 _ _ .i64 k1 rfl Try.underlying22 (by kernel_rfl) (want_none rfl) (opd_dep 4 108 1 rfl rfl rfl rfl) (opd_dep 5 109 0 rfl rfl rfl rfl) hk1 ?_
        refine VWalk.load1 25 _ rfl (want_none rfl) (opd_dep 6 110 0 rfl rfl rfl rfl) (fun _ => by kernel_rfl) hck (ext_drew _) ?_
        refine VWalk.move _ rfl (want_none rfl) (opd_frame 15 rfl (by kernel_rfl)) ?_
        refine VWalk.move _ rfl (want_none rfl) (opd_frame 3 rfl (by kernel_rfl)) ?_
        refine VWalk.index1E 22 25 _ _ .i64 i1 rfl Try.underlying22 (by kernel_rfl) (want_none rfl) (opd_dep 8 112 1 rfl rfl rfl rfl) (opd_dep 9 113 0 rfl rfl rfl rfl) hi1 ?_
        refine VWalk.load1 25 _ rfl (want_none rfl) (opd_dep 10 114 0 rfl rfl rfl rfl) (fun _ => by kernel_rfl) hci (ext_drew _) ?_
        refine VWalk.index1E 22 25 _ _ .i64 i1 rfl Try.underlying22 (by kernel_rfl) (want_none rfl) (opd_dep 0 104 11 rfl rfl rfl rfl) (opd_dep 1 105 10 rfl rfl rfl rfl) hi1 ?_
        refine ⟨rfl, fun W18 hE18 => ?_⟩
        refine VFin.eq ?_  -- 0
        refine VFin.eq ?_  -- 1
        refine VFin.eq ?_  -- 2
        refine VFin.eq ?_  -- 3
        refine VFin.eq ?_  -- 4
        refine VFin.eq ?_  -- 5
        refine VFin.eq ?_  -- 6
        refine VFin.eq ?_  -- 7
        refine VFin.eq ?_  -- 8
        refine VFin.eq ?_  -- 9
        refine VFin.eq ?_  -- 10
        refine VFin.eq ?_  -- 11
        refine VFin.eq ?_  -- 12
        refine VFin.nil ?_
        simp only [Act.put, List.setIfInBounds_toArray, List.set_cons_zero, List.set_cons_succ]
        have hE := hE.tr ((ext_drew _).tr hE18)
        have hr := hr.st ((ext_drew _).tr hE18)
        have hXw := hXw.tr ((ext_drew _).tr hE18)
        have hw1 := hr.at_ i1 (by omega) hi1
        have hf1 := hr.box.frozen i1
        rw [ei] at hw1
        have hr2 := hr.put i1 (.slice Ak ls[k1].length ck)
        have hw2 := hr2.box.frozen k1
        obtain ⟨zz, hzz⟩ : ∃ z, (W18.setCell ⟨g, i1, none⟩ (.slice Ak ls[k1].length ck)).cell? ⟨g, k1, none⟩ = some z := ⟨_, hr2.at_ k1 (by rw [List.length_set]; omega) hk1⟩
        have hr3 := hr2.put k1 (.slice Ai ls[i1].length ci)
        have hX3 := hr2.below (hr.below hXw i1 (.slice Ak ls[k1].length ck)) k1 (.slice Ai ls[i1].length ci)
        have hp3 := row_parts (ps := (ls.set i1 ls[k1]).set k1 ls[i1]) (by have := hr3.own (by simp; omega); rw [List.length_set, List.length_set]; exact this) (by simp; omega) (fun j h1 h2 => by
          obtain ⟨q, hq, e1, e2⟩ := set2_get ls i1 k1 hi1 hk1 j h2
          have e3 := e2 ys hyl (by simp at h1 ⊢; omega)
          simp only [ei, ek] at e3
          rw [e1, e3]
          exact VP.st _ _ _ _ (hyv q (by omega) hq) hX3)
        have hndm : nodesR fold ((ls.set i1 ls[k1]).set k1 ls[i1]) = n0 := by
          rw [← HN0.out]
          exact nodes_mem fold _ _ (fun u => mem_swap ls i1 k1 hi1 hk1 u)
        have hnd3 := pnodes_any fold ((ls.set i1 ls[k1]).set k1 ls[i1]) _ _ hp3 (by
          have h1 := flat_bound 3000 ((ls.set i1 ls[k1]).set k1 ls[i1]) (fun b hb => Nat.le_trans (flat_mem ((mem_swap ls i1 k1 hi1 hk1 b).1 hb)) l2)
          rw [List.length_set, List.length_set] at h1
          omega)
        rw [hndm] at hnd3
        have hE3 := hEw.tr hX3
        clear hp3 hndm hr hr2 hr3
        go_wp2_with fail
        refine hnd3.mono ?_
        rintro e w8 ⟨u, rfl, hE8, rfl⟩
        clear hnd3
        go_wp2_with fail
        refine (hwk _).mono ?_
        rintro e w9 ⟨u, rfl, hE9, rfl⟩
        go_wp2
        go_ret
        exact Ret.mk ((hE3.tr hE8).tr hE9) rfl
end Go.Proofs.Ytkbhkadienddmaa
