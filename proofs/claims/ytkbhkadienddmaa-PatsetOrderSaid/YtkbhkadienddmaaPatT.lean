/- PatsetTells, walked. -/
import Derived.Test.YtkbhkadienddmaaPatW
namespace Go.Proofs.Ytkbhkadienddmaa
open Go.RowKit Go.Shelf LetM SetM
theorem c_rmake (fold : Bool) (ws : List (List UInt8)) (f' : Bool) (ws' : List (List UInt8)) (e : Int) (h : makeR fold ws = (f', ws', e)) : ∀ u v w, VEq (.bool fold) u w → VParts ws v w → Calls Try.prog 12 #[u, v] w (Ret w (VTup [VSet f' ws', VEq (.int .i64 e)])) := fun u v w hu hv => by
  rw [show u = _ from hu]
  refine (make_any fold ws v w hv).mono ?_
  rintro x w' ⟨r, h1, h2, sv, h3, h4⟩
  rw [h] at h3 h4
  subst h3
  exact ⟨_, h1, h2, VTup.two ⟨sv, rfl, OwnP.parts h4⟩ rfl⟩
theorem mem_flat_le {ws : List (List UInt8)} (h : ws.flatten.length ≤ 3000) : ∀ b ∈ ws, b.length ≤ 1000000 := fun b hb => Nat.le_trans (flat_mem hb) (by omega)
set_option maxRecDepth 100000 in
set_option maxHeartbeats 8000000 in
theorem patsetTells_any (fold : Bool) (ls : List (List UInt8)) (f1 : Bool) (s1 : List (List UInt8)) (f2 : Bool) (s2 : List (List UInt8)) (wd : List UInt8) (vl vs vo vw : Value) (w : World) (hL : VParts ls vl w) (hS : VSet f1 s1 vs w) (hO : VSet f2 s2 vo w) (hW : VBytes wd vw w) :
    Calls Try.prog 3 #[.bool fold, vl, vs, vo, vw] w (Ret w (VEq (.bool true))) := by
  have hwk := wakes_any
  have hg1 := fun W hv => great_any ls vl W hv
  have hg2 := fun W hv => setgreat_any f1 s1 vs W hv
  have hg3 := fun W hv => setgreat_any f2 s2 vo W hv
  unfold VGreat at hg1 hg2 hg3
  have hL0 := hL
  have hS0 := hS
  have hO0 := hO
  have hW0 := hW
  obtain ⟨A, c, rfl, -⟩ := VParts.form hL
  obtain ⟨D, d, rfl, -⟩ := VBytes.form hW
  obtain ⟨sl1, rfl, hp1⟩ := hS
  obtain ⟨sl2, rfl, hp2⟩ := hO
  obtain ⟨A1, c1, rfl, -⟩ := VParts.form hp1
  obtain ⟨A2, c2, rfl, -⟩ := VParts.form hp2
  clear hL hW
  have hX0 : Ext w ((w.alloc (.cells #[.bool f1, .slice A1 s1.length c1] 24)).alloc (.cells #[.bool f2, .slice A2 s2.length c2] 24)) := (ext_alloc _ _).tr (ext_alloc _ _)
  have hb7 := (Box.new w 24 #[.bool f1, .slice A1 s1.length c1]).alloc (.cells #[.bool f2, .slice A2 s2.length c2] 24)
  have hb8 := Box.new (w.alloc (.cells #[.bool f1, .slice A1 s1.length c1] 24)) 24 #[.bool f2, .slice A2 s2.length c2]
  rw [World.size_alloc] at hb8
  go_enter Try.func3, Try.ntmps3
  go_wp2_with fail
  refine (hg1 _ (VP.st _ _ _ _ hL0 hX0)).mono ?_
  rintro e w1 ⟨u, rfl, hE1, rfl⟩
  have hb7 := hb7.ext hE1
  have hb8 := hb8.ext hE1
  have hE := hX0.tr hE1
  have hc70 := hb7.at_ 0 rfl
  have hc71 := hb7.at_ 1 rfl
  obtain ⟨g1, hq1⟩ : ∃ g, greatB ls = g := ⟨_, rfl⟩
  rw [hq1]
  clear hg1 hX0 hE1
  cases g1
  case true =>
    clear hb7 hb8 hL0 hS0 hO0 hW0 hp1 hp2 hg2 hg3 hq1
    go_wp2_with fail
    refine (hwk _).mono ?_
    rintro e w3 ⟨u, rfl, hE3, rfl⟩
    go_wp2
    go_ret
    exact Ret.mk (hE.tr hE3) rfl
  go_wp2_with fail
  refine (hg2 _ (VP.st _ _ _ _ hS0 hE)).mono ?_
  rintro e w2 ⟨u, rfl, hE2, rfl⟩
  have hb7 := hb7.ext hE2
  have hb8 := hb8.ext hE2
  have hE := hE.tr hE2
  have hc80 := hb8.at_ 0 rfl
  have hc81 := hb8.at_ 1 rfl
  obtain ⟨g2, hq2⟩ : ∃ g, greatB s1 = g := ⟨_, rfl⟩
  rw [hq2]
  clear hg2 hE2 hc70 hc71
  cases g2
  case true =>
    clear hb7 hb8 hL0 hS0 hO0 hW0 hp1 hp2 hg3 hq1 hq2
    go_wp2_with fail
    refine (hwk _).mono ?_
    rintro e w3 ⟨u, rfl, hE3, rfl⟩
    go_wp2
    go_ret
    exact Ret.mk (hE.tr hE3) rfl
  go_wp2_with fail
  refine (hg3 _ (VP.st _ _ _ _ hO0 hE)).mono ?_
  rintro e w3 ⟨u, rfl, hE3, rfl⟩
  have hb7 := hb7.ext hE3
  have hb8 := hb8.ext hE3
  have hE := hE.tr hE3
  obtain ⟨g3, hq3⟩ : ∃ g, greatB s2 = g := ⟨_, rfl⟩
  rw [hq3]
  clear hg3 hE3 hc80 hc81
  cases g3
  case true =>
    clear hb7 hb8 hL0 hS0 hO0 hW0 hp1 hp2 hq1 hq2 hq3
    go_wp2_with fail
    refine (hwk _).mono ?_
    rintro e w4 ⟨u, rfl, hE4, rfl⟩
    go_wp2
    go_ret
    exact Ret.mk (hE.tr hE4) rfl
  by_cases hlen : wd.length ≤ 400
  case neg =>
    clear hb7 hb8 hL0 hS0 hO0 hW0 hp1 hp2 hq1 hq2 hq3
    go_wp2_with fail
    refine (hwk _).mono ?_
    rintro e w4 ⟨u, rfl, hE4, rfl⟩
    go_wp2
    go_ret
    exact Ret.mk (hE.tr hE4) rfl
  obtain ⟨l1, l2⟩ := greatB_false hq1
  obtain ⟨l3, l4⟩ := greatB_false hq2
  obtain ⟨l5, l6⟩ := greatB_false hq3
  clear hq1 hq2 hq3
  obtain ⟨⟨fm, wm, em⟩, hm⟩ : ∃ m, makeR fold ls = m := ⟨_, rfl⟩
  have hmk := fun v W (hv : VParts ls v W) => c_pmake (w0 := W) fold ls fm wm em hm (by omega) (by omega) (.bool fold) v W (Ext.rf W) rfl hv
  have hrk := fun v W (hv : VParts ls v W) => c_rmake fold ls fm wm em hm (.bool fold) v W rfl hv
  clear hm
  go_wp2_with fail
  refine (hmk _ _ (VP.st _ _ _ _ hL0 hE)).mono ?_
  rintro e w4 ⟨u, rfl, hE4, hu⟩
  obtain ⟨_, _, rfl, ⟨sa, rfl, hsa⟩, rfl⟩ := VTup.inv2 hu
  have hX4 := hE4.tr (ext_alloc w4 (.cells #[.bool fm, sa] 24))
  have hb11 := Box.new w4 24 #[.bool fm, sa]
  have hsa := VP.st _ _ _ _ hsa (ext_alloc w4 (.cells #[.bool fm, sa] 24))
  obtain ⟨Aa, ca, ea, -⟩ := VParts.form hsa
  subst ea
  have hb7 := hb7.ext hX4
  have hb8 := hb8.ext hX4
  have hE := hE.tr hX4
  clear hmk hu hE4 hX4
  go_wp2_with fail
  refine (hrk _ _ (VP.st _ _ _ _ hL0 hE)).mono ?_
  rintro e w5 ⟨u, rfl, hE5, hu⟩
  obtain ⟨_, _, rfl, ⟨sb, rfl, hsb⟩, rfl⟩ := VTup.inv2 hu
  have hX5 := hE5.tr (ext_alloc w5 (.cells #[.bool fm, sb] 24))
  have hb13 := Box.new w5 24 #[.bool fm, sb]
  have hsb := VP.st _ _ _ _ hsb (ext_alloc w5 (.cells #[.bool fm, sb] 24))
  obtain ⟨Ab, cb, eb, -⟩ := VParts.form hsb
  subst eb
  have hsa := VP.st _ _ _ _ hsa hX5
  have hb7 := hb7.ext hX5
  have hb8 := hb8.ext hX5
  have hb11 := hb11.ext hX5
  have hE := hE.tr hX5
  clear hrk hu hE5 hX5
  have hp1 := VP.st _ _ _ _ hp1 hE
  have hp2 := VP.st _ _ _ _ hp2 hE
  have hl := VP.st _ _ _ _ hL0 hE
  have hwd := VP.st _ _ _ _ hW0 hE
  have hn1 := fun u v W (hu : VSet f1 s1 u W) (hv : VBytes wd v W) => pnumber_any f1 s1 wd u v W hu hv
  have hn2 := fun u v W (hu : VSet f1 s1 u W) (hv : VBytes wd v W) => rnumber_any f1 s1 wd u v W hu hv (by omega) (mem_flat_le l4)
  generalize (numberF f1 wd s1).1 = nn at *
  generalize (numberF f1 wd s1).2 = nb at *
  have hsm := fun u v W (hu : VSet fm wm u W) (hv : VSet fm wm v W) => setsame_any fm fm wm wm u v W hu hv
  rw [decide_eq_true ⟨rfl, rfl⟩] at hsm
  have hk1 := fun v W (hv : VParts ls v W) => pcheck_any fold ls v W hv (by omega) (by omega)
  have hk2 := fun v W (hv : VParts ls v W) => check_any fold ls v W hv
  have hd1 := fun v W (hv : VParts ls v W) => pnodes_any fold ls v W hv (by omega)
  have hd2 := fun v W (hv : VParts ls v W) => nodes_any fold ls v W hv (by omega)
  generalize checkR fold ls = ck at *
  generalize nodesR fold ls = nd at *
  have hr1 := fun u W (hu : VSet f1 s1 u W) => pright_any f1 s1 u W hu (by omega) (by omega)
  have hr2 := fun u W (hu : VSet f1 s1 u W) => setright_any f1 s1 u W hu
  have hg1 := fun u W (hu : VSet f1 s1 u W) => plongest_any f1 s1 u W hu (mem_flat_le l4)
  have hg2 := fun u W (hu : VSet f1 s1 u W) => rlongest_any f1 s1 u W hu (mem_flat_le l4)
  have hq1 := fun u v W (hu : VSet f1 s1 u W) (hv : VSet f2 s2 v W) => psame_any f1 f2 s1 s2 u v W hu hv
  have hq2 := fun u v W (hu : VSet f1 s1 u W) (hv : VSet f2 s2 v W) => setsame_any f1 f2 s1 s2 u v W hu hv
  have how := fun u W (hu : VSet f1 s1 u W) => c_pown (w0 := W) f1 s1 (mem_flat_le l4) (by omega) u W (Ext.rf W) hu
  have hss := fun u v W (hu : VSet f1 s1 u W) (hv : VSet f1 s1 v W) => setsame_any f1 f1 s1 s1 u v W hu hv
  rw [decide_eq_true ⟨rfl, rfl⟩] at hss
  generalize rightS f1 s1 = rr at *
  generalize longN s1 = lg at *
  generalize decide (f1 = f2 ∧ s1 = s2) = sm at *
  clear hL0 hS0 hO0 hW0
  go_upto_region 5 with (fail)
  refine vregion0 6 (by kernel_rfl) ?_
  refine VWalk.loadBox 24 _ rfl (want_none rfl) (opd_frame 7 rfl (by kernel_rfl)) Try.underlying24 rfl (by kernel_rfl) hb7 (Ext.rf _) ?_
  refine VWalk.move _ rfl (want_none rfl) (opd_fr 4 rfl hwd (Ext.rf _) (by kernel_rfl)) ?_
  refine VWalk.call2 13 _ _ _ rfl (enters_of Try.func13 (by kernel_rfl) rfl) (want_none rfl) (opd_dep 0 48 1 rfl rfl rfl rfl) (opd_dep 1 49 0 rfl rfl rfl rfl) (fun u v W hX hu hv => by rw [show u = _ from hu]; exact hn1 _ v W ⟨_, rfl, VP.st _ _ _ _ hp1 hX⟩ hv) ?_
  refine VWalk.move _ rfl (want_none rfl) (opd_dep 2 50 0 rfl rfl rfl rfl) ?_
  refine VWalk.extract _ 0 rfl rfl (want_none rfl) (opd_dep 3 47 0 rfl rfl rfl rfl) ?_
  refine VWalk.extract _ 1 rfl rfl (want_none rfl) (opd_dep 3 47 1 rfl rfl rfl rfl) ?_
  refine ⟨rfl, fun W5 hE5 => ?_⟩
  refine VFin.eq ?_  -- 0
  refine VFin.any fun v5_1 hv5_1 => ?_
  refine VFin.any fun v5_2 hv5_2 => ?_
  refine VFin.any fun v5_3 hv5_3 => ?_
  refine VFin.eq ?_  -- 4
  refine VFin.eq ?_  -- 5
  refine VFin.nil ?_
  simp only [Act.put, List.setIfInBounds_toArray, List.set_cons_zero, List.set_cons_succ]
  clear hv5_1 hv5_2 hv5_3
  have hl := VP.st _ _ _ _ hl hE5
  have hwd := VP.st _ _ _ _ hwd hE5
  have hsa := VP.st _ _ _ _ hsa hE5
  have hsb := VP.st _ _ _ _ hsb hE5
  have hp1 := VP.st _ _ _ _ hp1 hE5
  have hp2 := VP.st _ _ _ _ hp2 hE5
  have hb7 := hb7.ext hE5
  have hb8 := hb8.ext hE5
  have hb11 := hb11.ext hE5
  have hb13 := hb13.ext hE5
  have hE := hE.tr hE5
  go_upto_region 6 with (fail)
  refine vregion0 6 (by kernel_rfl) ?_
  refine VWalk.loadBox 24 _ rfl (want_none rfl) (opd_frame 7 rfl (by kernel_rfl)) Try.underlying24 rfl (by kernel_rfl) hb7 (Ext.rf _) ?_
  refine VWalk.move _ rfl (want_none rfl) (opd_fr 4 rfl hwd (Ext.rf _) (by kernel_rfl)) ?_
  refine VWalk.call2 14 _ _ _ rfl (enters_of Try.func14 (by kernel_rfl) rfl) (want_none rfl) (opd_dep 0 54 1 rfl rfl rfl rfl) (opd_dep 1 55 0 rfl rfl rfl rfl) (fun u v W hX hu hv => by rw [show u = _ from hu]; exact hn2 _ v W ⟨_, rfl, VP.st _ _ _ _ hp1 hX⟩ hv) ?_
  refine VWalk.move _ rfl (want_none rfl) (opd_dep 2 56 0 rfl rfl rfl rfl) ?_
  refine VWalk.extract _ 0 rfl rfl (want_none rfl) (opd_dep 3 53 0 rfl rfl rfl rfl) ?_
  refine VWalk.extract _ 1 rfl rfl (want_none rfl) (opd_dep 3 53 1 rfl rfl rfl rfl) ?_
  refine ⟨rfl, fun W6 hE6 => ?_⟩
  refine VFin.eq ?_  -- 0
  refine VFin.any fun v6_1 hv6_1 => ?_
  refine VFin.any fun v6_2 hv6_2 => ?_
  refine VFin.any fun v6_3 hv6_3 => ?_
  refine VFin.eq ?_  -- 4
  refine VFin.eq ?_  -- 5
  refine VFin.nil ?_
  simp only [Act.put, List.setIfInBounds_toArray, List.set_cons_zero, List.set_cons_succ]
  clear hv6_1 hv6_2 hv6_3
  have hl := VP.st _ _ _ _ hl hE6
  have hwd := VP.st _ _ _ _ hwd hE6
  have hsa := VP.st _ _ _ _ hsa hE6
  have hsb := VP.st _ _ _ _ hsb hE6
  have hp1 := VP.st _ _ _ _ hp1 hE6
  have hp2 := VP.st _ _ _ _ hp2 hE6
  have hb7 := hb7.ext hE6
  have hb8 := hb8.ext hE6
  have hb11 := hb11.ext hE6
  have hb13 := hb13.ext hE6
  have hE := hE.tr hE6
  go_upto_region 7 with (fail)
  refine vregion0 37 (by kernel_rfl) ?_
  refine VWalk.loadBox 24 _ rfl (want_none rfl) (opd_frame 11 rfl (by kernel_rfl)) Try.underlying24 rfl (by kernel_rfl) hb11 (Ext.rf _) ?_
  refine VWalk.loadBox 24 _ rfl (want_none rfl) (opd_frame 13 rfl (by kernel_rfl)) Try.underlying24 rfl (by kernel_rfl) hb13 (Ext.rf _) ?_
  refine VWalk.call2 15 _ _ _ rfl (enters_of Try.func15 (by kernel_rfl) rfl) (want_none rfl) (opd_dep 0 59 1 rfl rfl rfl rfl) (opd_dep 1 60 0 rfl rfl rfl rfl) (fun u v W hX hu hv => by rw [show u = _ from hu, show v = _ from hv]; exact hsm _ _ W ⟨_, rfl, VP.st _ _ _ _ hsa hX⟩ ⟨_, rfl, VP.st _ _ _ _ hsb hX⟩) ?_
  refine VWalk.headT rfl ?_
  refine VWalk.notB _ _ rfl (want_none rfl) (opd_dep 2 61 0 rfl rfl rfl rfl) rfl ?_
  refine VWalk.move _ rfl (want_none rfl) (opd_dep 3 62 0 rfl rfl rfl rfl) ?_
  refine VWalk.move _ rfl (want_ff 4 63 0 rfl (by kernel_rfl) rfl rfl rfl rfl) (opd_frame 12 rfl (by kernel_rfl)) ?_
  refine VWalk.move _ rfl (want_ff 4 63 1 rfl (by kernel_rfl) rfl rfl rfl rfl) (opd_frame 14 rfl (by kernel_rfl)) ?_
  refine VWalk.neT _ _ _ _ rfl (want_ff 4 63 2 rfl (by kernel_rfl) rfl rfl rfl rfl) (opd_dep 5 64 1 rfl rfl rfl rfl) (opd_dep 6 65 0 rfl rfl rfl rfl) rfl ?_
  refine VWalk.pickF _ _ _ rfl (want_none rfl) (opd_dep 4 63 3 rfl rfl rfl rfl) (opd_dep 7 66 0 rfl rfl rfl rfl) ?_
  refine VWalk.move _ rfl (want_none rfl) (opd_dep 8 67 0 rfl rfl rfl rfl) ?_
  refine VWalk.move _ rfl (want_ff 9 68 0 rfl (by kernel_rfl) rfl rfl rfl rfl) (opd_frame 15 rfl (by kernel_rfl)) ?_
  refine VWalk.move _ rfl (want_ff 9 68 1 rfl (by kernel_rfl) rfl rfl rfl rfl) (opd_frame 17 rfl (by kernel_rfl)) ?_
  refine VWalk.neT _ _ _ _ rfl (want_ff 9 68 2 rfl (by kernel_rfl) rfl rfl rfl rfl) (opd_dep 10 69 1 rfl rfl rfl rfl) (opd_dep 11 70 0 rfl rfl rfl rfl) rfl ?_
  refine VWalk.pickF _ _ _ rfl (want_none rfl) (opd_dep 9 68 3 rfl rfl rfl rfl) (opd_dep 12 71 0 rfl rfl rfl rfl) ?_
  refine VWalk.move _ rfl (want_none rfl) (opd_dep 13 72 0 rfl rfl rfl rfl) ?_
  refine VWalk.move _ rfl (want_ff 14 73 0 rfl (by kernel_rfl) rfl rfl rfl rfl) (opd_frame 16 rfl (by kernel_rfl)) ?_
  refine VWalk.move _ rfl (want_ff 14 73 1 rfl (by kernel_rfl) rfl rfl rfl rfl) (opd_frame 18 rfl (by kernel_rfl)) ?_
  refine VWalk.neTb _ _ _ _ rfl (want_ff 14 73 2 rfl (by kernel_rfl) rfl rfl rfl rfl) (opd_dep 15 74 1 rfl rfl rfl rfl) (opd_dep 16 75 0 rfl rfl rfl rfl) Try.underlying4 rfl ?_
  refine VWalk.pickF _ _ _ rfl (want_none rfl) (opd_dep 14 73 3 rfl rfl rfl rfl) (opd_dep 17 76 0 rfl rfl rfl rfl) ?_
  refine VWalk.move _ rfl (want_none rfl) (opd_dep 18 77 0 rfl rfl rfl rfl) ?_
  refine VWalk.move _ rfl (want_ff 19 78 0 rfl (by kernel_rfl) rfl rfl rfl rfl) (opd_frame 0 rfl (by kernel_rfl)) ?_
  refine VWalk.move _ rfl (want_ff 19 78 1 rfl (by kernel_rfl) rfl rfl rfl rfl) (opd_fr 1 rfl hl (Ext.rf _) (by kernel_rfl)) ?_
  refine VWalk.call2 16 _ _ _ rfl (enters_of Try.func16 (by kernel_rfl) rfl) (want_ff 19 78 2 rfl (by kernel_rfl) rfl rfl rfl rfl) (opd_dep 20 79 1 rfl rfl rfl rfl) (opd_dep 21 80 0 rfl rfl rfl rfl) (fun u v W hX hu hv => by rw [show u = _ from hu]; exact hk1 v W hv) ?_
  refine VWalk.move _ rfl (want_ff 19 78 3 rfl (by kernel_rfl) rfl rfl rfl rfl) (opd_frame 0 rfl (by kernel_rfl)) ?_
  refine VWalk.move _ rfl (want_ff 19 78 4 rfl (by kernel_rfl) rfl rfl rfl rfl) (opd_fr 1 rfl hl (Ext.rf _) (by kernel_rfl)) ?_
  refine VWalk.call2 17 _ _ _ rfl (enters_of Try.func17 (by kernel_rfl) rfl) (want_ff 19 78 5 rfl (by kernel_rfl) rfl rfl rfl rfl) (opd_dep 23 82 1 rfl rfl rfl rfl) (opd_dep 24 83 0 rfl rfl rfl rfl) (fun u v W hX hu hv => by rw [show u = _ from hu]; exact hk2 v W hv) ?_
  refine VWalk.neT _ _ _ _ rfl (want_ff 19 78 6 rfl (by kernel_rfl) rfl rfl rfl rfl) (opd_dep 22 81 3 rfl rfl rfl rfl) (opd_dep 25 84 0 rfl rfl rfl rfl) rfl ?_
  refine VWalk.pickF _ _ _ rfl (want_none rfl) (opd_dep 19 78 7 rfl rfl rfl rfl) (opd_dep 26 85 0 rfl rfl rfl rfl) ?_
  refine VWalk.move _ rfl (want_none rfl) (opd_dep 27 86 0 rfl rfl rfl rfl) ?_
  refine VWalk.move _ rfl (want_ff 28 87 0 rfl (by kernel_rfl) rfl rfl rfl rfl) (opd_frame 0 rfl (by kernel_rfl)) ?_
  refine VWalk.move _ rfl (want_ff 28 87 1 rfl (by kernel_rfl) rfl rfl rfl rfl) (opd_fr 1 rfl hl (Ext.rf _) (by kernel_rfl)) ?_
  refine VWalk.call2 18 _ _ _ rfl (enters_of Try.func18 (by kernel_rfl) rfl) (want_ff 28 87 2 rfl (by kernel_rfl) rfl rfl rfl rfl) (opd_dep 29 88 1 rfl rfl rfl rfl) (opd_dep 30 89 0 rfl rfl rfl rfl) (fun u v W hX hu hv => by rw [show u = _ from hu]; exact hd1 v W hv) ?_
  refine VWalk.move _ rfl (want_ff 28 87 3 rfl (by kernel_rfl) rfl rfl rfl rfl) (opd_frame 0 rfl (by kernel_rfl)) ?_
  refine VWalk.move _ rfl (want_ff 28 87 4 rfl (by kernel_rfl) rfl rfl rfl rfl) (opd_fr 1 rfl hl (Ext.rf _) (by kernel_rfl)) ?_
  refine VWalk.call2 19 _ _ _ rfl (enters_of Try.func19 (by kernel_rfl) rfl) (want_ff 28 87 5 rfl (by kernel_rfl) rfl rfl rfl rfl) (opd_dep 32 91 1 rfl rfl rfl rfl) (opd_dep 33 92 0 rfl rfl rfl rfl) (fun u v W hX hu hv => by rw [show u = _ from hu]; exact hd2 v W hv) ?_
  refine VWalk.neT _ _ _ _ rfl (want_ff 28 87 6 rfl (by kernel_rfl) rfl rfl rfl rfl) (opd_dep 31 90 3 rfl rfl rfl rfl) (opd_dep 34 93 0 rfl rfl rfl rfl) rfl ?_
  refine VWalk.pickF _ _ _ rfl (want_none rfl) (opd_dep 28 87 7 rfl rfl rfl rfl) (opd_dep 35 94 0 rfl rfl rfl rfl) ?_
  refine ⟨rfl, fun W7 hE7 => ?_⟩
  refine VFin.eq ?_  -- 0
  refine VFin.eq ?_  -- 1
  refine VFin.eq ?_  -- 2
  refine VFin.eq ?_  -- 3
  refine VFin.eq ?_  -- 4
  refine VFin.eq ?_  -- 5
  refine VFin.eq ?_  -- 6
  refine VFin.eq ?_  -- 7
  refine VFin.eq ?_  -- 8
  refine VFin.eq ?_  -- 9
  refine VFin.eq ?_  -- 10
  refine VFin.eq ?_  -- 11
  refine VFin.eq ?_  -- 12
  refine VFin.eq ?_  -- 13
  refine VFin.eq ?_  -- 14
  refine VFin.eq ?_  -- 15
  refine VFin.eq ?_  -- 16
  refine VFin.eq ?_  -- 17
  refine VFin.eq ?_  -- 18
  refine VFin.eq ?_  -- 19
  refine VFin.eq ?_  -- 20
  refine VFin.any fun v7_21 hv7_21 => ?_
  refine VFin.eq ?_  -- 22
  refine VFin.eq ?_  -- 23
  refine VFin.any fun v7_24 hv7_24 => ?_
  refine VFin.eq ?_  -- 25
  refine VFin.eq ?_  -- 26
  refine VFin.eq ?_  -- 27
  refine VFin.eq ?_  -- 28
  refine VFin.eq ?_  -- 29
  refine VFin.any fun v7_30 hv7_30 => ?_
  refine VFin.eq ?_  -- 31
  refine VFin.eq ?_  -- 32
  refine VFin.any fun v7_33 hv7_33 => ?_
  refine VFin.eq ?_  -- 34
  refine VFin.eq ?_  -- 35
  refine VFin.eq ?_  -- 36
  refine VFin.nil ?_
  simp only [Act.put, List.setIfInBounds_toArray, List.set_cons_zero, List.set_cons_succ]
  clear hv7_21 hv7_24 hv7_30 hv7_33
  have hl := VP.st _ _ _ _ hl hE7
  have hwd := VP.st _ _ _ _ hwd hE7
  have hsa := VP.st _ _ _ _ hsa hE7
  have hsb := VP.st _ _ _ _ hsb hE7
  have hp1 := VP.st _ _ _ _ hp1 hE7
  have hp2 := VP.st _ _ _ _ hp2 hE7
  have hb7 := hb7.ext hE7
  have hb8 := hb8.ext hE7
  have hb11 := hb11.ext hE7
  have hb13 := hb13.ext hE7
  have hE := hE.tr hE7
  clear hn1 hn2 hsm hk1 hk2 hd1 hd2
  go_upto_region 9 with (fail)
  refine vregion 30 [] (by kernel_rfl) (by kernel_rfl) (fun _ _ _ _ _ h => h) ?_
  refine VWalk.loadBox 24 _ rfl (want_none rfl) (opd_frame 7 rfl (by kernel_rfl)) Try.underlying24 rfl (by kernel_rfl) hb7 (ext_drew _) ?_
  refine VWalk.call1 20 _ _ rfl (enters_of Try.func20 (by kernel_rfl) rfl) (want_none rfl) (opd_dep 0 96 0 rfl rfl rfl rfl) (fun u W hX hu => by rw [show u = _ from hu]; exact hr1 _ W ⟨_, rfl, VP.st _ _ _ _ hp1 ((ext_drew _).tr hX)⟩) ?_
  refine VWalk.loadBox 24 _ rfl (want_none rfl) (opd_frame 7 rfl (by kernel_rfl)) Try.underlying24 rfl (by kernel_rfl) hb7 (ext_drew _) ?_
  refine VWalk.call1 21 _ _ rfl (enters_of Try.func21 (by kernel_rfl) rfl) (want_none rfl) (opd_dep 2 98 0 rfl rfl rfl rfl) (fun u W hX hu => by rw [show u = _ from hu]; exact hr2 _ W ⟨_, rfl, VP.st _ _ _ _ hp1 ((ext_drew _).tr hX)⟩) ?_
  refine VWalk.eqTb _ _ _ _ rfl (want_none rfl) (opd_dep 1 97 2 rfl rfl rfl rfl) (opd_dep 3 99 0 rfl rfl rfl rfl) Try.underlying4 rfl ?_
  refine VWalk.move _ rfl (want_none rfl) (opd_dep 4 100 0 rfl rfl rfl rfl) ?_
  refine VWalk.loadBox 24 _ rfl (want_tt 5 101 0 rfl (by kernel_rfl) rfl rfl rfl rfl) (opd_frame 7 rfl (by kernel_rfl)) Try.underlying24 rfl (by kernel_rfl) hb7 (ext_drew _) ?_
  refine VWalk.call1 22 _ _ rfl (enters_of Try.func22 (by kernel_rfl) rfl) (want_tt 5 101 1 rfl (by kernel_rfl) rfl rfl rfl rfl) (opd_dep 6 102 0 rfl rfl rfl rfl) (fun u W hX hu => by rw [show u = _ from hu]; exact hg1 _ W ⟨_, rfl, VP.st _ _ _ _ hp1 ((ext_drew _).tr hX)⟩) ?_
  refine VWalk.loadBox 24 _ rfl (want_tt 5 101 2 rfl (by kernel_rfl) rfl rfl rfl rfl) (opd_frame 7 rfl (by kernel_rfl)) Try.underlying24 rfl (by kernel_rfl) hb7 (ext_drew _) ?_
  refine VWalk.call1 23 _ _ rfl (enters_of Try.func23 (by kernel_rfl) rfl) (want_tt 5 101 3 rfl (by kernel_rfl) rfl rfl rfl rfl) (opd_dep 8 104 0 rfl rfl rfl rfl) (fun u W hX hu => by rw [show u = _ from hu]; exact hg2 _ W ⟨_, rfl, VP.st _ _ _ _ hp1 ((ext_drew _).tr hX)⟩) ?_
  refine VWalk.eqT _ _ _ _ rfl (want_tt 5 101 4 rfl (by kernel_rfl) rfl rfl rfl rfl) (opd_dep 7 103 2 rfl rfl rfl rfl) (opd_dep 9 105 0 rfl rfl rfl rfl) rfl ?_
  refine VWalk.pickT _ _ _ rfl (want_none rfl) (opd_dep 5 101 5 rfl rfl rfl rfl) (opd_dep 10 106 0 rfl rfl rfl rfl) ?_
  refine VWalk.move _ rfl (want_none rfl) (opd_dep 11 107 0 rfl rfl rfl rfl) ?_
  refine VWalk.loadBox 24 _ rfl (want_tt 12 108 0 rfl (by kernel_rfl) rfl rfl rfl rfl) (opd_frame 7 rfl (by kernel_rfl)) Try.underlying24 rfl (by kernel_rfl) hb7 (ext_drew _) ?_
  refine VWalk.loadBox 24 _ rfl (want_tt 12 108 1 rfl (by kernel_rfl) rfl rfl rfl rfl) (opd_frame 8 rfl (by kernel_rfl)) Try.underlying24 rfl (by kernel_rfl) hb8 (ext_drew _) ?_
  refine VWalk.call2 24 _ _ _ rfl (enters_of Try.func24 (by kernel_rfl) rfl) (want_tt 12 108 2 rfl (by kernel_rfl) rfl rfl rfl rfl) (opd_dep 13 109 1 rfl rfl rfl rfl) (opd_dep 14 110 0 rfl rfl rfl rfl) (fun u v W hX hu hv => by rw [show u = _ from hu, show v = _ from hv]; exact hq1 _ _ W ⟨_, rfl, VP.st _ _ _ _ hp1 ((ext_drew _).tr hX)⟩ ⟨_, rfl, VP.st _ _ _ _ hp2 ((ext_drew _).tr hX)⟩) ?_
  refine VWalk.loadBox 24 _ rfl (want_tt 12 108 3 rfl (by kernel_rfl) rfl rfl rfl rfl) (opd_frame 7 rfl (by kernel_rfl)) Try.underlying24 rfl (by kernel_rfl) hb7 (ext_drew _) ?_
  refine VWalk.loadBox 24 _ rfl (want_tt 12 108 4 rfl (by kernel_rfl) rfl rfl rfl rfl) (opd_frame 8 rfl (by kernel_rfl)) Try.underlying24 rfl (by kernel_rfl) hb8 (ext_drew _) ?_
  refine VWalk.call2 15 _ _ _ rfl (enters_of Try.func15 (by kernel_rfl) rfl) (want_tt 12 108 5 rfl (by kernel_rfl) rfl rfl rfl rfl) (opd_dep 16 112 1 rfl rfl rfl rfl) (opd_dep 17 113 0 rfl rfl rfl rfl) (fun u v W hX hu hv => by rw [show u = _ from hu, show v = _ from hv]; exact hq2 _ _ W ⟨_, rfl, VP.st _ _ _ _ hp1 ((ext_drew _).tr hX)⟩ ⟨_, rfl, VP.st _ _ _ _ hp2 ((ext_drew _).tr hX)⟩) ?_
  refine VWalk.eqTb _ _ _ _ rfl (want_tt 12 108 6 rfl (by kernel_rfl) rfl rfl rfl rfl) (opd_dep 15 111 3 rfl rfl rfl rfl) (opd_dep 18 114 0 rfl rfl rfl rfl) Try.underlying4 rfl ?_
  refine VWalk.pickT _ _ _ rfl (want_none rfl) (opd_dep 12 108 7 rfl rfl rfl rfl) (opd_dep 19 115 0 rfl rfl rfl rfl) ?_
  refine VWalk.move _ rfl (want_none rfl) (opd_dep 20 116 0 rfl rfl rfl rfl) ?_
  refine VWalk.loadBox 24 _ rfl (want_tt 21 117 0 rfl (by kernel_rfl) rfl rfl rfl rfl) (opd_frame 7 rfl (by kernel_rfl)) Try.underlying24 rfl (by kernel_rfl) hb7 (ext_drew _) ?_
  refine VWalk.call1 25 _ _ rfl (enters_of Try.func25 (by kernel_rfl) rfl) (want_tt 21 117 1 rfl (by kernel_rfl) rfl rfl rfl rfl) (opd_dep 22 118 0 rfl rfl rfl rfl) (fun u W hX hu => by rw [show u = _ from hu]; exact how _ W ⟨_, rfl, VP.st _ _ _ _ hp1 ((ext_drew _).tr hX)⟩) ?_
  refine VWalk.loadBox 24 _ rfl (want_tt 21 117 2 rfl (by kernel_rfl) rfl rfl rfl rfl) (opd_frame 7 rfl (by kernel_rfl)) Try.underlying24 rfl (by kernel_rfl) hb7 (ext_drew _) ?_
  refine VWalk.call2 15 _ _ _ rfl (enters_of Try.func15 (by kernel_rfl) rfl) (want_tt 21 117 3 rfl (by kernel_rfl) rfl rfl rfl rfl) (opd_dep 23 119 1 rfl rfl rfl rfl) (opd_dep 24 120 0 rfl rfl rfl rfl) (fun u v W hX hu hv => by rw [show v = _ from hv]; exact hss u _ W hu ⟨_, rfl, VP.st _ _ _ _ hp1 ((ext_drew _).tr hX)⟩) ?_
  refine VWalk.headT rfl ?_
  refine VWalk.pickT _ _ _ rfl (want_none rfl) (opd_dep 21 117 4 rfl rfl rfl rfl) (opd_dep 25 121 0 rfl rfl rfl rfl) ?_
  refine VWalk.move _ rfl (want_none rfl) (opd_dep 26 122 0 rfl rfl rfl rfl) ?_
  refine VWalk.call0 10 _ rfl (enters_of Try.func10 (by kernel_rfl) rfl) (want_tt 27 123 0 rfl (by kernel_rfl) rfl rfl rfl rfl) (fun w _ => hwk w) ?_
  refine VWalk.headT (by decide) ?_
  refine VWalk.pickT _ _ _ rfl (want_none rfl) (opd_dep 27 123 1 rfl rfl rfl rfl) (opd_dep 28 124 0 rfl rfl rfl rfl) ?_
  refine ⟨rfl, fun W9 hE9 => ?_⟩
  refine VFin.eq ?_  -- 0
  refine VFin.eq ?_  -- 1
  refine VFin.eq ?_  -- 2
  refine VFin.eq ?_  -- 3
  refine VFin.eq ?_  -- 4
  refine VFin.eq ?_  -- 5
  refine VFin.eq ?_  -- 6
  refine VFin.eq ?_  -- 7
  refine VFin.eq ?_  -- 8
  refine VFin.eq ?_  -- 9
  refine VFin.eq ?_  -- 10
  refine VFin.eq ?_  -- 11
  refine VFin.eq ?_  -- 12
  refine VFin.eq ?_  -- 13
  refine VFin.eq ?_  -- 14
  refine VFin.eq ?_  -- 15
  refine VFin.eq ?_  -- 16
  refine VFin.eq ?_  -- 17
  refine VFin.eq ?_  -- 18
  refine VFin.eq ?_  -- 19
  refine VFin.eq ?_  -- 20
  refine VFin.eq ?_  -- 21
  refine VFin.eq ?_  -- 22
  refine VFin.any fun v9_23 hv9_23 => ?_
  refine VFin.eq ?_  -- 24
  refine VFin.eq ?_  -- 25
  refine VFin.eq ?_  -- 26
  refine VFin.eq ?_  -- 27
  refine VFin.eq ?_  -- 28
  refine VFin.eq ?_  -- 29
  refine VFin.nil ?_
  simp only [Act.put, List.setIfInBounds_toArray, List.set_cons_zero, List.set_cons_succ]
  clear hv9_23
  have hl := VP.st _ _ _ _ hl ((ext_drew _).tr hE9)
  have hwd := VP.st _ _ _ _ hwd ((ext_drew _).tr hE9)
  have hsa := VP.st _ _ _ _ hsa ((ext_drew _).tr hE9)
  have hsb := VP.st _ _ _ _ hsb ((ext_drew _).tr hE9)
  have hp1 := VP.st _ _ _ _ hp1 ((ext_drew _).tr hE9)
  have hp2 := VP.st _ _ _ _ hp2 ((ext_drew _).tr hE9)
  have hb7 := hb7.drew.ext hE9
  have hb8 := hb8.drew.ext hE9
  have hb11 := hb11.drew.ext hE9
  have hb13 := hb13.drew.ext hE9
  have hE := hE.tr ((ext_drew _).tr hE9)
  go_wp2
  go_ret
  exact Ret.mk hE rfl
end Go.Proofs.Ytkbhkadienddmaa
