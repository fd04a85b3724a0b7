/- The wakes, walked. -/
import Derived.Test.YtfbamdkalamliaaClW
namespace Go.Proofs.Ytfbamdkalamliaa
open Go.RowKit LetM SetM
theorem wk_cls1 : (clsO true lShe).2 = (4, 0) := by decide +kernel
theorem wk_cls1e : (clsO true lShe).1 101 = 1 := by decide +kernel
theorem wk_cls1E : (clsO true lShe).1 69 = 1 := by decide +kernel
theorem wk_cls1H : (clsO true lShe).1 72 = 2 := by decide +kernel
theorem wk_cls1s : (clsO true lShe).1 115 = 3 := by decide +kernel
theorem wk_cls1x : (clsO true lShe).1 120 = 0 := by decide +kernel
theorem wk_cls2 : (clsO false lShe).2 = (4, 0) := by decide +kernel
theorem wk_cls2e : (clsO false lShe).1 101 = 1 := by decide +kernel
theorem wk_cls2E : (clsO false lShe).1 69 = 0 := by decide +kernel
theorem wk_cls2s : (clsO false lShe).1 115 = 3 := by decide +kernel
theorem wk_cls3 : (clsO false []).2 = (0, 2) := by decide +kernel
theorem wk_clses : clsesO true lShe [104, 69, 120] = ([2, 1, 0], 0) := by decide +kernel
theorem wk_bytes : bytesO true lShe 2 = [72, 104] := by decide +kernel
theorem wk_least : leastO true lShe [3, 9, 1] = [83, 69] := by decide +kernel
theorem new_row {w2 : World} {T : TypeId} (z cs : Array Value) : Ext w2 ((w2.alloc (.cells z T)).setRow w2.heap.size cs) := below_setRow (ext_alloc _ _) (Nat.le_refl _) _
set_option maxRecDepth 100000 in
set_option maxHeartbeats 4000000 in
theorem wakes_any (w : World) : Calls Try.prog 8 #[] w (Ret w (VEq (.bool true))) := by
  go_enter Try.func8, Try.ntmps8
  have hE0 : Ext w w := Ext.rf w
  go_wp2_with fail
  refine (she_any true _).mono ?_
  rintro _ wa1 ⟨u, rfl, hEa, hu⟩
  have hu2 := hu
  obtain ⟨sl, rfl, hP⟩ := hu
  obtain ⟨A1, c1, rfl, -⟩ := VParts.form hP
  clear hP
  go_wp2_with fail
  refine (clOf_any true lShe _ _ hu2 (by decide) (by decide)).mono ?_
  rintro _ wb1 ⟨u, rfl, hEb, hu⟩
  obtain ⟨_, _, _, rfl, rfl, rfl, rfl⟩ := VTup.inv3 hu
  clear hu hu2
  have e1 := congrArg Prod.fst wk_cls1
  have e2 := congrArg Prod.snd wk_cls1
  obtain ⟨cf1, hcf⟩ : ∃ cf, (clsO true lShe).1 = cf := ⟨_, rfl⟩
  rw [hcf, e1, e2]
  have Hcf1 := hide hcf
  clear hcf e1 e2
  dsimp only
  go_upto_region 2 with (first | (refine wpList_allocZ rfl 29 rfl _ zeroI ?_) | (refine wpList_store_row rfl 29 _ _ rfl wb1.heap.size (iArr cf1) rfl rfl 29 (iArr fun _ => 0) (Box.new wb1 29 (iArr fun _ => 0)) (by rw [iArr_size]; kernel_rfl) (by rw [iArr_size, iArr_size]) (arr_one fun _ _ => rfl) ?_))
  have hX := hEa.tr (hEb.tr (new_row (w2 := wb1) (T := 29) (iArr fun _ => 0) (iArr cf1)))
  have hb1 : Box ((wb1.alloc (.cells (iArr fun _ => 0) 29)).setRow wb1.heap.size (iArr cf1)) wb1.heap.size 29 (iArr cf1) := (Box.new wb1 29 (iArr fun _ => 0)).setRow_
  have hE1 := hE0.tr hX
  generalize (wb1.alloc (.cells (iArr fun _ => 0) 29)).setRow wb1.heap.size (iArr cf1) = ww1 at *
  generalize wb1.heap.size = g1 at *
  clear hEa hEb hX hE0
  go_wp2_with fail
  refine (she_any false _).mono ?_
  rintro _ wa2 ⟨u, rfl, hEa, hu⟩
  have hu2 := hu
  obtain ⟨sl, rfl, hP⟩ := hu
  obtain ⟨A2, c2, rfl, -⟩ := VParts.form hP
  clear hP
  go_wp2_with fail
  refine (clOf_any false lShe _ _ hu2 (by decide) (by decide)).mono ?_
  rintro _ wb2 ⟨u, rfl, hEb, hu⟩
  obtain ⟨_, _, _, rfl, rfl, rfl, rfl⟩ := VTup.inv3 hu
  clear hu hu2
  have e1 := congrArg Prod.fst wk_cls2
  have e2 := congrArg Prod.snd wk_cls2
  obtain ⟨cf2, hcf⟩ : ∃ cf, (clsO false lShe).1 = cf := ⟨_, rfl⟩
  rw [hcf, e1, e2]
  have Hcf2 := hide hcf
  clear hcf e1 e2
  dsimp only
  go_upto_region 3 with (first | (refine wpList_allocZ rfl 29 rfl _ zeroI ?_) | (refine wpList_store_row rfl 29 _ _ rfl wb2.heap.size (iArr cf2) rfl rfl 29 (iArr fun _ => 0) (Box.new wb2 29 (iArr fun _ => 0)) (by rw [iArr_size]; kernel_rfl) (by rw [iArr_size, iArr_size]) (arr_one fun _ _ => rfl) ?_))
  have hX := hEa.tr (hEb.tr (new_row (w2 := wb2) (T := 29) (iArr fun _ => 0) (iArr cf2)))
  have hb2 : Box ((wb2.alloc (.cells (iArr fun _ => 0) 29)).setRow wb2.heap.size (iArr cf2)) wb2.heap.size 29 (iArr cf2) := (Box.new wb2 29 (iArr fun _ => 0)).setRow_
  have hb1 := hb1.ext hX
  have hE2 := hE1.tr hX
  generalize (wb2.alloc (.cells (iArr fun _ => 0) 29)).setRow wb2.heap.size (iArr cf2) = ww2 at *
  generalize wb2.heap.size = g2 at *
  clear hEa hEb hX hE1
  have hEa : Ext ww2 ww2 := Ext.rf _
  have hu2 : VSet false [] (.agg #[.bool false, .slice none 0 0]) ww2 := ⟨_, rfl, ⟨none, 0, rfl, Nat.le_refl _, by decide, fun h => by simp at h⟩⟩
  go_wp2_with fail
  refine (clOf_any false [] _ _ hu2 (by decide) (by decide)).mono ?_
  rintro _ wb3 ⟨u, rfl, hEb, hu⟩
  obtain ⟨_, _, _, rfl, rfl, rfl, rfl⟩ := VTup.inv3 hu
  clear hu hu2
  have e1 := congrArg Prod.fst wk_cls3
  have e2 := congrArg Prod.snd wk_cls3
  obtain ⟨cf3, hcf⟩ : ∃ cf, (clsO false []).1 = cf := ⟨_, rfl⟩
  rw [hcf, e1, e2]
  have Hcf3 := hide hcf
  clear hcf e1 e2
  dsimp only
  go_upto_region 4 with (first | (refine wpList_allocZ rfl 29 rfl _ zeroI ?_) | (refine wpList_store_row rfl 29 _ _ rfl wb3.heap.size (iArr cf3) rfl rfl 29 (iArr fun _ => 0) (Box.new wb3 29 (iArr fun _ => 0)) (by rw [iArr_size]; kernel_rfl) (by rw [iArr_size, iArr_size]) (arr_one fun _ _ => rfl) ?_))
  have hX := hEa.tr (hEb.tr (new_row (w2 := wb3) (T := 29) (iArr fun _ => 0) (iArr cf3)))
  have hb3 : Box ((wb3.alloc (.cells (iArr fun _ => 0) 29)).setRow wb3.heap.size (iArr cf3)) wb3.heap.size 29 (iArr cf3) := (Box.new wb3 29 (iArr fun _ => 0)).setRow_
  have hb1 := hb1.ext hX
  have hb2 := hb2.ext hX
  have hE3 := hE2.tr hX
  generalize (wb3.alloc (.cells (iArr fun _ => 0) 29)).setRow wb3.heap.size (iArr cf3) = ww3 at *
  generalize wb3.heap.size = g3 at *
  clear hEa hEb hX hE2
  have hE := hE3
  clear hE3
  go_upto_region 4 with (fail)
  refine vregion0 7 (by kernel_rfl) ?_
  refine VWalk.call1 22 _ _ rfl (enters_of Try.func22 (by kernel_rfl) rfl) (want_none rfl) (opd_const _) (fun u W hX hu => by rw [show u = _ from hu]; exact she_any true W) ?_
  refine VWalk.litB [104, 69, 120] 26 5 3 _ rfl rfl (by decide) (by decide) rfl Try.underlying26 (by kernel_rfl) (by kernel_rfl) (want_none rfl) ?_
  refine VWalk.mark 26 5 _ rfl Try.underlying26 Try.underlying5 (want_none rfl) (opd_dep 1 32 0 rfl rfl rfl rfl) ?_
  refine VWalk.call2 11 _ _ _ rfl (enters_of Try.func11 (by kernel_rfl) rfl) (want_none rfl) (opd_dep 0 31 2 rfl rfl rfl rfl) (opd_dep 2 33 0 rfl rfl rfl rfl) (fun u v W hX hu hv => show Calls Try.prog 11 #[u, v] W (Ret W (VTup [VInts [2, 1, 0], VEq (.int .i64 0)])) from by have h := clClasses_any true lShe [104, 69, 120] u v W hu hv (by decide) (by decide) (by decide); rwa [wk_clses] at h) ?_
  refine VWalk.move _ rfl (want_none rfl) (opd_dep 3 34 0 rfl rfl rfl rfl) ?_
  refine VWalk.extract _ 0 rfl rfl (want_none rfl) (opd_dep 4 30 0 rfl rfl rfl rfl) ?_
  refine VWalk.extract _ 1 rfl rfl (want_none rfl) (opd_dep 4 30 1 rfl rfl rfl rfl) ?_
  refine ⟨rfl, fun W4 hE4 => ?_⟩
  refine VFin.any fun v4_0 hv4_0 => ?_
  refine VFin.any fun v4_1 hv4_1 => ?_
  refine VFin.any fun v4_2 hv4_2 => ?_
  refine VFin.any fun v4_3 hv4_3 => ?_
  refine VFin.any fun v4_4 hv4_4 => ?_
  refine VFin.any fun v4_5 hv4_5 => ?_
  refine VFin.eq ?_  -- 6
  refine VFin.nil ?_
  simp only [Act.put, List.setIfInBounds_toArray, List.set_cons_zero, List.set_cons_succ]
  clear hv4_0 hv4_1 hv4_2 hv4_3 hv4_4
  have hb1 := hb1.ext hE4
  have hb2 := hb2.ext hE4
  have hb3 := hb3.ext hE4
  have hE := hE.tr hE4
  have hq1 : W4.cell? ⟨g1, 101, none⟩ = some (.int .i64 1) := (hb1.cell 101).trans ((iArr_get cf1 (by decide)).trans (by rw [← Hcf1.out, wk_cls1e]))
  have hq2 : W4.cell? ⟨g1, 69, none⟩ = some (.int .i64 1) := (hb1.cell 69).trans ((iArr_get cf1 (by decide)).trans (by rw [← Hcf1.out, wk_cls1E]))
  have hq3 : W4.cell? ⟨g1, 72, none⟩ = some (.int .i64 2) := (hb1.cell 72).trans ((iArr_get cf1 (by decide)).trans (by rw [← Hcf1.out, wk_cls1H]))
  have hq4 : W4.cell? ⟨g1, 115, none⟩ = some (.int .i64 3) := (hb1.cell 115).trans ((iArr_get cf1 (by decide)).trans (by rw [← Hcf1.out, wk_cls1s]))
  have hq5 : W4.cell? ⟨g1, 120, none⟩ = some (.int .i64 0) := (hb1.cell 120).trans ((iArr_get cf1 (by decide)).trans (by rw [← Hcf1.out, wk_cls1x]))
  have hq6 : W4.cell? ⟨g2, 101, none⟩ = some (.int .i64 1) := (hb2.cell 101).trans ((iArr_get cf2 (by decide)).trans (by rw [← Hcf2.out, wk_cls2e]))
  have hq7 : W4.cell? ⟨g2, 69, none⟩ = some (.int .i64 0) := (hb2.cell 69).trans ((iArr_get cf2 (by decide)).trans (by rw [← Hcf2.out, wk_cls2E]))
  have hq8 : W4.cell? ⟨g2, 115, none⟩ = some (.int .i64 3) := (hb2.cell 115).trans ((iArr_get cf2 (by decide)).trans (by rw [← Hcf2.out, wk_cls2s]))
  clear hb1 hb2 hb3
  go_upto_region 5 with (fail)
  refine law_end0 (r := .bool true) (by assumption) 84 0 120 _ (by kernel_rfl) rfl rfl rfl rfl rfl (by kernel_rfl) rfl 83 rfl rfl ?_
  refine VWalk.move _ rfl (want_none rfl) (opd_frame 3 rfl (by kernel_rfl)) ?_
  refine VWalk.eqT _ _ _ _ rfl (want_none rfl) (opd_dep 0 37 0 rfl rfl rfl rfl) (opd_const _) rfl ?_
  refine VWalk.move _ rfl (want_none rfl) (opd_dep 1 38 0 rfl rfl rfl rfl) ?_
  refine VWalk.move _ rfl (want_tt 2 39 0 rfl (by kernel_rfl) rfl rfl rfl rfl) (opd_frame 2 rfl (by kernel_rfl)) ?_
  refine VWalk.eqT _ _ _ _ rfl (want_tt 2 39 1 rfl (by kernel_rfl) rfl rfl rfl rfl) (opd_dep 3 40 0 rfl rfl rfl rfl) (opd_const _) rfl ?_
  refine VWalk.pickT _ _ _ rfl (want_none rfl) (opd_dep 2 39 2 rfl rfl rfl rfl) (opd_dep 4 41 0 rfl rfl rfl rfl) ?_
  refine VWalk.move _ rfl (want_none rfl) (opd_dep 5 42 0 rfl rfl rfl rfl) ?_
  refine VWalk.indexArr (g := g1) (i := 101) 29 3 _ _ .i64 rfl Try.underlying29 (by kernel_rfl) (by decide) (want_tt 6 43 0 rfl (by kernel_rfl) rfl rfl rfl rfl) (opd_frame 1 rfl (by kernel_rfl)) (opd_const _) ?_
  refine VWalk.load1 3 _ rfl (want_tt 6 43 1 rfl (by kernel_rfl) rfl rfl rfl rfl) (opd_dep 7 44 0 rfl rfl rfl rfl) (fun _ => by kernel_rfl) hq1 (Ext.rf _) ?_
  refine VWalk.eqT _ _ _ _ rfl (want_tt 6 43 2 rfl (by kernel_rfl) rfl rfl rfl rfl) (opd_dep 8 45 0 rfl rfl rfl rfl) (opd_const _) rfl ?_
  refine VWalk.pickT _ _ _ rfl (want_none rfl) (opd_dep 6 43 3 rfl rfl rfl rfl) (opd_dep 9 46 0 rfl rfl rfl rfl) ?_
  refine VWalk.move _ rfl (want_none rfl) (opd_dep 10 47 0 rfl rfl rfl rfl) ?_
  refine VWalk.indexArr (g := g1) (i := 69) 29 3 _ _ .i64 rfl Try.underlying29 (by kernel_rfl) (by decide) (want_tt 11 48 0 rfl (by kernel_rfl) rfl rfl rfl rfl) (opd_frame 1 rfl (by kernel_rfl)) (opd_const _) ?_
  refine VWalk.load1 3 _ rfl (want_tt 11 48 1 rfl (by kernel_rfl) rfl rfl rfl rfl) (opd_dep 12 49 0 rfl rfl rfl rfl) (fun _ => by kernel_rfl) hq2 (Ext.rf _) ?_
  refine VWalk.eqT _ _ _ _ rfl (want_tt 11 48 2 rfl (by kernel_rfl) rfl rfl rfl rfl) (opd_dep 13 50 0 rfl rfl rfl rfl) (opd_const _) rfl ?_
  refine VWalk.pickT _ _ _ rfl (want_none rfl) (opd_dep 11 48 3 rfl rfl rfl rfl) (opd_dep 14 51 0 rfl rfl rfl rfl) ?_
  refine VWalk.move _ rfl (want_none rfl) (opd_dep 15 52 0 rfl rfl rfl rfl) ?_
  refine VWalk.indexArr (g := g1) (i := 72) 29 3 _ _ .i64 rfl Try.underlying29 (by kernel_rfl) (by decide) (want_tt 16 53 0 rfl (by kernel_rfl) rfl rfl rfl rfl) (opd_frame 1 rfl (by kernel_rfl)) (opd_const _) ?_
  refine VWalk.load1 3 _ rfl (want_tt 16 53 1 rfl (by kernel_rfl) rfl rfl rfl rfl) (opd_dep 17 54 0 rfl rfl rfl rfl) (fun _ => by kernel_rfl) hq3 (Ext.rf _) ?_
  refine VWalk.eqT _ _ _ _ rfl (want_tt 16 53 2 rfl (by kernel_rfl) rfl rfl rfl rfl) (opd_dep 18 55 0 rfl rfl rfl rfl) (opd_const _) rfl ?_
  refine VWalk.pickT _ _ _ rfl (want_none rfl) (opd_dep 16 53 3 rfl rfl rfl rfl) (opd_dep 19 56 0 rfl rfl rfl rfl) ?_
  refine VWalk.move _ rfl (want_none rfl) (opd_dep 20 57 0 rfl rfl rfl rfl) ?_
  refine VWalk.indexArr (g := g1) (i := 115) 29 3 _ _ .i64 rfl Try.underlying29 (by kernel_rfl) (by decide) (want_tt 21 58 0 rfl (by kernel_rfl) rfl rfl rfl rfl) (opd_frame 1 rfl (by kernel_rfl)) (opd_const _) ?_
  refine VWalk.load1 3 _ rfl (want_tt 21 58 1 rfl (by kernel_rfl) rfl rfl rfl rfl) (opd_dep 22 59 0 rfl rfl rfl rfl) (fun _ => by kernel_rfl) hq4 (Ext.rf _) ?_
  refine VWalk.eqT _ _ _ _ rfl (want_tt 21 58 2 rfl (by kernel_rfl) rfl rfl rfl rfl) (opd_dep 23 60 0 rfl rfl rfl rfl) (opd_const _) rfl ?_
  refine VWalk.pickT _ _ _ rfl (want_none rfl) (opd_dep 21 58 3 rfl rfl rfl rfl) (opd_dep 24 61 0 rfl rfl rfl rfl) ?_
  refine VWalk.move _ rfl (want_none rfl) (opd_dep 25 62 0 rfl rfl rfl rfl) ?_
  refine VWalk.indexArr (g := g1) (i := 120) 29 3 _ _ .i64 rfl Try.underlying29 (by kernel_rfl) (by decide) (want_tt 26 63 0 rfl (by kernel_rfl) rfl rfl rfl rfl) (opd_frame 1 rfl (by kernel_rfl)) (opd_const _) ?_
  refine VWalk.load1 3 _ rfl (want_tt 26 63 1 rfl (by kernel_rfl) rfl rfl rfl rfl) (opd_dep 27 64 0 rfl rfl rfl rfl) (fun _ => by kernel_rfl) hq5 (Ext.rf _) ?_
  refine VWalk.eqT _ _ _ _ rfl (want_tt 26 63 2 rfl (by kernel_rfl) rfl rfl rfl rfl) (opd_dep 28 65 0 rfl rfl rfl rfl) (opd_const _) rfl ?_
  refine VWalk.pickT _ _ _ rfl (want_none rfl) (opd_dep 26 63 3 rfl rfl rfl rfl) (opd_dep 29 66 0 rfl rfl rfl rfl) ?_
  refine VWalk.move _ rfl (want_none rfl) (opd_dep 30 67 0 rfl rfl rfl rfl) ?_
  refine VWalk.move _ rfl (want_tt 31 68 0 rfl (by kernel_rfl) rfl rfl rfl rfl) (opd_frame 6 rfl (by kernel_rfl)) ?_
  refine VWalk.eqT _ _ _ _ rfl (want_tt 31 68 1 rfl (by kernel_rfl) rfl rfl rfl rfl) (opd_dep 32 69 0 rfl rfl rfl rfl) (opd_const _) rfl ?_
  refine VWalk.pickT _ _ _ rfl (want_none rfl) (opd_dep 31 68 2 rfl rfl rfl rfl) (opd_dep 33 70 0 rfl rfl rfl rfl) ?_
  refine VWalk.move _ rfl (want_none rfl) (opd_dep 34 71 0 rfl rfl rfl rfl) ?_
  refine VWalk.move _ rfl (want_tt 35 72 0 rfl (by kernel_rfl) rfl rfl rfl rfl) (opd_frame 5 rfl (by kernel_rfl)) ?_
  refine VWalk.eqT _ _ _ _ rfl (want_tt 35 72 1 rfl (by kernel_rfl) rfl rfl rfl rfl) (opd_dep 36 73 0 rfl rfl rfl rfl) (opd_const _) rfl ?_
  refine VWalk.pickT _ _ _ rfl (want_none rfl) (opd_dep 35 72 2 rfl rfl rfl rfl) (opd_dep 37 74 0 rfl rfl rfl rfl) ?_
  refine VWalk.move _ rfl (want_none rfl) (opd_dep 38 75 0 rfl rfl rfl rfl) ?_
  refine VWalk.indexArr (g := g2) (i := 101) 29 3 _ _ .i64 rfl Try.underlying29 (by kernel_rfl) (by decide) (want_tt 39 76 0 rfl (by kernel_rfl) rfl rfl rfl rfl) (opd_frame 4 rfl (by kernel_rfl)) (opd_const _) ?_
  refine VWalk.load1 3 _ rfl (want_tt 39 76 1 rfl (by kernel_rfl) rfl rfl rfl rfl) (opd_dep 40 77 0 rfl rfl rfl rfl) (fun _ => by kernel_rfl) hq6 (Ext.rf _) ?_
  refine VWalk.eqT _ _ _ _ rfl (want_tt 39 76 2 rfl (by kernel_rfl) rfl rfl rfl rfl) (opd_dep 41 78 0 rfl rfl rfl rfl) (opd_const _) rfl ?_
  refine VWalk.pickT _ _ _ rfl (want_none rfl) (opd_dep 39 76 3 rfl rfl rfl rfl) (opd_dep 42 79 0 rfl rfl rfl rfl) ?_
  refine VWalk.move _ rfl (want_none rfl) (opd_dep 43 80 0 rfl rfl rfl rfl) ?_
  refine VWalk.indexArr (g := g2) (i := 69) 29 3 _ _ .i64 rfl Try.underlying29 (by kernel_rfl) (by decide) (want_tt 44 81 0 rfl (by kernel_rfl) rfl rfl rfl rfl) (opd_frame 4 rfl (by kernel_rfl)) (opd_const _) ?_
  refine VWalk.load1 3 _ rfl (want_tt 44 81 1 rfl (by kernel_rfl) rfl rfl rfl rfl) (opd_dep 45 82 0 rfl rfl rfl rfl) (fun _ => by kernel_rfl) hq7 (Ext.rf _) ?_
  refine VWalk.eqT _ _ _ _ rfl (want_tt 44 81 2 rfl (by kernel_rfl) rfl rfl rfl rfl) (opd_dep 46 83 0 rfl rfl rfl rfl) (opd_const _) rfl ?_
  refine VWalk.pickT _ _ _ rfl (want_none rfl) (opd_dep 44 81 3 rfl rfl rfl rfl) (opd_dep 47 84 0 rfl rfl rfl rfl) ?_
  refine VWalk.move _ rfl (want_none rfl) (opd_dep 48 85 0 rfl rfl rfl rfl) ?_
  refine VWalk.indexArr (g := g2) (i := 115) 29 3 _ _ .i64 rfl Try.underlying29 (by kernel_rfl) (by decide) (want_tt 49 86 0 rfl (by kernel_rfl) rfl rfl rfl rfl) (opd_frame 4 rfl (by kernel_rfl)) (opd_const _) ?_
  refine VWalk.load1 3 _ rfl (want_tt 49 86 1 rfl (by kernel_rfl) rfl rfl rfl rfl) (opd_dep 50 87 0 rfl rfl rfl rfl) (fun _ => by kernel_rfl) hq8 (Ext.rf _) ?_
  refine VWalk.eqT _ _ _ _ rfl (want_tt 49 86 2 rfl (by kernel_rfl) rfl rfl rfl rfl) (opd_dep 51 88 0 rfl rfl rfl rfl) (opd_const _) rfl ?_
  refine VWalk.pickT _ _ _ rfl (want_none rfl) (opd_dep 49 86 3 rfl rfl rfl rfl) (opd_dep 52 89 0 rfl rfl rfl rfl) ?_
  refine VWalk.move _ rfl (want_none rfl) (opd_dep 53 90 0 rfl rfl rfl rfl) ?_
  refine VWalk.move _ rfl (want_tt 54 91 0 rfl (by kernel_rfl) rfl rfl rfl rfl) (opd_frame 8 rfl (by kernel_rfl)) ?_
  refine VWalk.eqT _ _ _ _ rfl (want_tt 54 91 1 rfl (by kernel_rfl) rfl rfl rfl rfl) (opd_dep 55 92 0 rfl rfl rfl rfl) (opd_const _) rfl ?_
  refine VWalk.pickT _ _ _ rfl (want_none rfl) (opd_dep 54 91 2 rfl rfl rfl rfl) (opd_dep 56 93 0 rfl rfl rfl rfl) ?_
  refine VWalk.move _ rfl (want_none rfl) (opd_dep 57 94 0 rfl rfl rfl rfl) ?_
  refine VWalk.move _ rfl (want_tt 58 95 0 rfl (by kernel_rfl) rfl rfl rfl rfl) (opd_frame 9 rfl (by kernel_rfl)) ?_
  refine VWalk.eqT _ _ _ _ rfl (want_tt 58 95 1 rfl (by kernel_rfl) rfl rfl rfl rfl) (opd_dep 59 96 0 rfl rfl rfl rfl) (opd_const _) rfl ?_
  refine VWalk.pickT _ _ _ rfl (want_none rfl) (opd_dep 58 95 2 rfl rfl rfl rfl) (opd_dep 60 97 0 rfl rfl rfl rfl) ?_
  refine VWalk.move _ rfl (want_none rfl) (opd_dep 61 98 0 rfl rfl rfl rfl) ?_
  refine VWalk.move _ rfl (want_tt 62 99 0 rfl (by kernel_rfl) rfl rfl rfl rfl) (opd_frame 11 rfl (by kernel_rfl)) ?_
  refine VWalk.eqT _ _ _ _ rfl (want_tt 62 99 1 rfl (by kernel_rfl) rfl rfl rfl rfl) (opd_dep 63 100 0 rfl rfl rfl rfl) (opd_const _) rfl ?_
  refine VWalk.pickT _ _ _ rfl (want_none rfl) (opd_dep 62 99 2 rfl rfl rfl rfl) (opd_dep 64 101 0 rfl rfl rfl rfl) ?_
  refine VWalk.move _ rfl (want_none rfl) (opd_dep 65 102 0 rfl rfl rfl rfl) ?_
  refine VWalk.move _ rfl (want_tt 66 103 0 rfl (by kernel_rfl) rfl rfl rfl rfl) (opd_fr 10 rfl hv4_5 (Ext.rf _) (by kernel_rfl)) ?_
  refine VWalk.lit (Fs := [_, _, _]) [Operand.const (Value.int IntKind.i64 2), Operand.const (Value.int IntKind.i64 1), Operand.const (Value.int IntKind.i64 0)] 25 3 3 _ rfl rfl (by decide) (by decide) rfl Try.underlying25 (by kernel_rfl) (by kernel_rfl) ⟨oneCell_eq rfl, oneCell_eq rfl, oneCell_eq rfl, trivial⟩ (want_tt 66 103 1 rfl (by kernel_rfl) rfl rfl rfl rfl) ⟨(opd_const _), (opd_const _), (opd_const _), trivial⟩ ?_
  refine VWalk.call2 13 _ _ _ rfl (enters_of Try.func13 (by kernel_rfl) rfl) (want_tt 66 103 2 rfl (by kernel_rfl) rfl rfl rfl rfl) (opd_dep 67 104 1 rfl rfl rfl rfl) (opd_dep 68 105 0 rfl rfl rfl rfl) (fun u v W hX hu hv => ints_any [2, 1, 0] [2, 1, 0] u v W hu hv) ?_
  refine VWalk.headT (by decide) ?_
  refine VWalk.pickT _ _ _ rfl (want_none rfl) (opd_dep 66 103 3 rfl rfl rfl rfl) (opd_dep 69 106 0 rfl rfl rfl rfl) ?_
  refine VWalk.move _ rfl (want_none rfl) (opd_dep 70 107 0 rfl rfl rfl rfl) ?_
  refine VWalk.call1 22 _ _ rfl (enters_of Try.func22 (by kernel_rfl) rfl) (want_tt 71 108 0 rfl (by kernel_rfl) rfl rfl rfl rfl) (opd_const _) (fun u W hX hu => by rw [show u = _ from hu]; exact she_any true W) ?_
  refine VWalk.call2 14 _ _ _ rfl (enters_of Try.func14 (by kernel_rfl) rfl) (want_tt 71 108 1 rfl (by kernel_rfl) rfl rfl rfl rfl) (opd_dep 72 109 0 rfl rfl rfl rfl) (opd_const _) (fun u v W hX hu hv => show Calls Try.prog 14 #[u, v] W (Ret W (VBytes [72, 104])) from by rw [show v = _ from hv, ← wk_bytes]; exact clBytes_any true lShe 2 u W hu (by decide) (by decide)) ?_
  refine VWalk.string 26 9 5 _ rfl Try.underlying26 Try.underlying5 Try.underlying9 (want_tt 71 108 2 rfl (by kernel_rfl) rfl rfl rfl rfl) (opd_dep 73 110 0 rfl rfl rfl rfl) ?_
  refine VWalk.eqTs _ _ _ _ rfl (want_tt 71 108 3 rfl (by kernel_rfl) rfl rfl rfl rfl) (opd_dep 74 111 0 rfl rfl rfl rfl) (opd_const _) rfl ?_
  refine VWalk.pickT _ _ _ rfl (want_none rfl) (opd_dep 71 108 4 rfl rfl rfl rfl) (opd_dep 75 112 0 rfl rfl rfl rfl) ?_
  refine VWalk.move _ rfl (want_none rfl) (opd_dep 76 113 0 rfl rfl rfl rfl) ?_
  refine VWalk.call1 22 _ _ rfl (enters_of Try.func22 (by kernel_rfl) rfl) (want_tt 77 114 0 rfl (by kernel_rfl) rfl rfl rfl rfl) (opd_const _) (fun u W hX hu => by rw [show u = _ from hu]; exact she_any true W) ?_
  refine VWalk.lit (Fs := [_, _, _]) [Operand.const (Value.int IntKind.i64 3), Operand.const (Value.int IntKind.i64 9), Operand.const (Value.int IntKind.i64 1)] 25 3 3 _ rfl rfl (by decide) (by decide) rfl Try.underlying25 (by kernel_rfl) (by kernel_rfl) ⟨oneCell_eq rfl, oneCell_eq rfl, oneCell_eq rfl, trivial⟩ (want_tt 77 114 1 rfl (by kernel_rfl) rfl rfl rfl rfl) ⟨(opd_const _), (opd_const _), (opd_const _), trivial⟩ ?_
  refine VWalk.call2 16 _ _ _ rfl (enters_of Try.func16 (by kernel_rfl) rfl) (want_tt 77 114 2 rfl (by kernel_rfl) rfl rfl rfl rfl) (opd_dep 78 115 1 rfl rfl rfl rfl) (opd_dep 79 116 0 rfl rfl rfl rfl) (fun u v W hX hu hv => show Calls Try.prog 16 #[u, v] W (Ret W (VBytes [83, 69])) from by rw [← wk_least]; exact clLeast_any true lShe [3, 9, 1] u v W hu hv (by decide) (by decide) (by decide)) ?_
  refine VWalk.string 26 9 5 _ rfl Try.underlying26 Try.underlying5 Try.underlying9 (want_tt 77 114 3 rfl (by kernel_rfl) rfl rfl rfl rfl) (opd_dep 80 117 0 rfl rfl rfl rfl) ?_
  refine VWalk.eqTs _ _ _ _ rfl (want_tt 77 114 4 rfl (by kernel_rfl) rfl rfl rfl rfl) (opd_dep 81 118 0 rfl rfl rfl rfl) (opd_const _) rfl ?_
  refine VWalk.pickT _ _ _ rfl (want_none rfl) (opd_dep 77 114 5 rfl rfl rfl rfl) (opd_dep 82 119 0 rfl rfl rfl rfl) ?_
  refine ⟨rfl, rfl, rfl, fun W5 hE5 => ?_⟩
  exact Ret.mk (hE.tr hE5) rfl
end Go.Proofs.Ytfbamdkalamliaa
