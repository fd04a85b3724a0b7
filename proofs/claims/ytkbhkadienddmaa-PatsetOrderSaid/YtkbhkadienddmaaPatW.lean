/- The wakes, walked. -/
import Derived.Test.YtkbhkadienddmaaPatK
import Derived.Test.YtkbhkadienddmaaV2
namespace Go.Proofs.Ytkbhkadienddmaa
open Go.RowKit Go.Shelf LetM SetM
theorem VStrs.lit {w : World} {g n : Nat} {T : TypeId} {cs : Array Value} (bs : List (List UInt8)) (hb : Box w g T cs) (hc : cs.toList = bs.map fun b => Value.string ⟨b.toArray⟩) (hn : n = bs.length) (hm : bs.length ≤ 1000) : VStrs bs (.slice (some ⟨g, 0, none⟩) n n) w := by
  subst hn
  refine ⟨_, _, by rw [List.length_map], by rw [List.length_map]; exact Nat.le_refl _, by unfold maxLen; omega, fun hp => ⟨g, 0, rfl, hb.lt, fun j F hj => ?_⟩⟩
  rw [List.getElem?_map] at hj
  cases hq : bs[j]? with
  | none => rw [hq] at hj; cases hj
  | some p =>
    rw [hq] at hj
    obtain rfl : VEq (.string ⟨p.toArray⟩) = F := by simpa using hj
    refine ⟨_, ?_, rfl⟩
    rw [Nat.zero_add, hb.cell j, ← Array.getElem?_toList, hc, List.getElem?_map, hq]
    rfl
theorem manyL_take (k : Nat) : manyL (k + 1) = manyL k ++ [[UInt8.ofNat k]] := by unfold manyL; rw [List.range_succ, List.map_append]; rfl
theorem manyL_len (k : Nat) : (manyL k).length = k := by simp [manyL]
theorem vown_new (w : World) (b : UInt8) : VOwn w.heap.size 5 [b] (.slice (some ⟨w.heap.size, 0, none⟩) 1 1) (w.alloc (.cells #[.int .u8 (b.toNat : Int)] 5)) := ⟨OneByte b 5 w, fun g hg => by
  cases hg
  exact ⟨Nat.le_refl _, _, _, Box.new w _ _, .inl rfl⟩⟩
theorem opd_nils_now {w : World} : VParts [] (.slice none 0 0) w := ⟨none, 0, rfl, Nat.le_refl _, by decide, fun h => by simp at h⟩
set_option maxRecDepth 100000 in
set_option maxHeartbeats 8000000 in
theorem wakes_any (w : World) : Calls Try.prog 10 #[] w (Ret w (VEq (.bool true))) := by
  obtain ⟨i0, hi, hz0, hz1, hz2⟩ := info_parts Try.infoSl
  go_enter Try.func10, Try.ntmps10
  have hX0 : Ext w (w.alloc (.cells #[.string ⟨#[104, 101]⟩, .string ⟨#[115, 104, 101]⟩, .string ⟨#[72, 101]⟩, .string ⟨#[104, 101, 114]⟩] 9)) := ext_alloc _ _
  have hv0 := VStrs.lit lFour (Box.new w 9 #[.string ⟨#[104, 101]⟩, .string ⟨#[115, 104, 101]⟩, .string ⟨#[72, 101]⟩, .string ⟨#[104, 101, 114]⟩]) rfl rfl (n := 4) (by decide)
  go_wp2_with fail
  refine (words_any lFour _ _ hv0 (by decide) (by decide)).mono ?_
  rintro e w2 ⟨v, rfl, hE2, hv⟩
  have hv2 := hv
  obtain ⟨A, c, e, -⟩ := VParts.form hv
  subst e
  clear hv hv0
  go_wp2_with fail
  refine (c_pmake true lFour _ _ _ wk_make4 (by decide) (by decide) _ _ _ (Ext.rf _) rfl hv2).mono ?_
  rintro e w3 ⟨u, rfl, hE3, hu⟩
  obtain ⟨_, _, rfl, ⟨sl1, rfl, hs1⟩, rfl⟩ := VTup.inv2 hu
  clear hu hv2
  have hs1 := VP.st _ _ _ _ hs1 (ext_alloc w3 (.cells #[.bool true, sl1] 24))
  have hb1 := Box.new w3 24 #[.bool true, sl1]
  have hE := ((hX0.tr hE2).tr hE3).tr (ext_alloc w3 (.cells #[.bool true, sl1] 24))
  obtain ⟨A1, c1, e1, -⟩ := VParts.form hs1
  subst e1
  clear hX0 hE2 hE3
  go_upto_region 3 with (fail)
  refine vregion0 7 (by kernel_rfl) ?_
  refine VWalk.loadBox 24 _ rfl (want_none rfl) (opd_frame 1 rfl (by kernel_rfl)) Try.underlying24 rfl (by kernel_rfl) hb1 (Ext.rf _) ?_
  refine VWalk.litB [83, 72, 69] 25 5 3 _ rfl rfl (by decide) (by decide) rfl Try.underlying25 (by kernel_rfl) (by kernel_rfl) (want_none rfl) ?_
  refine VWalk.mark 25 5 _ rfl Try.underlying25 Try.underlying5 (want_none rfl) (opd_dep 1 22 0 rfl rfl rfl rfl) ?_
  refine VWalk.call2 13 _ _ _ rfl (enters_of Try.func13 (by kernel_rfl) rfl) (want_none rfl) (opd_dep 0 21 2 rfl rfl rfl rfl) (opd_dep 2 23 0 rfl rfl rfl rfl) (fun u v W hX hu hv => show Calls Try.prog 13 #[u, v] W (Ret W (VTup [VEq (.int .i64 1), VEq (.bool true)])) from by rw [show u = _ from hu]; have := pnumber_any true lThree [83, 72, 69] _ v W ⟨_, rfl, VP.st _ _ _ _ hs1 hX⟩ hv; rwa [wk_num1] at this) ?_
  refine VWalk.move _ rfl (want_none rfl) (opd_dep 3 24 0 rfl rfl rfl rfl) ?_
  refine VWalk.extract _ 0 rfl rfl (want_none rfl) (opd_dep 4 20 0 rfl rfl rfl rfl) ?_
  refine VWalk.extract _ 1 rfl rfl (want_none rfl) (opd_dep 4 20 1 rfl rfl rfl rfl) ?_
  refine ⟨rfl, fun W3 hE3 => ?_⟩
  refine VFin.eq ?_  -- 0
  refine VFin.any fun v3_1 hv3_1 => ?_
  refine VFin.any fun v3_2 hv3_2 => ?_
  refine VFin.any fun v3_3 hv3_3 => ?_
  refine VFin.any fun v3_4 hv3_4 => ?_
  refine VFin.eq ?_  -- 5
  refine VFin.eq ?_  -- 6
  refine VFin.nil ?_
  simp only [Act.put, List.setIfInBounds_toArray, List.set_cons_zero, List.set_cons_succ]
  clear hv3_1 hv3_2 hv3_3 hv3_4
  have hs1 := VP.st _ _ _ _ hs1 hE3
  have hb1 := hb1.ext hE3
  have hE := hE.tr hE3
  go_upto_region 4 with (fail)
  refine vregion0 7 (by kernel_rfl) ?_
  refine VWalk.loadBox 24 _ rfl (want_none rfl) (opd_frame 1 rfl (by kernel_rfl)) Try.underlying24 rfl (by kernel_rfl) hb1 (Ext.rf _) ?_
  refine VWalk.litB [115, 104] 25 5 2 _ rfl rfl (by decide) (by decide) rfl Try.underlying25 (by kernel_rfl) (by kernel_rfl) (want_none rfl) ?_
  refine VWalk.mark 25 5 _ rfl Try.underlying25 Try.underlying5 (want_none rfl) (opd_dep 1 29 0 rfl rfl rfl rfl) ?_
  refine VWalk.call2 13 _ _ _ rfl (enters_of Try.func13 (by kernel_rfl) rfl) (want_none rfl) (opd_dep 0 28 2 rfl rfl rfl rfl) (opd_dep 2 30 0 rfl rfl rfl rfl) (fun u v W hX hu hv => show Calls Try.prog 13 #[u, v] W (Ret W (VTup [VEq (.int .i64 0), VEq (.bool false)])) from by rw [show u = _ from hu]; have := pnumber_any true lThree [115, 104] _ v W ⟨_, rfl, VP.st _ _ _ _ hs1 hX⟩ hv; rwa [wk_num2] at this) ?_
  refine VWalk.move _ rfl (want_none rfl) (opd_dep 3 31 0 rfl rfl rfl rfl) ?_
  refine VWalk.extract _ 0 rfl rfl (want_none rfl) (opd_dep 4 27 0 rfl rfl rfl rfl) ?_
  refine VWalk.extract _ 1 rfl rfl (want_none rfl) (opd_dep 4 27 1 rfl rfl rfl rfl) ?_
  refine ⟨rfl, fun W4 hE4 => ?_⟩
  refine VFin.eq ?_  -- 0
  refine VFin.any fun v4_1 hv4_1 => ?_
  refine VFin.any fun v4_2 hv4_2 => ?_
  refine VFin.any fun v4_3 hv4_3 => ?_
  refine VFin.any fun v4_4 hv4_4 => ?_
  refine VFin.eq ?_  -- 5
  refine VFin.eq ?_  -- 6
  refine VFin.nil ?_
  simp only [Act.put, List.setIfInBounds_toArray, List.set_cons_zero, List.set_cons_succ]
  clear hv4_1 hv4_2 hv4_3 hv4_4
  have hs1 := VP.st _ _ _ _ hs1 hE4
  have hb1 := hb1.ext hE4
  have hE := hE.tr hE4
  have HS1 := hide hs1
  have HB1 := hide hb1
  have HE1 := hide hE
  clear hs1 hb1 hE
  go_wp2_with fail
  refine (c_pmake false [] _ _ _ wk_make0 (by decide) (by decide) _ _ _ (Ext.rf _) rfl opd_nils_now).mono ?_
  rintro e w5 ⟨u, rfl, hE5, hu⟩
  obtain ⟨_, _, rfl, ⟨sl8, rfl, hs8⟩, rfl⟩ := VTup.inv2 hu
  obtain ⟨A8, c8, e8, -⟩ := VParts.form hs8
  subst e8
  have hX5 := hE5.tr (ext_alloc w5 (.cells #[.bool false, .slice A8 0 c8] 24))
  have hX6 := hX5.tr (ext_alloc _ (.cells #[.string ⟨#[104, 101]⟩, .string ⟨#[72, 101]⟩] 9))
  have hv6 := VStrs.lit lTwo (Box.new (w5.alloc (.cells #[.bool false, .slice A8 0 c8] 24)) 9 #[.string ⟨#[104, 101]⟩, .string ⟨#[72, 101]⟩]) rfl rfl (n := 2) (by decide)
  rw [World.size_alloc] at hv6
  clear hu hs8 hE5 hX5
  go_wp2_with fail
  refine (words_any lTwo _ _ hv6 (by decide) (by decide)).mono ?_
  rintro e w7 ⟨v, rfl, hE7, hv⟩
  have hv2 := hv
  obtain ⟨A7, c7, e, -⟩ := VParts.form hv
  subst e
  clear hv hv6
  go_wp2_with fail
  refine (c_pmake false lTwo _ _ _ wk_make2 (by decide) (by decide) _ _ _ (Ext.rf _) rfl hv2).mono ?_
  rintro e w8 ⟨u, rfl, hE8, hu⟩
  obtain ⟨_, _, rfl, ⟨sl9, rfl, hs9⟩, rfl⟩ := VTup.inv2 hu
  clear hu hv2
  have hX8 := ((hX6.tr hE7).tr hE8).tr (ext_alloc w8 (.cells #[.bool false, sl9] 24))
  have hs9 := VP.st _ _ _ _ hs9 (ext_alloc w8 (.cells #[.bool false, sl9] 24))
  have hb9 := Box.new w8 24 #[.bool false, sl9]
  obtain ⟨A9, c9, e9, -⟩ := VParts.form hs9
  subst e9
  have hs1 := VP.st _ _ _ _ HS1.out hX8
  have hb1 := HB1.out.ext hX8
  have hE : Ext w _ := Ext.tr (show Ext w _ from HE1.out) hX8
  clear hX6 hE7 hE8 hX8 HS1 HB1 HE1
  go_upto_region 7 with (fail)
  refine vregion0 10 (by kernel_rfl) ?_
  refine VWalk.det1 (Operand.tmp 1) (want_none rfl) (opd_frame 1 rfl (by kernel_rfl)) (fun ρ w hE h1 => by simp [execOp, h1, go_sem]; rfl) ?_
  refine VWalk.load1F (F := VParts lThree) 22 _ rfl (want_none rfl) (opd_dep 0 44 0 rfl rfl rfl rfl) (fun _ => by kernel_rfl) (hb1.at_ 1 rfl) hs1 (Ext.rf _) ?_
  refine VWalk.lenS 22 25 _ rfl Try.underlying22 (want_none rfl) (opd_dep 1 45 0 rfl rfl rfl rfl) ?_
  refine VWalk.neT _ _ _ _ rfl (want_none rfl) (opd_dep 2 46 0 rfl rfl rfl rfl) (opd_const _) rfl ?_
  refine VWalk.move _ rfl (want_none rfl) (opd_dep 3 47 0 rfl rfl rfl rfl) ?_
  refine VWalk.det1 (Operand.tmp 10) (want_ff 4 48 0 rfl (by kernel_rfl) rfl rfl rfl rfl) (opd_frame 10 rfl (by kernel_rfl)) (fun ρ w hE h1 => by simp [execOp, h1, go_sem]; rfl) ?_
  refine VWalk.load1F (F := VParts lTwo) 22 _ rfl (want_ff 4 48 1 rfl (by kernel_rfl) rfl rfl rfl rfl) (opd_dep 5 49 0 rfl rfl rfl rfl) (fun _ => by kernel_rfl) (hb9.at_ 1 rfl) hs9 (Ext.rf _) ?_
  refine VWalk.lenS 22 25 _ rfl Try.underlying22 (want_ff 4 48 2 rfl (by kernel_rfl) rfl rfl rfl rfl) (opd_dep 6 50 0 rfl rfl rfl rfl) ?_
  refine VWalk.neT _ _ _ _ rfl (want_ff 4 48 3 rfl (by kernel_rfl) rfl rfl rfl rfl) (opd_dep 7 51 0 rfl rfl rfl rfl) (opd_const _) rfl ?_
  refine VWalk.pickF _ _ _ rfl (want_none rfl) (opd_dep 4 48 4 rfl rfl rfl rfl) (opd_dep 8 52 0 rfl rfl rfl rfl) ?_
  refine ⟨rfl, fun W7 hE7 => ?_⟩
  refine VFin.eq ?_  -- 0
  refine VFin.any fun v7_1 hv7_1 => ?_
  refine VFin.eq ?_  -- 2
  refine VFin.eq ?_  -- 3
  refine VFin.eq ?_  -- 4
  refine VFin.eq ?_  -- 5
  refine VFin.any fun v7_6 hv7_6 => ?_
  refine VFin.eq ?_  -- 7
  refine VFin.eq ?_  -- 8
  refine VFin.eq ?_  -- 9
  refine VFin.nil ?_
  simp only [Act.put, List.setIfInBounds_toArray, List.set_cons_zero, List.set_cons_succ]
  clear hv7_1 hv7_6
  have hs1 := VP.st _ _ _ _ hs1 hE7
  have hs9 := VP.st _ _ _ _ hs9 hE7
  have hb1 := hb1.ext hE7
  have hb9 := hb9.ext hE7
  have hE := hE.tr hE7
  have HS1 := hide hs1
  have HB1 := hide hb1
  have HS9 := hide hs9
  have HB9 := hide hb9
  have HE := hide hE
  clear hs1 hb1 hs9 hb9 hE
  go_wp2
  go_loopw [12, 13] (fun o i wr => ∃ k : Nat, k ≤ 65 ∧ i = .int .i64 (k : Int) ∧ Hid (OwnP wr W7.heap.size 25 5 o (manyL k)) ∧ Hid (Below W7.heap.size W7 wr)) (fun _ i _ => 65 - (intOf i).toNat)
  case atStart => exact ⟨0, by omega, rfl, OwnP.nil _ _ _ _, hide (Ext.rf _)⟩
  case round =>
    obtain ⟨k, hk, rfl, HO, HX⟩ := hrel
    have hX : Ext W7 wr := HX.out
    obtain ⟨A3, c3, hv3⟩ := OwnP.form HO.out
    rw [manyL_len] at hv3
    subst hv3
    by_cases hlt : k < 65
    · have hub : ((UInt8.ofNat k).toNat : Int) = (k : Int) := by rw [UInt8.toNat_ofNat']; omega
      have hX2 := (ext_alloc wr (.cells #[.int .u8 (k : Int)] 5)).tr (ext_alloc _ (.cells #[.slice (some ⟨wr.heap.size, 0, none⟩) 1 1] 25))
      have hvo := VP.st _ _ _ _ (vown_new wr (UInt8.ofNat k)) (by rw [hub]; exact ext_alloc _ (.cells #[.slice (some ⟨wr.heap.size, 0, none⟩) 1 1] 25))
      have hw7 : W7.heap.size ≤ wr.heap.size := hX.size
      have hvo := VOwn.low hvo hw7
      obtain ⟨xs, ho1, ho2, ho3⟩ := OwnP.st HO.out hX2
      have hsz := hX2.size
      have hE3 := hX.tr hX2
      have Hub := hide hub
      have hsr := Src.new (wr.alloc (.cells #[.int .u8 (k : Int)] 5)) 25 #[.slice (some ⟨wr.heap.size, 0, none⟩) 1 1] 1
      rw [World.size_alloc] at hsr
      rw [manyL_len] at ho1
      clear hub HO
      go_wp2_with (at_builtin; refine wpList_append_src rfl _ _ 22 rfl W7.heap.size 25 i0 (.slice none 0 0) 1 24 Try.underlying22 hi hz0 hz1 hz2 rfl (by omega) _ _ k 1 xs [.slice (some ⟨wr.heap.size, 0, none⟩) 1 1] rfl ho1 rfl rfl hsr (fun y hy => by rw [List.mem_singleton] at hy; subst hy; rfl) (by omega) hE3.size ?_; intro v' w' hown hgrow hat)
      have hsn := OwnP.snoc (e := 25) (e1 := 5) (ps := manyL k) (by decide) (by rw [manyL_len]; exact ho1) ho2 ho3 hvo (by rw [manyL_len]; exact hown) hgrow
      rw [← manyL_take] at hsn
      have hE4 : Below W7.heap.size W7 w' := hE3.grown hgrow hE3.size (fun j hj => by have := own_ge ho1 j hj; omega)
      exact ⟨⟨k + 1, by omega, by go_num, hide hsn, hide hE4⟩, by simp [intOf]; omega⟩
    · obtain rfl : k = 65 := by omega
      have hmany := OwnP.parts HO.out
      have hs1 := VP.st _ _ _ _ HS1.out hX
      have hb1 := HB1.out.ext hX
      have hs9 := VP.st _ _ _ _ HS9.out hX
      have hb9 := HB9.out.ext hX
      have hE : Ext w wr := Ext.tr (show Ext w W7 from HE.out) hX
      have hnd := fun v W (hv : VParts lFour v W) => pnodes_any true lFour v W hv (by decide)
      have hn0 := fun v W (hv : VParts [] v W) => pnodes_any false [] v W hv (by decide)
      have hk1 := fun v W (hv : VParts [wLong] v W) => pcheck_any false [wLong] v W hv (by decide) (by decide)
      have hk2 := fun v W (hv : VParts [wLong, []] v W) => pcheck_any false [wLong, []] v W hv (by decide) (by decide)
      have hk3 := fun v W (hv : VParts (manyL 65) v W) => pcheck_any false (manyL 65) v W hv (by decide +kernel) (by decide +kernel)
      have hk4 := fun v W (hv : VParts ((manyL 65).take 64) v W) => pcheck_any false ((manyL 65).take 64) v W hv (by decide +kernel) (by decide +kernel)
      have hr1 := fun u W (hu : VSet true lThree u W) => pright_any true lThree u W hu (by decide) (by decide)
      have hr2 := fun u W (hu : VSet false [] u W) => pright_any false [] u W hu (by decide) (by decide)
      have hr3 := fun u W (hu : VSet true [[72, 101]] u W) => pright_any true [[72, 101]] u W hu (by decide) (by decide)
      have hlg := fun u W (hu : VSet true lThree u W) => plongest_any true lThree u W hu (by decide)
      have hsm1 := fun u v W (hu : VSet true lThree u W) (hv : VSet true lThree v W) => psame_any true true lThree lThree u v W hu hv
      have hsm2 := fun u v W (hu : VSet true lThree u W) (hv : VSet false lTwo v W) => psame_any true false lThree lTwo u v W hu hv
      rw [wk_nodes4] at hnd
      rw [wk_nodes0] at hn0
      rw [wk_check1] at hk1
      rw [wk_check2] at hk2
      rw [wk_check65] at hk3
      rw [wk_check64] at hk4
      rw [wk_right3] at hr1
      rw [wk_right0] at hr2
      rw [wk_rightHe] at hr3
      rw [wk_long3] at hlg
      rw [decide_eq_true ⟨rfl, rfl⟩] at hsm1
      rw [wk_same] at hsm2
      clear HS1 HB1 HS9 HB9 HE HO HX hX
      go_upto_region 14 with (fail)
      refine vregion 97 [] (by kernel_rfl) (preB_of2 (by kernel_rfl)) (fun _ _ _ _ _ h => h) ?_
      refine VWalk.move _ rfl (want_none rfl) (opd_frame 2 rfl (by kernel_rfl)) ?_
      refine VWalk.eqT _ _ _ _ rfl (want_none rfl) (opd_dep 0 64 0 rfl rfl rfl rfl) (opd_const _) (by decide) ?_
      refine VWalk.move _ rfl (want_none rfl) (opd_dep 1 65 0 rfl rfl rfl rfl) ?_
      refine VWalk.det1 (Operand.tmp 1) (want_tt 2 66 0 rfl (by kernel_rfl) rfl rfl rfl rfl) (opd_frame 1 rfl (by kernel_rfl)) (fun ρ w hE h1 => by simp [execOp, h1, go_sem]; rfl) ?_
      refine VWalk.load1F (F := VParts lThree) 22 _ rfl (want_tt 2 66 1 rfl (by kernel_rfl) rfl rfl rfl rfl) (opd_dep 3 67 0 rfl rfl rfl rfl) (fun _ => by kernel_rfl) (hb1.at_ 1 rfl) hs1 (ext_drew _) ?_
      refine VWalk.indexP 22 25 _ _ .i64 2 rfl Try.underlying22 (by kernel_rfl) (want_tt 2 66 2 rfl (by kernel_rfl) rfl rfl rfl rfl) (opd_dep 4 68 0 rfl rfl rfl rfl) (opd_const _) (by decide) ?_
      refine VWalk.loadP 25 _ rfl (want_tt 2 66 3 rfl (by kernel_rfl) rfl rfl rfl rfl) (opd_dep 5 69 0 rfl rfl rfl rfl) (fun _ => by kernel_rfl) ?_
      refine VWalk.string 25 9 5 _ rfl Try.underlying25 Try.underlying5 Try.underlying9 (want_tt 2 66 4 rfl (by kernel_rfl) rfl rfl rfl rfl) (opd_dep 6 70 0 rfl rfl rfl rfl) ?_
      refine VWalk.eqTs _ _ _ _ rfl (want_tt 2 66 5 rfl (by kernel_rfl) rfl rfl rfl rfl) (opd_dep 7 71 0 rfl rfl rfl rfl) (opd_const _) rfl ?_
      refine VWalk.pickT _ _ _ rfl (want_none rfl) (opd_dep 2 66 6 rfl rfl rfl rfl) (opd_dep 8 72 0 rfl rfl rfl rfl) ?_
      refine VWalk.move _ rfl (want_none rfl) (opd_dep 9 73 0 rfl rfl rfl rfl) ?_
      refine VWalk.move _ rfl (want_tt 10 74 0 rfl (by kernel_rfl) rfl rfl rfl rfl) (opd_frame 4 rfl (by kernel_rfl)) ?_
      refine VWalk.eqT _ _ _ _ rfl (want_tt 10 74 1 rfl (by kernel_rfl) rfl rfl rfl rfl) (opd_dep 11 75 0 rfl rfl rfl rfl) (opd_const _) (by decide) ?_
      refine VWalk.pickT _ _ _ rfl (want_none rfl) (opd_dep 10 74 2 rfl rfl rfl rfl) (opd_dep 12 76 0 rfl rfl rfl rfl) ?_
      refine VWalk.move _ rfl (want_none rfl) (opd_dep 13 77 0 rfl rfl rfl rfl) ?_
      refine VWalk.move _ rfl (want_tt 14 78 0 rfl (by kernel_rfl) rfl rfl rfl rfl) (opd_frame 5 rfl (by kernel_rfl)) ?_
      refine VWalk.pickT _ _ _ rfl (want_none rfl) (opd_dep 14 78 1 rfl rfl rfl rfl) (opd_dep 15 79 0 rfl rfl rfl rfl) ?_
      refine VWalk.move _ rfl (want_none rfl) (opd_dep 16 80 0 rfl rfl rfl rfl) ?_
      refine VWalk.move _ rfl (want_tt 17 81 0 rfl (by kernel_rfl) rfl rfl rfl rfl) (opd_frame 7 rfl (by kernel_rfl)) ?_
      refine VWalk.notB _ _ rfl (want_tt 17 81 1 rfl (by kernel_rfl) rfl rfl rfl rfl) (opd_dep 18 82 0 rfl rfl rfl rfl) rfl ?_
      refine VWalk.pickT _ _ _ rfl (want_none rfl) (opd_dep 17 81 2 rfl rfl rfl rfl) (opd_dep 19 83 0 rfl rfl rfl rfl) ?_
      refine VWalk.move _ rfl (want_none rfl) (opd_dep 20 84 0 rfl rfl rfl rfl) ?_
      refine VWalk.move _ rfl (want_tt 21 85 0 rfl (by kernel_rfl) rfl rfl rfl rfl) (opd_frame 9 rfl (by kernel_rfl)) ?_
      refine VWalk.eqT _ _ _ _ rfl (want_tt 21 85 1 rfl (by kernel_rfl) rfl rfl rfl rfl) (opd_dep 22 86 0 rfl rfl rfl rfl) (opd_const _) (by decide) ?_
      refine VWalk.pickT _ _ _ rfl (want_none rfl) (opd_dep 21 85 2 rfl rfl rfl rfl) (opd_dep 23 87 0 rfl rfl rfl rfl) ?_
      refine VWalk.move _ rfl (want_none rfl) (opd_dep 24 88 0 rfl rfl rfl rfl) ?_
      refine VWalk.move _ rfl (want_tt 25 89 0 rfl (by kernel_rfl) rfl rfl rfl rfl) (opd_frame 11 rfl (by kernel_rfl)) ?_
      refine VWalk.eqT _ _ _ _ rfl (want_tt 25 89 1 rfl (by kernel_rfl) rfl rfl rfl rfl) (opd_dep 26 90 0 rfl rfl rfl rfl) (opd_const _) (by decide) ?_
      refine VWalk.pickT _ _ _ rfl (want_none rfl) (opd_dep 25 89 2 rfl rfl rfl rfl) (opd_dep 27 91 0 rfl rfl rfl rfl) ?_
      refine VWalk.move _ rfl (want_none rfl) (opd_dep 28 92 0 rfl rfl rfl rfl) ?_
      refine VWalk.lit (Fs := [_, _, _, _]) [Operand.const (Value.string { data := #[104, 101] }), Operand.const (Value.string { data := #[115, 104, 101] }), Operand.const (Value.string { data := #[72, 101] }), Operand.const (Value.string { data := #[104, 101, 114] })] 70 9 4 _ rfl rfl (by decide) (by decide) rfl Try.underlying70 (by kernel_rfl) (by kernel_rfl) ⟨oneCell_eq rfl, oneCell_eq rfl, oneCell_eq rfl, oneCell_eq rfl, trivial⟩ (want_tt 29 93 0 rfl (by kernel_rfl) rfl rfl rfl rfl) ⟨(opd_const _), (opd_const _), (opd_const _), (opd_const _), trivial⟩ ?_
      refine VWalk.call1 28 _ _ rfl (enters_of Try.func28 (by kernel_rfl) rfl) (want_tt 29 93 1 rfl (by kernel_rfl) rfl rfl rfl rfl) (opd_dep 30 94 0 rfl rfl rfl rfl) (fun u W hX hu => words_any lFour u W hu (by decide) (by decide)) ?_
      refine VWalk.call2 18 _ _ _ rfl (enters_of Try.func18 (by kernel_rfl) rfl) (want_tt 29 93 2 rfl (by kernel_rfl) rfl rfl rfl rfl) (opd_const _) (opd_dep 31 95 0 rfl rfl rfl rfl) (fun u v W hX hu hv => by rw [show u = _ from hu]; exact hnd v W hv) ?_
      refine VWalk.eqT _ _ _ _ rfl (want_tt 29 93 3 rfl (by kernel_rfl) rfl rfl rfl rfl) (opd_dep 32 96 0 rfl rfl rfl rfl) (opd_const _) (by decide) ?_
      refine VWalk.pickT _ _ _ rfl (want_none rfl) (opd_dep 29 93 4 rfl rfl rfl rfl) (opd_dep 33 97 0 rfl rfl rfl rfl) ?_
      refine VWalk.move _ rfl (want_none rfl) (opd_dep 34 98 0 rfl rfl rfl rfl) ?_
      refine VWalk.call2 18 _ _ _ rfl (enters_of Try.func18 (by kernel_rfl) rfl) (want_tt 35 99 0 rfl (by kernel_rfl) rfl rfl rfl rfl) (opd_const _) opd_nils (fun u v W hX hu hv => by rw [show u = _ from hu]; exact hn0 v W hv) ?_
      refine VWalk.eqT _ _ _ _ rfl (want_tt 35 99 1 rfl (by kernel_rfl) rfl rfl rfl rfl) (opd_dep 36 100 0 rfl rfl rfl rfl) (opd_const _) (by decide) ?_
      refine VWalk.pickT _ _ _ rfl (want_none rfl) (opd_dep 35 99 2 rfl rfl rfl rfl) (opd_dep 37 101 0 rfl rfl rfl rfl) ?_
      refine VWalk.move _ rfl (want_none rfl) (opd_dep 38 102 0 rfl rfl rfl rfl) ?_
      refine VWalk.move _ rfl (want_tt 39 103 0 rfl (by kernel_rfl) rfl rfl rfl rfl) (opd_frame 3 rfl (by kernel_rfl)) ?_
      refine VWalk.lit (Fs := [_]) [Operand.tmp 104] 70 9 1 _ rfl rfl (by decide) (by decide) rfl Try.underlying70 (by kernel_rfl) (by kernel_rfl) ⟨oneCell_eq rfl, trivial⟩ (want_tt 39 103 1 rfl (by kernel_rfl) rfl rfl rfl rfl) ⟨(opd_dep 40 104 0 rfl rfl rfl rfl), trivial⟩ ?_
      refine VWalk.call1 28 _ _ rfl (enters_of Try.func28 (by kernel_rfl) rfl) (want_tt 39 103 2 rfl (by kernel_rfl) rfl rfl rfl rfl) (opd_dep 41 105 0 rfl rfl rfl rfl) (fun u W hX hu => words_any [wLong] u W hu (by decide) (by decide)) ?_
      refine VWalk.call2 16 _ _ _ rfl (enters_of Try.func16 (by kernel_rfl) rfl) (want_tt 39 103 3 rfl (by kernel_rfl) rfl rfl rfl rfl) (opd_const _) (opd_dep 42 106 0 rfl rfl rfl rfl) (fun u v W hX hu hv => by rw [show u = _ from hu]; exact hk1 v W hv) ?_
      refine VWalk.eqT _ _ _ _ rfl (want_tt 39 103 4 rfl (by kernel_rfl) rfl rfl rfl rfl) (opd_dep 43 107 0 rfl rfl rfl rfl) (opd_const _) (by decide) ?_
      refine VWalk.pickT _ _ _ rfl (want_none rfl) (opd_dep 39 103 5 rfl rfl rfl rfl) (opd_dep 44 108 0 rfl rfl rfl rfl) ?_
      refine VWalk.move _ rfl (want_none rfl) (opd_dep 45 109 0 rfl rfl rfl rfl) ?_
      refine VWalk.move _ rfl (want_tt 46 110 0 rfl (by kernel_rfl) rfl rfl rfl rfl) (opd_frame 3 rfl (by kernel_rfl)) ?_
      refine VWalk.lit (Fs := [_, _]) [Operand.tmp 111, Operand.const (Value.string { data := #[] })] 70 9 2 _ rfl rfl (by decide) (by decide) rfl Try.underlying70 (by kernel_rfl) (by kernel_rfl) ⟨oneCell_eq rfl, oneCell_eq rfl, trivial⟩ (want_tt 46 110 1 rfl (by kernel_rfl) rfl rfl rfl rfl) ⟨(opd_dep 47 111 0 rfl rfl rfl rfl), (opd_const _), trivial⟩ ?_
      refine VWalk.call1 28 _ _ rfl (enters_of Try.func28 (by kernel_rfl) rfl) (want_tt 46 110 2 rfl (by kernel_rfl) rfl rfl rfl rfl) (opd_dep 48 112 0 rfl rfl rfl rfl) (fun u W hX hu => words_any [wLong, []] u W hu (by decide) (by decide)) ?_
      refine VWalk.call2 16 _ _ _ rfl (enters_of Try.func16 (by kernel_rfl) rfl) (want_tt 46 110 3 rfl (by kernel_rfl) rfl rfl rfl rfl) (opd_const _) (opd_dep 49 113 0 rfl rfl rfl rfl) (fun u v W hX hu hv => by rw [show u = _ from hu]; exact hk2 v W hv) ?_
      refine VWalk.eqT _ _ _ _ rfl (want_tt 46 110 4 rfl (by kernel_rfl) rfl rfl rfl rfl) (opd_dep 50 114 0 rfl rfl rfl rfl) (opd_const _) (by decide) ?_
      refine VWalk.pickT _ _ _ rfl (want_none rfl) (opd_dep 46 110 5 rfl rfl rfl rfl) (opd_dep 51 115 0 rfl rfl rfl rfl) ?_
      refine VWalk.move _ rfl (want_none rfl) (opd_dep 52 116 0 rfl rfl rfl rfl) ?_
      refine VWalk.move _ rfl (want_tt 53 117 0 rfl (by kernel_rfl) rfl rfl rfl rfl) (opd_fr 12 rfl hmany (ext_drew _) (by kernel_rfl)) ?_
      refine VWalk.call2 16 _ _ _ rfl (enters_of Try.func16 (by kernel_rfl) rfl) (want_tt 53 117 1 rfl (by kernel_rfl) rfl rfl rfl rfl) (opd_const _) (opd_dep 54 118 0 rfl rfl rfl rfl) (fun u v W hX hu hv => by rw [show u = _ from hu]; exact hk3 v W hv) ?_
      refine VWalk.eqT _ _ _ _ rfl (want_tt 53 117 2 rfl (by kernel_rfl) rfl rfl rfl rfl) (opd_dep 55 119 0 rfl rfl rfl rfl) (opd_const _) (by decide) ?_
      refine VWalk.pickT _ _ _ rfl (want_none rfl) (opd_dep 53 117 3 rfl rfl rfl rfl) (opd_dep 56 120 0 rfl rfl rfl rfl) ?_
      refine VWalk.move _ rfl (want_none rfl) (opd_dep 57 121 0 rfl rfl rfl rfl) ?_
      refine VWalk.move _ rfl (want_tt 58 122 0 rfl (by kernel_rfl) rfl rfl rfl rfl) (opd_fr 12 rfl hmany (ext_drew _) (by kernel_rfl)) ?_
      refine VWalk.cutTo 22 25 _ _ .i64 64 rfl Try.underlying22 (by kernel_rfl) (want_tt 58 122 1 rfl (by kernel_rfl) rfl rfl rfl rfl) (opd_dep 59 123 0 rfl rfl rfl rfl) (opd_const _) (by decide) ?_
      rw [← List.map_take]
      refine VWalk.call2 16 _ _ _ rfl (enters_of Try.func16 (by kernel_rfl) rfl) (want_tt 58 122 2 rfl (by kernel_rfl) rfl rfl rfl rfl) (opd_const _) (opd_dep 60 124 0 rfl rfl rfl rfl) (fun u v W hX hu hv => by rw [show u = _ from hu]; exact hk4 v W hv) ?_
      refine VWalk.eqT _ _ _ _ rfl (want_tt 58 122 3 rfl (by kernel_rfl) rfl rfl rfl rfl) (opd_dep 61 125 0 rfl rfl rfl rfl) (opd_const _) (by decide) ?_
      refine VWalk.pickT _ _ _ rfl (want_none rfl) (opd_dep 58 122 4 rfl rfl rfl rfl) (opd_dep 62 126 0 rfl rfl rfl rfl) ?_
      refine VWalk.move _ rfl (want_none rfl) (opd_dep 63 127 0 rfl rfl rfl rfl) ?_
      refine VWalk.loadBox 24 _ rfl (want_tt 64 128 0 rfl (by kernel_rfl) rfl rfl rfl rfl) (opd_frame 1 rfl (by kernel_rfl)) Try.underlying24 rfl (by kernel_rfl) hb1 (ext_drew _) ?_
      refine VWalk.call1 20 _ _ rfl (enters_of Try.func20 (by kernel_rfl) rfl) (want_tt 64 128 1 rfl (by kernel_rfl) rfl rfl rfl rfl) (opd_dep 65 129 0 rfl rfl rfl rfl) (fun u W hX hu => by rw [show u = _ from hu]; exact hr1 _ W ⟨_, rfl, VP.st _ _ _ _ hs1 ((ext_drew _).tr hX)⟩) ?_
      refine VWalk.headT (by decide) ?_
      refine VWalk.pickT _ _ _ rfl (want_none rfl) (opd_dep 64 128 2 rfl rfl rfl rfl) (opd_dep 66 130 0 rfl rfl rfl rfl) ?_
      refine VWalk.move _ rfl (want_none rfl) (opd_dep 67 131 0 rfl rfl rfl rfl) ?_
      refine VWalk.det0 (r := .agg #[.bool false, .slice none 0 0]) (want_tt 68 132 0 rfl (by kernel_rfl) rfl rfl rfl rfl) (fun ρ w => by simp [execOp, go_sem]) ?_
      refine VWalk.call1 20 _ _ rfl (enters_of Try.func20 (by kernel_rfl) rfl) (want_tt 68 132 1 rfl (by kernel_rfl) rfl rfl rfl rfl) (opd_dep 69 133 0 rfl rfl rfl rfl) (fun u W hX hu => by rw [show u = _ from hu]; exact hr2 _ W ⟨_, rfl, opd_nils_now⟩) ?_
      refine VWalk.headF (by decide) ?_
      refine VWalk.notB _ _ rfl (want_tt 68 132 2 rfl (by kernel_rfl) rfl rfl rfl rfl) (opd_dep 70 134 0 rfl rfl rfl rfl) rfl ?_
      refine VWalk.pickT _ _ _ rfl (want_none rfl) (opd_dep 68 132 3 rfl rfl rfl rfl) (opd_dep 71 135 0 rfl rfl rfl rfl) ?_
      refine VWalk.move _ rfl (want_none rfl) (opd_dep 72 136 0 rfl rfl rfl rfl) ?_
      refine VWalk.lit (Fs := [_]) [Operand.const (Value.string { data := #[72, 101] })] 70 9 1 _ rfl rfl (by decide) (by decide) rfl Try.underlying70 (by kernel_rfl) (by kernel_rfl) ⟨oneCell_eq rfl, trivial⟩ (want_tt 73 137 0 rfl (by kernel_rfl) rfl rfl rfl rfl) ⟨(opd_const _), trivial⟩ ?_
      refine VWalk.call1 28 _ _ rfl (enters_of Try.func28 (by kernel_rfl) rfl) (want_tt 73 137 1 rfl (by kernel_rfl) rfl rfl rfl rfl) (opd_dep 74 138 0 rfl rfl rfl rfl) (fun u W hX hu => words_any [[72, 101]] u W hu (by decide) (by decide)) ?_
      refine VWalk.buildSet true (Operand.tmp 139) rfl (want_tt 73 137 2 rfl (by kernel_rfl) rfl rfl rfl rfl) (opd_dep 75 139 0 rfl rfl rfl rfl) ?_
      refine VWalk.call1 20 _ _ rfl (enters_of Try.func20 (by kernel_rfl) rfl) (want_tt 73 137 3 rfl (by kernel_rfl) rfl rfl rfl rfl) (opd_dep 76 140 0 rfl rfl rfl rfl) (fun u W hX hu => hr3 u W hu) ?_
      refine VWalk.headF (by decide) ?_
      refine VWalk.notB _ _ rfl (want_tt 73 137 4 rfl (by kernel_rfl) rfl rfl rfl rfl) (opd_dep 77 141 0 rfl rfl rfl rfl) rfl ?_
      refine VWalk.pickT _ _ _ rfl (want_none rfl) (opd_dep 73 137 5 rfl rfl rfl rfl) (opd_dep 78 142 0 rfl rfl rfl rfl) ?_
      refine VWalk.move _ rfl (want_none rfl) (opd_dep 79 143 0 rfl rfl rfl rfl) ?_
      refine VWalk.loadBox 24 _ rfl (want_tt 80 144 0 rfl (by kernel_rfl) rfl rfl rfl rfl) (opd_frame 1 rfl (by kernel_rfl)) Try.underlying24 rfl (by kernel_rfl) hb1 (ext_drew _) ?_
      refine VWalk.call1 22 _ _ rfl (enters_of Try.func22 (by kernel_rfl) rfl) (want_tt 80 144 1 rfl (by kernel_rfl) rfl rfl rfl rfl) (opd_dep 81 145 0 rfl rfl rfl rfl) (fun u W hX hu => by rw [show u = _ from hu]; exact hlg _ W ⟨_, rfl, VP.st _ _ _ _ hs1 ((ext_drew _).tr hX)⟩) ?_
      refine VWalk.eqT _ _ _ _ rfl (want_tt 80 144 2 rfl (by kernel_rfl) rfl rfl rfl rfl) (opd_dep 82 146 0 rfl rfl rfl rfl) (opd_const _) (by decide) ?_
      refine VWalk.pickT _ _ _ rfl (want_none rfl) (opd_dep 80 144 3 rfl rfl rfl rfl) (opd_dep 83 147 0 rfl rfl rfl rfl) ?_
      refine VWalk.move _ rfl (want_none rfl) (opd_dep 84 148 0 rfl rfl rfl rfl) ?_
      refine VWalk.loadBox 24 _ rfl (want_tt 85 149 0 rfl (by kernel_rfl) rfl rfl rfl rfl) (opd_frame 1 rfl (by kernel_rfl)) Try.underlying24 rfl (by kernel_rfl) hb1 (ext_drew _) ?_
      refine VWalk.call1 25 _ _ rfl (enters_of Try.func25 (by kernel_rfl) rfl) (want_tt 85 149 1 rfl (by kernel_rfl) rfl rfl rfl rfl) (opd_dep 86 150 0 rfl rfl rfl rfl) (fun u W hX hu => by rw [show u = _ from hu]; exact c_pown true lThree (by decide) (by decide) _ W (Ext.rf W) ⟨_, rfl, VP.st _ _ _ _ hs1 ((ext_drew _).tr hX)⟩) ?_
      refine VWalk.loadBox 24 _ rfl (want_tt 85 149 2 rfl (by kernel_rfl) rfl rfl rfl rfl) (opd_frame 1 rfl (by kernel_rfl)) Try.underlying24 rfl (by kernel_rfl) hb1 (ext_drew _) ?_
      refine VWalk.call2 24 _ _ _ rfl (enters_of Try.func24 (by kernel_rfl) rfl) (want_tt 85 149 3 rfl (by kernel_rfl) rfl rfl rfl rfl) (opd_dep 87 151 1 rfl rfl rfl rfl) (opd_dep 88 152 0 rfl rfl rfl rfl) (fun u v W hX hu hv => by rw [show v = _ from hv]; exact hsm1 u _ W hu ⟨_, rfl, VP.st _ _ _ _ hs1 ((ext_drew _).tr hX)⟩) ?_
      refine VWalk.headT (by decide) ?_
      refine VWalk.pickT _ _ _ rfl (want_none rfl) (opd_dep 85 149 4 rfl rfl rfl rfl) (opd_dep 89 153 0 rfl rfl rfl rfl) ?_
      refine VWalk.move _ rfl (want_none rfl) (opd_dep 90 154 0 rfl rfl rfl rfl) ?_
      refine VWalk.loadBox 24 _ rfl (want_tt 91 155 0 rfl (by kernel_rfl) rfl rfl rfl rfl) (opd_frame 1 rfl (by kernel_rfl)) Try.underlying24 rfl (by kernel_rfl) hb1 (ext_drew _) ?_
      refine VWalk.loadBox 24 _ rfl (want_tt 91 155 1 rfl (by kernel_rfl) rfl rfl rfl rfl) (opd_frame 10 rfl (by kernel_rfl)) Try.underlying24 rfl (by kernel_rfl) hb9 (ext_drew _) ?_
      refine VWalk.call2 24 _ _ _ rfl (enters_of Try.func24 (by kernel_rfl) rfl) (want_tt 91 155 2 rfl (by kernel_rfl) rfl rfl rfl rfl) (opd_dep 92 156 1 rfl rfl rfl rfl) (opd_dep 93 157 0 rfl rfl rfl rfl) (fun u v W hX hu hv => by rw [show u = _ from hu, show v = _ from hv]; exact hsm2 _ _ W ⟨_, rfl, VP.st _ _ _ _ hs1 ((ext_drew _).tr hX)⟩ ⟨_, rfl, VP.st _ _ _ _ hs9 ((ext_drew _).tr hX)⟩) ?_
      refine VWalk.headF (by decide) ?_
      refine VWalk.notB _ _ rfl (want_tt 91 155 3 rfl (by kernel_rfl) rfl rfl rfl rfl) (opd_dep 94 158 0 rfl rfl rfl rfl) rfl ?_
      refine VWalk.pickT _ _ _ rfl (want_none rfl) (opd_dep 91 155 4 rfl rfl rfl rfl) (opd_dep 95 159 0 rfl rfl rfl rfl) ?_
      refine ⟨rfl, fun W14 hE14 => ?_⟩
      refine VFin.eq ?_  -- 0
      refine VFin.eq ?_  -- 1
      refine VFin.eq ?_  -- 2
      refine VFin.eq ?_  -- 3
      refine VFin.any fun v14_4 hv14_4 => ?_
      refine VFin.any fun v14_5 hv14_5 => ?_
      refine VFin.any fun v14_6 hv14_6 => ?_
      refine VFin.eq ?_  -- 7
      refine VFin.eq ?_  -- 8
      refine VFin.eq ?_  -- 9
      refine VFin.eq ?_  -- 10
      refine VFin.eq ?_  -- 11
      refine VFin.eq ?_  -- 12
      refine VFin.eq ?_  -- 13
      refine VFin.eq ?_  -- 14
      refine VFin.eq ?_  -- 15
      refine VFin.eq ?_  -- 16
      refine VFin.eq ?_  -- 17
      refine VFin.eq ?_  -- 18
      refine VFin.eq ?_  -- 19
      refine VFin.eq ?_  -- 20
      refine VFin.eq ?_  -- 21
      refine VFin.eq ?_  -- 22
      refine VFin.eq ?_  -- 23
      refine VFin.eq ?_  -- 24
      refine VFin.eq ?_  -- 25
      refine VFin.eq ?_  -- 26
      refine VFin.eq ?_  -- 27
      refine VFin.eq ?_  -- 28
      refine VFin.eq ?_  -- 29
      refine VFin.any fun v14_30 hv14_30 => ?_
      refine VFin.any fun v14_31 hv14_31 => ?_
      refine VFin.eq ?_  -- 32
      refine VFin.eq ?_  -- 33
      refine VFin.eq ?_  -- 34
      refine VFin.eq ?_  -- 35
      refine VFin.eq ?_  -- 36
      refine VFin.eq ?_  -- 37
      refine VFin.eq ?_  -- 38
      refine VFin.eq ?_  -- 39
      refine VFin.eq ?_  -- 40
      refine VFin.any fun v14_41 hv14_41 => ?_
      refine VFin.any fun v14_42 hv14_42 => ?_
      refine VFin.eq ?_  -- 43
      refine VFin.eq ?_  -- 44
      refine VFin.eq ?_  -- 45
      refine VFin.eq ?_  -- 46
      refine VFin.eq ?_  -- 47
      refine VFin.any fun v14_48 hv14_48 => ?_
      refine VFin.any fun v14_49 hv14_49 => ?_
      refine VFin.eq ?_  -- 50
      refine VFin.eq ?_  -- 51
      refine VFin.eq ?_  -- 52
      refine VFin.eq ?_  -- 53
      refine VFin.any fun v14_54 hv14_54 => ?_
      refine VFin.eq ?_  -- 55
      refine VFin.eq ?_  -- 56
      refine VFin.eq ?_  -- 57
      refine VFin.eq ?_  -- 58
      refine VFin.any fun v14_59 hv14_59 => ?_
      refine VFin.any fun v14_60 hv14_60 => ?_
      refine VFin.eq ?_  -- 61
      refine VFin.eq ?_  -- 62
      refine VFin.eq ?_  -- 63
      refine VFin.eq ?_  -- 64
      refine VFin.eq ?_  -- 65
      refine VFin.eq ?_  -- 66
      refine VFin.eq ?_  -- 67
      refine VFin.eq ?_  -- 68
      refine VFin.eq ?_  -- 69
      refine VFin.eq ?_  -- 70
      refine VFin.eq ?_  -- 71
      refine VFin.eq ?_  -- 72
      refine VFin.eq ?_  -- 73
      refine VFin.any fun v14_74 hv14_74 => ?_
      refine VFin.any fun v14_75 hv14_75 => ?_
      refine VFin.any fun v14_76 hv14_76 => ?_
      refine VFin.eq ?_  -- 77
      refine VFin.eq ?_  -- 78
      refine VFin.eq ?_  -- 79
      refine VFin.eq ?_  -- 80
      refine VFin.eq ?_  -- 81
      refine VFin.eq ?_  -- 82
      refine VFin.eq ?_  -- 83
      refine VFin.eq ?_  -- 84
      refine VFin.eq ?_  -- 85
      refine VFin.eq ?_  -- 86
      refine VFin.any fun v14_87 hv14_87 => ?_
      refine VFin.eq ?_  -- 88
      refine VFin.eq ?_  -- 89
      refine VFin.eq ?_  -- 90
      refine VFin.eq ?_  -- 91
      refine VFin.eq ?_  -- 92
      refine VFin.eq ?_  -- 93
      refine VFin.eq ?_  -- 94
      refine VFin.eq ?_  -- 95
      refine VFin.eq ?_  -- 96
      refine VFin.nil ?_
      simp only [Act.put, List.setIfInBounds_toArray, List.set_cons_zero, List.set_cons_succ]
      clear hv14_4 hv14_5 hv14_6 hv14_30 hv14_31 hv14_41 hv14_42 hv14_48 hv14_49 hv14_54 hv14_59 hv14_60 hv14_74 hv14_75 hv14_76 hv14_87
      have hmany := VP.st _ _ _ _ hmany ((ext_drew _).tr hE14)
      have hs1 := VP.st _ _ _ _ hs1 ((ext_drew _).tr hE14)
      have hs9 := VP.st _ _ _ _ hs9 ((ext_drew _).tr hE14)
      have hb1 := hb1.drew.ext hE14
      have hb9 := hb9.drew.ext hE14
      have hE := hE.tr ((ext_drew _).tr hE14)
      go_wp2
      go_ret
      exact Ret.mk hE rfl
end Go.Proofs.Ytkbhkadienddmaa
