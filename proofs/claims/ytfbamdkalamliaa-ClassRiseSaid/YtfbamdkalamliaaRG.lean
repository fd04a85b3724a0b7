/- The document's set of a list of words. -/
import Derived.Test.YtfbamdkalamliaaRF
import Derived.Test.YtfbamdkalamliaaRP
namespace Go.Proofs.Ytfbamdkalamliaa
open Go.RowKit LetM SetM
theorem Try.infoSl : (Try.prog.info? 26).map (fun i => (i.zero, i.size, i.bytes)) = some (some (.slice none 0 0), 1, 24) := by kernel_rfl
theorem make_step (fold : Bool) (ws acc : List (List UInt8)) (k : Nat) (h : k < ws.length) : makeFrom fold acc (ws.drop k) = makeFrom fold (if which fold ws[k] acc < 0 then acc ++ [textF fold ws[k]] else acc) (ws.drop (k + 1)) := by
  rw [List.drop_eq_getElem_cons h]
  conv => lhs; unfold makeFrom
/-- A result that is kept in a cell, and another one. -/
theorem results_cell2 {P : Program} {fn : Func} {t u : Tmp} {ty : TypeId} (h : fn.results = #[.cell t ty, .tmp u]) (tmps : Array Value) (w : World) (g : Nat) (T : TypeId) (cs : Array Value) (d : TypeDesc) (ht : tmps.getD t undef = .pointer (some ⟨g, 0, none⟩)) (hb : Box w g T cs) (hu : P.underlying ty = some d) (hd : (match d with | .struct _ | .array _ _ => true | _ => false) = true) (hi : (P.info? ty).map (·.size) = some cs.size) :
    (results fn tmps).run P w = .ok (.tuple #[.agg cs, tmps.getD u undef]) w := by
  have hl := run_loadVar_row w g T ty cs (0, 0) d hb hu hd hi
  rw [Array.getD_eq_getD_getElem?] at ht
  simp [results, h, ht, asAddr, hl]
theorem text_own (fold : Bool) (bs : List UInt8) (base : Nat) (u v : Value) (w : World) (hu : u = .bool fold) (hP : VBytes bs v w) (hlen : bs.length ≤ 1000000) (hb : base ≤ w.heap.size) : Calls Try.prog 38 #[u, v] w (Ret w (VOwn base 5 (textF fold bs))) := by
  subst hu
  exact (text_any fold bs v w hP hlen).mono fun _ _ ⟨u, h1, h2, h3⟩ => ⟨u, h1, h2, VOwn.low (OwnB.vown h3) hb⟩
set_option maxRecDepth 100000 in
set_option maxHeartbeats 2000000 in
theorem make_any (fold : Bool) (ws : List (List UInt8)) (v : Value) (w : World) (hP : VParts ws v w) : Calls Try.prog 26 #[.bool fold, v] w (RetP w fun r w' => ∃ sv, r = .tuple #[.agg #[.bool (makeR fold ws).1, sv], .int .i64 (makeR fold ws).2.2] ∧ OwnP w' w.heap.size 26 5 sv (makeR fold ws).2.1) := by
  have hck := fun W hP => check_any fold ws v W hP
  have hP0 := hP
  obtain ⟨A, c, rfl, hc1, hc2, -⟩ := VParts.form hP
  obtain ⟨i0, hi, hz0, hz1, hz2⟩ := info_parts Try.infoSl
  unfold maxLen at hc2
  clear hP
  by_cases hz : checkR fold ws = 0
  case neg =>
    have hm : makeR fold ws = (false, [], checkR fold ws) := by unfold makeR; rw [if_neg hz]
    rw [hm]
    dsimp only
    have hz' : (checkR fold ws == 0) = false := by rw [beq_eq_false_iff_ne]; exact hz
    clear hm hi hz0 hz1 hz2
    generalize checkR fold ws = z at *
    go_enter Try.func26, Try.ntmps26
    go_wp2_with fail
    have hb := Box.new w 24 #[.bool false, .slice none 0 0]
    refine (hck _ (VP.st _ _ _ _ hP0 (ext_alloc _ _))).mono ?_
    rintro e w2 ⟨u, rfl, hE2, rfl⟩
    have hb2 := hb.ext hE2
    have hE := (ext_alloc w (.cells #[.bool false, .slice none 0 0] 24)).tr hE2
    have hf0 := hb2.frozen 0
    have hf1 := hb2.frozen 1
    have hs := hb2.set_ 0 (.bool false)
    have hs2 := hs.set_ 1 (.slice none 0 0)
    have hd0 := hs2.at_ 0 rfl
    have hd1 := hs2.at_ 1 rfl
    have hc0 := hb2.at_ 0 rfl
    have hc1' := hb2.at_ 1 rfl
    have hEE := (hE.setCell (p := ⟨w.heap.size, 0, none⟩) (Nat.le_refl _) (.bool false)).setCell (p := ⟨w.heap.size, 1, none⟩) (Nat.le_refl _) (.slice none 0 0)
    clear hck hb hE2 hE hs hP0
    go_wp2
    exact bodyPost_ret (results_cell2 Try.results26 _ _ w.heap.size 24 #[.bool false, .slice none 0 0] _ rfl hs2 Try.underlying24 rfl (by kernel_rfl)) rfl (RetP.mk hEE ⟨_, rfl, OwnP.nil _ _ _ _⟩)
  have hm : makeR fold ws = (fold, makeFrom fold [] ws, 0) := by unfold makeR; rw [if_pos hz]
  rw [hm]
  dsimp only
  obtain ⟨q0, q1, q2, q3, q4, -⟩ := checkR_ok hz
  have Hq3 := hide q3
  rw [hz] at hck
  clear hm hz q0 q2 q4 q3
  go_enter Try.func26, Try.ntmps26
  go_wp2_with fail
  have hb := Box.new w 24 #[.bool false, .slice none 0 0]
  refine (hck _ (VP.st _ _ _ _ hP0 (ext_alloc _ _))).mono ?_
  rintro e w2 ⟨u, rfl, hE2, rfl⟩
  have hb2 := hb.ext hE2
  have hE := (ext_alloc w (.cells #[.bool false, .slice none 0 0] 24)).tr hE2
  clear hck hb hE2
  go_wp2
  have hX3 : Ext w2 (w2.alloc (.cells #[.bool fold, .slice none 0 0] 24)) := ext_alloc _ _
  have hg7 : w.heap.size < w2.heap.size := hb2.lt
  go_loopw [8] (fun i wr => ∃ (k : Nat) (acc : List (List UInt8)) (sv : Value), k ≤ ws.length ∧ i = .int .i64 (k : Int) ∧ acc.length ≤ k ∧ Hid (makeFrom fold acc (ws.drop k) = makeFrom fold [] ws) ∧ Hid (∀ a ∈ acc, a.length ≤ 32) ∧ Hid (Box wr w2.heap.size 24 #[.bool fold, sv]) ∧ Hid (OwnP wr (w2.heap.size + 1) 26 5 sv acc) ∧ Hid (Box wr w.heap.size 24 #[.bool false, .slice none 0 0]) ∧ Hid (Below w.heap.size w wr)) (fun i _ => ws.length - (intOf i).toNat)
  case atStart => exact ⟨0, [], _, by omega, rfl, by simp, hide rfl, hide (fun a h => by simp at h), Box.new w2 _ _, OwnP.nil _ _ _ _, hb2.ext hX3, hE.tr hX3⟩
  case round =>
    clear hX3 hb2 hE
    obtain ⟨k, acc, sv, hk, rfl, hal, HM, HA, HB, HO, HR, HE⟩ := hrel
    have hEr : Ext w wr := HE.out
    by_cases hlt : k < ws.length
    · have hP := VP.st _ _ _ _ hP0 hEr
      have hbs := HB.out
      have hpv := OwnP.parts HO.out
      have hwl : ws[k].length ≤ 32 := Hq3.out _ (List.getElem_mem hlt)
      have hwh := fun W (hX : Ext wr W) u (hu : VBytes ws[k] u W) => rwhich_any fold ws[k] acc u sv W hu (VP.st _ _ _ _ hpv hX) (by omega) (fun b hb => by have := HA.out b hb; omega)
      have hst := make_step fold ws acc k hlt
      rw [HM.out] at hst
      obtain ⟨x, hx⟩ : ∃ x, which fold ws[k] acc = x := ⟨_, rfl⟩
      rw [hx] at hst hwh
      have hE := hEr
      by_cases hx0 : x < 0
      · rw [if_pos hx0] at hst
        go_upto_region 8 with (fail)
        refine vregion 9 [] (by kernel_rfl) (by kernel_rfl) (fun _ _ _ _ _ h => h) ?_
        refine VWalk.move _ rfl (want_none rfl) (opd_frame 0 rfl (by kernel_rfl)) ?_
        refine VWalk.move _ rfl (want_none rfl) (opd_fr 1 rfl hP (ext_drew _) (by kernel_rfl)) ?_
        refine VWalk.move _ rfl (want_none rfl) (opd_frame 8 rfl (by kernel_rfl)) ?_
        refine VWalk.indexP 22 26 _ _ .i64 k rfl Try.underlying22 (by kernel_rfl) (want_none rfl) (opd_dep 1 25 1 rfl rfl rfl rfl) (opd_dep 2 26 0 rfl rfl rfl rfl) hlt ?_
        refine VWalk.loadP 26 _ rfl (want_none rfl) (opd_dep 3 27 0 rfl rfl rfl rfl) (fun _ => by kernel_rfl) ?_
        refine VWalk.det1 (Operand.tmp 7) (want_none rfl) (opd_frame 7 rfl (by kernel_rfl)) (fun ρ w hE h1 => by simp [execOp, h1, go_sem]; rfl) ?_
        refine VWalk.load1 22 _ rfl (want_none rfl) (opd_dep 5 29 0 rfl rfl rfl rfl) (fun _ => by kernel_rfl) (hbs.at_ 1 rfl) (ext_drew _) ?_
        refine VWalk.call3 37 _ _ _ _ rfl (enters_of Try.func37 (by kernel_rfl) rfl) (want_none rfl) (opd_dep 0 24 6 rfl rfl rfl rfl) (opd_dep 4 28 2 rfl rfl rfl rfl) (opd_dep 6 30 0 rfl rfl rfl rfl) (fun a b c W hX ha hb hc => by rw [show a = _ from ha, show c = _ from hc]; exact hwh W ((ext_drew _).tr hX) b hb) ?_
        refine VWalk.lssT _ _ _ _ rfl (want_none rfl) (opd_dep 7 31 0 rfl rfl rfl rfl) (opd_const _) (by omega) ?_
        refine ⟨rfl, fun W8 hE8 => ?_⟩
        refine VFin.eq ?_  -- 0
        refine VFin.any fun v8_1 hv8_1 => ?_
        refine VFin.eq ?_  -- 2
        refine VFin.any fun v8_3 hv8_3 => ?_
        refine VFin.any fun v8_4 hv8_4 => ?_
        refine VFin.eq ?_  -- 5
        refine VFin.eq ?_  -- 6
        refine VFin.eq ?_  -- 7
        refine VFin.eq ?_  -- 8
        refine VFin.nil ?_
        simp only [Act.put, List.setIfInBounds_toArray, List.set_cons_zero, List.set_cons_succ]
        clear hv8_1 hv8_3 hv8_4
        have hP := VP.st _ _ _ _ hP ((ext_drew _).tr hE8)
        have hbs := hbs.drew.ext hE8
        have hE := hE.tr ((ext_drew _).tr hE8)
        go_upto_region 9 with (fail)
        refine vregion 9 [] (by kernel_rfl) (by kernel_rfl) (fun _ _ _ _ _ h => h) ?_
        refine VWalk.det1 (Operand.tmp 7) (want_none rfl) (opd_frame 7 rfl (by kernel_rfl)) (fun ρ w hE h1 => by simp [execOp, h1, go_sem]; rfl) ?_
        refine VWalk.load1 22 _ rfl (want_none rfl) (opd_dep 0 33 0 rfl rfl rfl rfl) (fun _ => by kernel_rfl) (hbs.at_ 1 rfl) (ext_drew _) ?_
        refine VWalk.move _ rfl (want_none rfl) (opd_frame 0 rfl (by kernel_rfl)) ?_
        refine VWalk.move _ rfl (want_none rfl) (opd_fr 1 rfl hP (ext_drew _) (by kernel_rfl)) ?_
        refine VWalk.move _ rfl (want_none rfl) (opd_frame 8 rfl (by kernel_rfl)) ?_
        refine VWalk.indexP 22 26 _ _ .i64 k rfl Try.underlying22 (by kernel_rfl) (want_none rfl) (opd_dep 3 36 1 rfl rfl rfl rfl) (opd_dep 4 37 0 rfl rfl rfl rfl) hlt ?_
        refine VWalk.loadP 26 _ rfl (want_none rfl) (opd_dep 5 38 0 rfl rfl rfl rfl) (fun _ => by kernel_rfl) ?_
        refine VWalk.call2 38 _ _ _ rfl (enters_of Try.func38 (by kernel_rfl) rfl) (want_none rfl) (opd_dep 2 35 4 rfl rfl rfl rfl) (opd_dep 6 39 0 rfl rfl rfl rfl) (fun a b W hX ha hb => text_own fold ws[k] W8.heap.size a b W ha hb (by omega) hX.size) ?_
        refine VWalk.lit (Fs := [_]) [Operand.tmp 40] 22 26 1 _ rfl rfl (by decide) (by decide) rfl Try.underlying22 (by kernel_rfl) (by kernel_rfl) ⟨oneCell_own _ _ _, trivial⟩ (want_none rfl) ⟨(opd_dep 7 40 0 rfl rfl rfl rfl), trivial⟩ ?_
        refine ⟨rfl, fun W9 hE9 => ?_⟩
        refine VFin.eq ?_  -- 0
        refine VFin.eq ?_  -- 1
        refine VFin.eq ?_  -- 2
        refine VFin.any fun v9_3 hv9_3 => ?_
        refine VFin.eq ?_  -- 4
        refine VFin.any fun v9_5 hv9_5 => ?_
        refine VFin.any fun v9_6 hv9_6 => ?_
        refine VFin.any fun v9_7 hv9_7 => ?_
        refine VFin.any fun v9_8 hv9_8 => ?_
        refine VFin.nil ?_
        simp only [Act.put, List.setIfInBounds_toArray, List.set_cons_zero, List.set_cons_succ]
        clear hv9_3 hv9_5 hv9_6 hv9_7
        have hP := VP.st _ _ _ _ hP ((ext_drew _).tr hE9)
        have hbs := hbs.drew.ext hE9
        have hE := hE.tr ((ext_drew _).tr hE9)
        obtain ⟨xv, hsrc, hxo⟩ := Src.one hv9_8
        have hX9 : Ext wr W9 := ((ext_drew _).tr hE8).tr ((ext_drew _).tr hE9)
        obtain ⟨xs, ho1, ho2, ho3⟩ := OwnP.st HO.out hX9
        have hxo := VOwn.low hxo (show w2.heap.size + 1 ≤ W8.heap.size from Nat.le_trans HB.out.lt ((ext_drew wr).tr hE8).size)
        have hr9 := HR.out.ext hX9
        have hg9 : w2.heap.size < W9.heap.size := hbs.lt
        clear hv9_8 hX9 hpv hwh HB HO
        refine wpList_append_src rfl _ _ 22 rfl (w2.heap.size + 1) 26 i0 (.slice none 0 0) 1 24 Try.underlying22 hi hz0 hz1 hz2 rfl (by omega) sv _ acc.length 1 xs [xv] rfl ho1 rfl rfl hsrc (fun y hy => by rw [List.mem_singleton] at hy; subst hy; exact VOwn.cell1 hxo) (by omega) (by omega) ?_
        intro v' w' hown hgrow hat
        have hne : sv.ownBlock ≠ some w2.heap.size := fun e => by have := own_ge ho1 _ e; omega
        have hne2 : sv.ownBlock ≠ some w.heap.size := fun e => by have := own_ge ho1 _ e; omega
        have hsn := OwnP.snoc (by decide) ho1 ho2 ho3 hxo hown hgrow
        have hb4 := Box.grows hbs hgrow hne
        have hr4 := Box.grows hr9 hgrow hne2
        have hE4 : Below w.heap.size w w' := hE.grown hgrow hE.size (fun j hj => by have := own_ge ho1 j hj; omega)
        obtain ⟨A4, c4, hv4⟩ := own_form hown
        subst hv4
        have hc14 := hb4.at_ 1 rfl
        have hf14 := hb4.frozen 1
        have HB := hide (hb4.set_ 1 (.slice A4 (acc.length + 1) c4))
        have HO := hide (OwnP.set hsn ⟨w2.heap.size, 1, none⟩ (Nat.lt_succ_self _) (.slice A4 (acc.length + 1) c4))
        have HR := hide (show Box (w'.setCell ⟨w2.heap.size, 1, none⟩ (.slice A4 (acc.length + 1) c4)) w.heap.size _ _ from (Below.heap_setCell w' ⟨w2.heap.size, 1, none⟩ _ w.heap.size (by simp only; omega)).trans hr4)
        have HE := hide (hE4.setCell (p := ⟨w2.heap.size, 1, none⟩) (Nat.le_of_lt hg7) (.slice A4 (acc.length + 1) c4))
        have HA2 : Hid (∀ a ∈ acc ++ [textF fold ws[k]], a.length ≤ 32) := fun a ha => by
          rcases List.mem_append.1 ha with h | h
          · exact HA.out a h
          · rw [List.mem_singleton] at h; subst h; rw [textF_length]; exact hwl
        have HM2 := hide hst.symm
        clear hb4 hr4 hE4 hsn hown hgrow hat hne hne2 ho1 ho2 ho3 hxo hsrc hbs hP hE hst
        go_wp2
        exact ⟨⟨k + 1, acc ++ [textF fold ws[k]], _, by omega, by go_num, by simp; omega, HM2, HA2, HB, HO, HR, HE⟩, by simp [intOf]; omega⟩
      · rw [if_neg hx0] at hst
        go_upto_region 8 with (fail)
        refine vregion 9 [] (by kernel_rfl) (by kernel_rfl) (fun _ _ _ _ _ h => h) ?_
        refine VWalk.move _ rfl (want_none rfl) (opd_frame 0 rfl (by kernel_rfl)) ?_
        refine VWalk.move _ rfl (want_none rfl) (opd_fr 1 rfl hP (ext_drew _) (by kernel_rfl)) ?_
        refine VWalk.move _ rfl (want_none rfl) (opd_frame 8 rfl (by kernel_rfl)) ?_
        refine VWalk.indexP 22 26 _ _ .i64 k rfl Try.underlying22 (by kernel_rfl) (want_none rfl) (opd_dep 1 25 1 rfl rfl rfl rfl) (opd_dep 2 26 0 rfl rfl rfl rfl) hlt ?_
        refine VWalk.loadP 26 _ rfl (want_none rfl) (opd_dep 3 27 0 rfl rfl rfl rfl) (fun _ => by kernel_rfl) ?_
        refine VWalk.det1 (Operand.tmp 7) (want_none rfl) (opd_frame 7 rfl (by kernel_rfl)) (fun ρ w hE h1 => by simp [execOp, h1, go_sem]; rfl) ?_
        refine VWalk.load1 22 _ rfl (want_none rfl) (opd_dep 5 29 0 rfl rfl rfl rfl) (fun _ => by kernel_rfl) (hbs.at_ 1 rfl) (ext_drew _) ?_
        refine VWalk.call3 37 _ _ _ _ rfl (enters_of Try.func37 (by kernel_rfl) rfl) (want_none rfl) (opd_dep 0 24 6 rfl rfl rfl rfl) (opd_dep 4 28 2 rfl rfl rfl rfl) (opd_dep 6 30 0 rfl rfl rfl rfl) (fun a b c W hX ha hb hc => by rw [show a = _ from ha, show c = _ from hc]; exact hwh W ((ext_drew _).tr hX) b hb) ?_
        refine VWalk.lssF _ _ _ _ rfl (want_none rfl) (opd_dep 7 31 0 rfl rfl rfl rfl) (opd_const _) (by omega) ?_
        refine ⟨rfl, fun W8 hE8 => ?_⟩
        refine VFin.eq ?_  -- 0
        refine VFin.any fun v8_1 hv8_1 => ?_
        refine VFin.eq ?_  -- 2
        refine VFin.any fun v8_3 hv8_3 => ?_
        refine VFin.any fun v8_4 hv8_4 => ?_
        refine VFin.eq ?_  -- 5
        refine VFin.eq ?_  -- 6
        refine VFin.eq ?_  -- 7
        refine VFin.eq ?_  -- 8
        refine VFin.nil ?_
        simp only [Act.put, List.setIfInBounds_toArray, List.set_cons_zero, List.set_cons_succ]
        clear hv8_1 hv8_3 hv8_4
        have hP := VP.st _ _ _ _ hP ((ext_drew _).tr hE8)
        have hbs := hbs.drew.ext hE8
        have hE := hE.tr ((ext_drew _).tr hE8)
        have hX9 : Ext wr W8 := (ext_drew _).tr hE8
        have HO2 := hide (OwnP.st HO.out hX9)
        have HR2 := hide (HR.out.ext hX9)
        have HB2 := hide hbs
        have HE2 : Hid (Below w.heap.size w W8) := hide hE
        have HM2 := hide hst.symm
        clear HB HO HR hX9 hpv hwh hbs hP hE hst
        go_wp2
        exact ⟨⟨k + 1, acc, sv, by omega, by go_num, by omega, HM2, HA, HB2, HO2, HR2, HE2⟩, by simp [intOf]; omega⟩
    · obtain rfl : k = ws.length := by omega
      have hm := HM.out
      rw [List.drop_length] at hm
      have Hm := hide (show makeFrom fold [] ws = acc from hm.symm)
      clear HM hm
      obtain ⟨A4, c4, hv4⟩ := OwnP.form HO.out
      subst hv4
      have hb := HB.out
      have hr := HR.out
      have hc0 := hb.at_ 0 rfl
      have hc1 := hb.at_ 1 rfl
      have hf0 := hb.frozen 0
      have hf1 := hb.frozen 1
      have hd0 := hr.at_ 0 rfl
      have hd1 := hr.at_ 1 rfl
      have he0 := hr.frozen 0
      have he1 := hr.frozen 1
      have HS := hide ((hr.set_ 0 (.bool fold)).set_ 1 (.slice A4 acc.length c4))
      have HE2 := hide ((hEr.setCell (p := ⟨w.heap.size, 0, none⟩) (Nat.le_refl _) (.bool fold)).setCell (p := ⟨w.heap.size, 1, none⟩) (Nat.le_refl _) (.slice A4 acc.length c4))
      have HO2 := hide (OwnP.set (OwnP.set HO.out ⟨w.heap.size, 0, none⟩ (by simp only; omega) (.bool fold)) ⟨w.heap.size, 1, none⟩ (by simp only; omega) (.slice A4 acc.length c4))
      clear HO HB HR hb hr hP0
      go_wp2
      refine bodyPost_ret (results_cell2 Try.results26 _ _ w.heap.size 24 #[.bool fold, .slice A4 acc.length c4] _ rfl HS.out Try.underlying24 rfl (by kernel_rfl)) rfl (RetP.mk HE2.out ⟨_, rfl, ?_⟩)
      rw [Hm.out]
      exact OwnP.low HO2.out (by omega)
end Go.Proofs.Ytfbamdkalamliaa
