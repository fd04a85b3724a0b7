/- patset.Number, copied, Make, walked. -/
import Derived.Test.YtfbamdkalamliaaPatF
import Derived.Test.YtfbamdkalamliaaRG
namespace Go.Proofs.Ytfbamdkalamliaa
open Go.RowKit Go.Shelf LetM SetM
def numberF (fold : Bool) (word : List UInt8) (ws : List (List UInt8)) : Int × Bool := if which fold word ws < 0 then (0, false) else (which fold word ws, true)
set_option maxRecDepth 100000 in
set_option maxHeartbeats 1000000 in
theorem pnumber_any (f : Bool) (ws : List (List UInt8)) (word : List UInt8) (u v : Value) (w : World) (hS : VSet f ws u w) (hW : VBytes word v w) : Calls Try.prog 44 #[u, v] w (Ret w (VTup [VEq (.int .i64 (numberF f word ws).1), VEq (.bool (numberF f word ws).2)])) := by
  obtain ⟨sl, rfl, hP⟩ := hS
  have hX : ∀ o, Ext w (w.alloc o) := fun o => ext_alloc _ _
  have hwh := fun o => which_any f word ws v sl (w.alloc o) (VP.st _ _ _ _ hW (hX o)) (VP.st _ _ _ _ hP (hX o))
  obtain ⟨A, c, rfl, -⟩ := VParts.form hP
  obtain ⟨B, d, rfl, -⟩ := VBytes.form hW
  unfold numberF
  clear hP hW
  generalize which f word ws = q at *
  by_cases hq : q < 0
  · rw [if_pos hq]
    go_enter Try.func44, Try.ntmps44
    go_wp2_with fail
    refine (hwh _).mono ?_
    rintro e w2 ⟨u, rfl, hE2, rfl⟩
    have hE := (hX (.cells #[.bool f, .slice A ws.length c] 24)).tr hE2
    clear hwh hX hE2
    go_wp2
    exact bodyPost_ret (v := .tuple #[.int .i64 0, .bool false]) (by simp [results, Try.results44, go_sem]) rfl (Ret.mk hE (VTup.two rfl rfl))
  · rw [if_neg hq]
    go_enter Try.func44, Try.ntmps44
    go_wp2_with fail
    refine (hwh _).mono ?_
    rintro e w2 ⟨u, rfl, hE2, rfl⟩
    have hE := (hX (.cells #[.bool f, .slice A ws.length c] 24)).tr hE2
    clear hwh hX hE2
    go_wp2
    exact bodyPost_ret (v := .tuple #[.int .i64 q, .bool true]) (by simp [results, Try.results44, go_sem]) rfl (Ret.mk hE (VTup.two rfl rfl))
set_option maxRecDepth 100000 in
set_option maxHeartbeats 1000000 in
theorem copied_any (fold : Bool) (bs : List UInt8) (v : Value) (w : World) (hP : VBytes bs v w) (hlen : bs.length ≤ 1000000) : Calls Try.prog 45 #[.bool fold, v] w (RetP w (fun v w' => OwnB w' w.heap.size 5 v (textF fold bs))) := by
  obtain ⟨i0, hi, hz0, hz1, hz2⟩ := info_parts Try.infoB
  have hf := foldeds_any bs v w hP hlen
  have hP0 := hP
  obtain ⟨A, c, rfl, -⟩ := VBytes.form hP
  unfold textF
  clear hP
  cases fold
  · rw [if_neg (by decide)]
    clear hf
    go_enter Try.func45, Try.ntmps45
    go_wp2_with (at_builtin; refine wpList_append_bytes rfl _ _ 26 rfl w.heap.size 5 i0 (.int .u8 0) Try.underlying26 hi hz0 hz1 hz2 rfl (.slice none 0 0) _ [] bs rfl (OwnB.nil w _ _) rfl hP0 (by simp; omega) (Nat.le_refl _) ?_; intro v' w' hown hgrow hat)
    go_ret
    refine RetP.mk (ext_of_grown hgrow rfl) ?_
    simpa using hown
  · rw [if_pos rfl]
    go_enter Try.func45, Try.ntmps45
    go_wp2_with fail
    refine hf.mono ?_
    rintro e w2 ⟨u, rfl, hE2, hO⟩
    clear hf
    have HO := hide hO
    clear hO
    go_wp2
    go_ret
    exact RetP.mk hE2 HO.out
theorem copied_own (fold : Bool) (bs : List UInt8) (base : Nat) (u v : Value) (w : World) (hu : u = .bool fold) (hP : VBytes bs v w) (hlen : bs.length ≤ 1000000) (hb : base ≤ w.heap.size) : Calls Try.prog 45 #[u, v] w (Ret w (VOwn base 5 (textF fold bs))) := by
  subst hu
  exact (copied_any fold bs v w hP hlen).mono fun _ _ ⟨u, h1, h2, h3⟩ => ⟨u, h1, h2, VOwn.low (OwnB.vown h3) hb⟩
set_option maxRecDepth 100000 in
set_option maxHeartbeats 2000000 in
theorem pmake_any (fold : Bool) (ws : List (List UInt8)) (v : Value) (w : World) (hP : VParts ws v w) (hlen : ws.flatten.length ≤ 1000000) (hn : ws.length ≤ 1000000) : Calls Try.prog 40 #[.bool fold, v] w (RetP w fun r w' => ∃ sv, r = .tuple #[.agg #[.bool (makeR fold ws).1, sv], .int .i64 (makeR fold ws).2.2] ∧ OwnP w' w.heap.size 26 5 sv (makeR fold ws).2.1) := by
  have hck := fun W hP => pcheck_any fold ws v W hP hlen hn
  have hP0 := hP
  obtain ⟨A, c, rfl, hc1, hc2, hx⟩ := VParts.form hP
  obtain ⟨i0, hi, hz0, hz1, hz2⟩ := info_parts Try.infoSl
  unfold maxLen at hc2
  clear hP
  by_cases hz : checkR fold ws = 0
  case neg =>
    have hm : makeR fold ws = (false, [], checkR fold ws) := by unfold makeR; rw [if_neg hz]
    rw [hm]
    dsimp only
    have hz' : (checkR fold ws == 0) = false := by rw [beq_eq_false_iff_ne]; exact hz
    clear hm hi hz0 hz1 hz2
    generalize checkR fold ws = z at *
    go_enter Try.func40, Try.ntmps40
    go_wp2_with fail
    have hb := Box.new w 24 #[.bool false, .slice none 0 0]
    refine (hck _ (VP.st _ _ _ _ hP0 (ext_alloc _ _))).mono ?_
    rintro e w2 ⟨u, rfl, hE2, rfl⟩
    have hb2 := hb.ext hE2
    have hE := (ext_alloc w (.cells #[.bool false, .slice none 0 0] 24)).tr hE2
    have hf0 := hb2.frozen 0
    have hf1 := hb2.frozen 1
    have hs := hb2.set_ 0 (.bool false)
    have hs2 := hs.set_ 1 (.slice none 0 0)
    have hd0 := hs2.at_ 0 rfl
    have hd1 := hs2.at_ 1 rfl
    have hc0 := hb2.at_ 0 rfl
    have hc1' := hb2.at_ 1 rfl
    have hEE := (hE.setCell (p := ⟨w.heap.size, 0, none⟩) (Nat.le_refl _) (.bool false)).setCell (p := ⟨w.heap.size, 1, none⟩) (Nat.le_refl _) (.slice none 0 0)
    clear hck hb hE2 hE hs hP0
    go_wp2
    exact bodyPost_ret (results_cell2 Try.results40 _ _ w.heap.size 24 #[.bool false, .slice none 0 0] _ rfl hs2 Try.underlying24 rfl (by kernel_rfl)) rfl (RetP.mk hEE ⟨_, rfl, OwnP.nil _ _ _ _⟩)
  have hm : makeR fold ws = (fold, makeFrom fold [] ws, 0) := by unfold makeR; rw [if_pos hz]
  rw [hm]
  dsimp only
  obtain ⟨q0, q1, q2, q3, q4, -⟩ := checkR_ok hz
  have Hq3 := hide q3
  rw [hz] at hck
  clear hm hz q0 q2 q4 q3
  go_enter Try.func40, Try.ntmps40
  go_wp2_with fail
  have hb := Box.new w 24 #[.bool false, .slice none 0 0]
  refine (hck _ (VP.st _ _ _ _ hP0 (ext_alloc _ _))).mono ?_
  rintro e w2 ⟨u, rfl, hE2, rfl⟩
  have hb2 := hb.ext hE2
  have hE := (ext_alloc w (.cells #[.bool false, .slice none 0 0] 24)).tr hE2
  clear hck hb hE2
  go_wp2
  have hX3 : Ext w2 (w2.alloc (.cells #[.bool fold, .slice none 0 0] 24)) := ext_alloc _ _
  have hg7 : w.heap.size < w2.heap.size := hb2.lt
  go_loopw [23] (fun i wr => ∃ (k : Nat) (acc : List (List UInt8)) (sv : Value), k ≤ ws.length ∧ i = .int .i64 (k : Int) ∧ acc.length ≤ k ∧ Hid (makeFrom fold acc (ws.drop k) = makeFrom fold [] ws) ∧ Hid (∀ a ∈ acc, a.length ≤ 32) ∧ Hid (Box wr w2.heap.size 24 #[.bool fold, sv]) ∧ Hid (OwnP wr (w2.heap.size + 1) 26 5 sv acc) ∧ Hid (Box wr w.heap.size 24 #[.bool false, .slice none 0 0]) ∧ Hid (Below w.heap.size w wr)) (fun i _ => ws.length - (intOf i).toNat)
  case atStart => exact ⟨0, [], _, by omega, rfl, by simp, hide rfl, hide (fun a h => by simp at h), Box.new w2 _ _, OwnP.nil _ _ _ _, hb2.ext hX3, hE.tr hX3⟩
  case round =>
    clear hX3 hb2 hE
    obtain ⟨k, acc, sv, hk, rfl, hal, HM, HA, HB, HO, HR, HE⟩ := hrel
    have hEr : Ext w wr := HE.out
    by_cases hlt : k < ws.length
    · obtain ⟨b, off, rfl, hb9, hcell⟩ := hx (by omega)
      obtain ⟨z, hz1', hz2'⟩ := hcell k hlt
      have hz3 := (hEr.cell (p := ⟨b, off + k, none⟩) hb9).trans hz1'
      have hw9 := VP.st _ _ _ _ hz2' hEr
      obtain ⟨A9, c9, rfl, -⟩ := VBytes.form hz2'
      have hbs := HB.out
      have hbs0 := hbs.at_ 0 rfl
      have hbs1 := hbs.at_ 1 rfl
      have hpv := OwnP.parts HO.out
      have hwl : ws[k].length ≤ 32 := Hq3.out _ (List.getElem_mem hlt)
      have hnb := pnumber_any fold acc ws[k] (.agg #[.bool fold, sv]) _ wr ⟨_, rfl, hpv⟩ hw9
      have hst := make_step fold ws acc k hlt
      rw [HM.out] at hst
      unfold numberF at hnb
      clear hcell hz1' hz2' hx
      by_cases hx0 : which fold ws[k] acc < 0
      · rw [if_pos hx0] at hst hnb
        clear hx0
        dsimp only at hnb
        go_wp2_with fail
        refine hnb.mono ?_
        rintro e w4 ⟨u, rfl, hE4, hu⟩
        obtain ⟨_, _, rfl, rfl, rfl⟩ := VTup.inv2 hu
        have hbs := hbs.ext hE4
        have hw9 := VP.st _ _ _ _ hw9 hE4
        have hE := hEr.tr hE4
        clear hnb hu hbs0 hbs1
        go_upto_region 10 with (fail)
        refine vregion 6 [] (by kernel_rfl) (by kernel_rfl) (fun _ _ _ _ _ h => h) ?_
        refine VWalk.det1 (Operand.tmp 7) (want_none rfl) (opd_frame 7 rfl (by kernel_rfl)) (fun ρ w hE h1 => by simp [execOp, h1, go_sem]; rfl) ?_
        refine VWalk.load1 22 _ rfl (want_none rfl) (opd_dep 0 35 0 rfl rfl rfl rfl) (fun _ => by kernel_rfl) (hbs.at_ 1 rfl) (ext_drew _) ?_
        refine VWalk.move _ rfl (want_none rfl) (opd_frame 0 rfl (by kernel_rfl)) ?_
        refine VWalk.move _ rfl (want_none rfl) (opd_fr 9 rfl hw9 (ext_drew _) (by kernel_rfl)) ?_
        refine VWalk.call2 45 _ _ _ rfl (enters_of Try.func45 (by kernel_rfl) rfl) (want_none rfl) (opd_dep 2 37 1 rfl rfl rfl rfl) (opd_dep 3 38 0 rfl rfl rfl rfl) (fun a b W hX ha hb => copied_own fold ws[k] w4.heap.size a b W ha hb (by omega) hX.size) ?_
        refine VWalk.lit (Fs := [_]) [Operand.tmp 39] 22 26 1 _ rfl rfl (by decide) (by decide) rfl Try.underlying22 (by kernel_rfl) (by kernel_rfl) ⟨oneCell_own _ _ _, trivial⟩ (want_none rfl) ⟨(opd_dep 4 39 0 rfl rfl rfl rfl), trivial⟩ ?_
        refine ⟨rfl, fun W10 hE10 => ?_⟩
        refine VFin.eq ?_  -- 0
        refine VFin.eq ?_  -- 1
        refine VFin.eq ?_  -- 2
        refine VFin.any fun v10_3 hv10_3 => ?_
        refine VFin.any fun v10_4 hv10_4 => ?_
        refine VFin.any fun v10_5 hv10_5 => ?_
        refine VFin.nil ?_
        simp only [Act.put, List.setIfInBounds_toArray, List.set_cons_zero, List.set_cons_succ]
        clear hv10_3 hv10_4
        have hw9 := VP.st _ _ _ _ hw9 ((ext_drew _).tr hE10)
        have hbs := hbs.drew.ext hE10
        have hE := hE.tr ((ext_drew _).tr hE10)
        obtain ⟨xv, hsrc, hxo⟩ := Src.one hv10_5
        have hX9 : Ext wr W10 := hE4.tr ((ext_drew _).tr hE10)
        obtain ⟨xs, ho1, ho2, ho3⟩ := OwnP.st HO.out hX9
        have hxo := VOwn.low hxo (show w2.heap.size + 1 ≤ w4.heap.size from Nat.le_trans HB.out.lt hE4.size)
        have hr9 := HR.out.ext hX9
        have hg9 : w2.heap.size < W10.heap.size := hbs.lt
        clear hv10_5 hX9 hpv HB HO
        refine wpList_append_src rfl _ _ 22 rfl (w2.heap.size + 1) 26 i0 (.slice none 0 0) 1 24 Try.underlying22 hi hz0 hz1 hz2 rfl (by omega) sv _ acc.length 1 xs [xv] rfl ho1 rfl rfl hsrc (fun y hy => by rw [List.mem_singleton] at hy; subst hy; exact VOwn.cell1 hxo) (by omega) (by omega) ?_
        intro v' w' hown hgrow hat
        have hne : sv.ownBlock ≠ some w2.heap.size := fun e => by have := own_ge ho1 _ e; omega
        have hne2 : sv.ownBlock ≠ some w.heap.size := fun e => by have := own_ge ho1 _ e; omega
        have hsn := OwnP.snoc (by decide) ho1 ho2 ho3 hxo hown hgrow
        have hb4 := Box.grows hbs hgrow hne
        have hr4 := Box.grows hr9 hgrow hne2
        have hE4 : Below w.heap.size w w' := hE.grown hgrow hE.size (fun j hj => by have := own_ge ho1 j hj; omega)
        obtain ⟨A4, c4, hv4⟩ := own_form hown
        subst hv4
        have hc14 := hb4.at_ 1 rfl
        have hf14 := hb4.frozen 1
        have HB := hide (hb4.set_ 1 (.slice A4 (acc.length + 1) c4))
        have HO := hide (OwnP.set hsn ⟨w2.heap.size, 1, none⟩ (Nat.lt_succ_self _) (.slice A4 (acc.length + 1) c4))
        have HR := hide (show Box (w'.setCell ⟨w2.heap.size, 1, none⟩ (.slice A4 (acc.length + 1) c4)) w.heap.size _ _ from (Below.heap_setCell w' ⟨w2.heap.size, 1, none⟩ _ w.heap.size (by simp only; omega)).trans hr4)
        have HE := hide (hE4.setCell (p := ⟨w2.heap.size, 1, none⟩) (Nat.le_of_lt hg7) (.slice A4 (acc.length + 1) c4))
        have HA2 : Hid (∀ a ∈ acc ++ [textF fold ws[k]], a.length ≤ 32) := fun a ha => by
          rcases List.mem_append.1 ha with h | h
          · exact HA.out a h
          · rw [List.mem_singleton] at h; subst h; rw [textF_length]; exact hwl
        have HM2 := hide hst.symm
        clear hb4 hr4 hE4 hsn hown hgrow hat hne hne2 ho1 ho2 ho3 hxo hsrc hbs hw9 hE hst
        go_wp2
        exact ⟨⟨k + 1, acc ++ [textF fold ws[k]], _, by omega, by go_num, by simp; omega, HM2, HA2, HB, HO, HR, HE⟩, by simp [intOf]; omega⟩
      · rw [if_neg hx0] at hst hnb
        generalize which fold ws[k] acc = q at *
        dsimp only at hnb
        go_wp2_with fail
        refine hnb.mono ?_
        rintro e w4 ⟨u, rfl, hE4, hu⟩
        obtain ⟨_, _, rfl, rfl, rfl⟩ := VTup.inv2 hu
        have HO2 := hide (OwnP.st HO.out hE4)
        have HR2 := hide (HR.out.ext hE4)
        have HB2 := hide (hbs.ext hE4)
        have HE2 : Hid (Below w.heap.size w w4) := hide (hEr.tr hE4)
        have HM2 := hide hst.symm
        clear HB HO HR hpv hnb hbs hbs0 hbs1 hu hst hw9
        go_wp2
        exact ⟨⟨k + 1, acc, sv, by omega, by go_num, by omega, HM2, HA, HB2, HO2, HR2, HE2⟩, by simp [intOf]; omega⟩
    · obtain rfl : k = ws.length := by omega
      have hm := HM.out
      rw [List.drop_length] at hm
      have Hm := hide (show makeFrom fold [] ws = acc from hm.symm)
      clear HM hm
      obtain ⟨A4, c4, hv4⟩ := OwnP.form HO.out
      subst hv4
      have hb := HB.out
      have hr := HR.out
      have hc0 := hb.at_ 0 rfl
      have hc1 := hb.at_ 1 rfl
      have hf0 := hb.frozen 0
      have hf1 := hb.frozen 1
      have hd0 := hr.at_ 0 rfl
      have hd1 := hr.at_ 1 rfl
      have he0 := hr.frozen 0
      have he1 := hr.frozen 1
      have HS := hide ((hr.set_ 0 (.bool fold)).set_ 1 (.slice A4 acc.length c4))
      have HE2 := hide ((hEr.setCell (p := ⟨w.heap.size, 0, none⟩) (Nat.le_refl _) (.bool fold)).setCell (p := ⟨w.heap.size, 1, none⟩) (Nat.le_refl _) (.slice A4 acc.length c4))
      have HO2 := hide (OwnP.set (OwnP.set HO.out ⟨w.heap.size, 0, none⟩ (by simp only; omega) (.bool fold)) ⟨w.heap.size, 1, none⟩ (by simp only; omega) (.slice A4 acc.length c4))
      clear HO HB HR hb hr hP0
      go_wp2
      refine bodyPost_ret (results_cell2 Try.results40 _ _ w.heap.size 24 #[.bool fold, .slice A4 acc.length c4] _ rfl HS.out Try.underlying24 rfl (by kernel_rfl)) rfl (RetP.mk HE2.out ⟨_, rfl, ?_⟩)
      rw [Hm.out]
      exact OwnP.low HO2.out (by omega)
end Go.Proofs.Ytfbamdkalamliaa
