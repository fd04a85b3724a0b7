/- LinesHits, walked. -/
import Derived.Test.YtdaghnnmbilgfaaLinT
namespace Go.Proofs.Ytdaghnnmbilgfaa
open Go.RowKit Go.Shelf LinM LetM SetM
section
variable {P : Program} {Q : Exit → Act → World → Prop} {ops : Array Oper} {M m : Nat} {a0 : Act} {w0 : World} {K : List Oper → List VP → Prop} {o : Oper} {rest : List Oper} {env : List VP}
/-- Where a pair's first number stands; its second. -/
theorem VWalk.fptr2a {p : Int × Int} (T : TypeId) (x : Operand) (ho : o.op = .fieldAddr T x 0) (hw : Want ops M a0 w0 env o true) (hx : Opd ops M a0 w0 env o x (VPtr2 p))
    (hf : ∀ b off w, (Instr.fieldAt T (.pointer (some ⟨b, off, none⟩)) 0).run P w = .ok (.pointer (some ⟨b, off, none⟩)) w)
    (hr : VWalk P Q ops M a0 w0 K m rest (VPtr (VEq (.int .i64 p.1)) :: env)) : VWalk P Q ops M a0 w0 K (m + 1) (o :: rest) env :=
  .val hw (fun a w hE hC hD => by
    obtain ⟨b, off, h1, h2, h3, h4⟩ := hx a w hE hC hD
    refine ⟨.pointer (some ⟨b, off, none⟩), ?_, b, off, _, rfl, h2, h3, rfl⟩
    revert h1
    generalize a.eval = ρ
    intro h1
    unfold execOp
    simp [ho, h1, hf, Result.andThen]) hr
theorem VWalk.fptr2b {p : Int × Int} (T : TypeId) (x : Operand) (ho : o.op = .fieldAddr T x 1) (hw : Want ops M a0 w0 env o true) (hx : Opd ops M a0 w0 env o x (VPtr2 p))
    (hf : ∀ b off w, (Instr.fieldAt T (.pointer (some ⟨b, off, none⟩)) 1).run P w = .ok (.pointer (some ⟨b, off + 1, none⟩)) w)
    (hr : VWalk P Q ops M a0 w0 K m rest (VPtr (VEq (.int .i64 p.2)) :: env)) : VWalk P Q ops M a0 w0 K (m + 1) (o :: rest) env :=
  .val hw (fun a w hE hC hD => by
    obtain ⟨b, off, h1, h2, h3, h4⟩ := hx a w hE hC hD
    refine ⟨.pointer (some ⟨b, off + 1, none⟩), ?_, b, off + 1, _, rfl, h2, h4, rfl⟩
    revert h1
    generalize a.eval = ρ
    intro h1
    unfold execOp
    simp [ho, h1, hf, Result.andThen]) hr
end
theorem PRow.three (a b c d e f : Int) : PRow #[.int .i64 a, .int .i64 b, .int .i64 c, .int .i64 d, .int .i64 e, .int .i64 f] [(a, b), (c, d), (e, f)] := ⟨rfl, fun j h => by
  have h : j < 3 := h
  rcases j with _ | _ | _ | j
  · exact ⟨rfl, rfl⟩
  · exact ⟨rfl, rfl⟩
  · exact ⟨rfl, rfl⟩
  · omega⟩
theorem ends_none (bs : List UInt8) (fr : Int) : endsC bs fr [(fr, 0), (fr + bs.length + 1, 0), (fr - 1, 0)] = [(0, 0), (0, 0), (0, 0)] := by
  have h1 : placeC bs fr fr 1 = (0, 0) := by unfold placeC ofC; rw [if_neg (by omega), if_pos (by omega)]
  have h2 : placeC bs fr (fr + bs.length + 1) 1 = (0, 0) := by unfold placeC ofC; rw [if_neg (by omega), if_pos (by omega)]
  have h3 : placeC bs fr (fr - 1) 1 = (0, 0) := by unfold placeC; rw [if_pos (by omega)]
  unfold endsC
  simp only [List.map_cons, List.map_nil, h1, h2, h3]
  split <;> rfl
set_option maxRecDepth 100000 in
set_option maxHeartbeats 4000000 in
theorem linesHits_any (f : Bool) (ws : List (List UInt8)) (bs : List UInt8) (fr : Int) (u v : Value) (w : World) (hS : VSet f ws u w) (hB : VBytes bs v w) : Calls Try.prog 5 #[u, .int .i64 fr, v] w (Ret w (VEq (.bool true))) := by
  have hwk := wakes_any
  have hgr := fun W hS => setgreat_any f ws u W hS
  have hS0 := hS
  have hB0 := hB
  obtain ⟨sl, rfl, hP⟩ := hS
  have hP0 := hP
  obtain ⟨A, c, rfl, -⟩ := VParts.form hP
  obtain ⟨B, d, rfl, hd1, hd2, -⟩ := VBytes.form hB
  unfold maxLen at hd2
  clear hP hB
  have hb3 := Box.new w 39 #[.bool f, .slice A ws.length c]
  have hX0 : Ext w (w.alloc (.cells #[.bool f, .slice A ws.length c] 39)) := ext_alloc _ _
  unfold VGreat at hgr
  go_enter Try.func5, Try.ntmps5
  go_wp2_with fail
  refine (hgr _ (VP.st _ _ _ _ hS0 hX0)).mono ?_
  rintro e w2 ⟨u, rfl, hE2, rfl⟩
  have hb3 := hb3.ext hE2
  have hE := hX0.tr hE2
  clear hgr hX0 hE2
  obtain ⟨g, hg⟩ : ∃ g, greatB ws = g := ⟨_, rfl⟩
  rw [hg]
  cases g
  case true =>
    clear hb3 hP0 hB0 hS0 hg
    go_wp2_with fail
    refine (hwk _).mono ?_
    rintro e w3 ⟨u, rfl, hE3, rfl⟩
    go_wp2
    go_ret
    exact Ret.mk (hE.tr hE3) rfl
  by_cases hlen : bs.length ≤ 200
  case neg =>
    clear hb3 hP0 hB0 hS0 hg
    go_wp2_with fail
    refine (hwk _).mono ?_
    rintro e w3 ⟨u, rfl, hE3, rfl⟩
    go_wp2
    go_ret
    exact Ret.mk (hE.tr hE3) rfl
  obtain ⟨hn80, hfl⟩ := greatB_false hg
  have hoc := fun W hS hB => occ_any f ws bs fr (.agg #[.bool f, .slice A ws.length c]) (.slice B bs.length d) W hS hB hn80 (fun b hb => Nat.le_trans (flat_mem hb) hfl) hlen
  have hcp0 := hb3.at_ 0 rfl
  have hcp1 := hb3.at_ 1 rfl
  clear hg
  go_wp2_with fail
  refine (hoc _ (VP.st _ _ _ _ hS0 hE) (VP.st _ _ _ _ hB0 hE)).mono ?_
  rintro e w3 ⟨u, rfl, hE3, hocc⟩
  clear hoc hcp0 hcp1
  have hb3 := hb3.ext hE3
  have hE := hE.tr hE3
  rcases hocc with ⟨hr, hf0, hf1, hs, sv, rfl, hO, hsl, hG⟩ | rfl
  case inr =>
    clear hb3 hP0 hB0 hS0 hE3
    go_wp2_with fail
    refine (hwk _).mono ?_
    rintro e w4 ⟨u, rfl, hE4, rfl⟩
    go_wp2
    go_ret
    exact Ret.mk (hE.tr hE4) rfl
  have HG := hide hG
  have hH := OwnH.pairs hO
  obtain ⟨A7, c7, hv7⟩ := own_form hO
  subst hv7
  have hne := (checkR_ok (rightS_check hr)).2.2.1
  have Hne := hide hne
  have hrng : ∀ h ∈ hs, -9223372036854775808 ≤ h.1 ∧ h.1 ≤ 9223372036854775807 := fun h hh => by
    obtain ⟨p, i, hi, hp, e, _⟩ := hG h hh
    rw [e]
    dsimp only
    omega
  have hmy : mayF fr = true := by unfold mayF; rw [decide_eq_true hf0, decide_eq_true hf1]; rfl
  obtain ⟨ps, has⟩ : ∃ ps, beginsC ws bs fr hs = ps := ⟨_, rfl⟩
  obtain ⟨es, hes⟩ : ∃ es, endsC bs fr hs = es := ⟨_, rfl⟩
  have hal : ps.length = hs.length := by rw [← has]; simp [beginsC]
  have hel : es.length = hs.length := by rw [← hes]; simp [endsC]
  have Hit : Hid (∀ (i : Nat) (h1 : i < hs.length) (h2 : i < ps.length) (h3 : i < es.length), ∃ q : Nat, ∃ hq : q < ws.length, hs[i].2 = (q : Int) ∧ ws[q] ≠ [] ∧ 1 ≤ ps[i].1 ∧ ps[i].1 ≤ 1001 ∧ 1 ≤ ps[i].2 ∧ ps[i].2 ≤ 1001 ∧ 1 ≤ es[i].1 ∧ es[i].1 ≤ 1001 ∧ 1 ≤ es[i].2 ∧ es[i].2 ≤ 1001 ∧ es[i].1 - ps[i].1 = (lfs (ws[q].take (ws[q].length - 1)) : Int) ∧ (lfs (ws[q].take (ws[q].length - 1)) = 0 → es[i].2 - ps[i].2 = (ws[q].length : Int) - 1)) := fun i h1 h2 h3 => by
    obtain ⟨p, q, hq, hp, e, hst⟩ := HG.out _ (List.getElem_mem h1)
    have hwne := Hne.out _ (List.getElem_mem hq)
    obtain ⟨la, ca, lb, cb, e1, e2, r⟩ := hit_math f ws[q] bs fr p hp (by omega) hwne hst
    have ea : ps[i] = (la, ca) := by
      simp only [← has, beginsC, List.getElem_map, e, hmy, if_true]
      rw [← e1]
      unfold lengthC
      rw [dif_neg (by omega)]
      simp
    have ee : es[i] = (lb, cb) := by
      simp only [← hes, endsC, List.getElem_map, e, hmy, if_true]
      exact e2
    rw [ea, ee, e]
    exact ⟨q, hq, rfl, hwne, r⟩
  clear HG Hne hne hG hmy
  have hbg := begins_any f ws bs fr hs (.agg #[.bool f, .slice A ws.length c]) (.slice B bs.length d) (.slice A7 hs.length c7) w3 (VP.st _ _ _ _ hS0 hE) (VP.st _ _ _ _ hB0 hE) hH (by omega) (by omega) hrng
  rw [has] at hbg
  have hcp0 := hb3.at_ 0 rfl
  have hcp1 := hb3.at_ 1 rfl
  clear hr hE3 hO
  go_wp2_with fail
  refine hbg.mono ?_
  rintro e w4 ⟨av, rfl, hE4, hav⟩
  have hb3 := hb3.ext hE4
  have hE := hE.tr hE4
  have hH := VP.st _ _ _ _ hH hE4
  clear hbg hcp0 hcp1 hE4
  have hav0 := hav
  obtain ⟨A9, c9, hv9, -⟩ := VPairs.form hav
  subst hv9
  have hen := ends_any bs fr hs (.slice B bs.length d) (.slice A7 hs.length c7) w4 (VP.st _ _ _ _ hB0 hE) hH (by omega) (by omega) hrng
  rw [hes] at hen
  clear hav
  go_wp2_with fail
  refine hen.mono ?_
  rintro e w5 ⟨ev, rfl, hE5, hev⟩
  have hb3 := hb3.ext hE5
  have hE := hE.tr hE5
  have hH := VP.st _ _ _ _ hH hE5
  have hav := VP.st _ _ _ _ hav0 hE5
  clear hen hE5 hav0 has hes hrng
  obtain ⟨A10, c10, hv10, -⟩ := VPairs.form hev
  subst hv10
  have hal' : (ps.length : Int) = (hs.length : Int) := by omega
  have hel' : (es.length : Int) = (hs.length : Int) := by omega
  have HE := hide hE
  have HH := hide hH
  have HA := hide hav
  have HV := hide hev
  have HB3 := hide hb3
  clear hE hH hav hev hb3
  go_wp2
  go_loopw [11] (fun i wr => ∃ k : Nat, k ≤ hs.length ∧ i = .int .i64 (k : Int) ∧ Hid (Below w5.heap.size w5 wr)) (fun i _ => hs.length - (intOf i).toNat)
  case atStart => exact ⟨0, by omega, rfl, hide (Ext.rf _)⟩
  case round =>
    obtain ⟨k, hk, rfl, HX⟩ := hrel
    generalize wr = wa at *
    have hXa : Ext w5 wa := HX.out
    have hE := HE.out.tr hXa
    by_cases hlt : k < hs.length
    · obtain ⟨q, hq, hq2, hwne, r1, r2, r3, r4, r5, r6, r7, r8, r9, r10⟩ := Hit.out k hlt (by omega) (by omega)
      have hP := VP.st _ _ _ _ hP0 hE
      have hH := VP.st _ _ _ _ HH.out hXa
      have hb3 := HB3.out.ext hXa
      have hka : k < ps.length := by omega
      have hke : k < es.length := by omega
      go_upto_region 13 with (fail)
      refine vregion 9 [] (by kernel_rfl) (by kernel_rfl) (fun _ _ _ _ _ h => h) ?_
      refine VWalk.det1 (Operand.tmp 3) (want_none rfl) (opd_frame 3 rfl (by kernel_rfl)) (fun ρ w hE h1 => by simp [execOp, h1, go_sem]; rfl) ?_
      refine VWalk.load1F (F := VParts ws) 37 _ rfl (want_none rfl) (opd_dep 0 61 0 rfl rfl rfl rfl) (fun _ => by kernel_rfl) (hb3.at_ 1 rfl) hP (ext_drew _) ?_
      refine VWalk.move _ rfl (want_none rfl) (opd_fr 7 rfl hH (ext_drew _) (by kernel_rfl)) ?_
      refine VWalk.move _ rfl (want_none rfl) (opd_frame 11 rfl (by kernel_rfl)) ?_
      refine VWalk.index2 40 48 _ _ .i64 k rfl Try.underlying40 (by kernel_rfl) (want_none rfl) (opd_dep 2 63 1 rfl rfl rfl rfl) (opd_dep 3 64 0 rfl rfl rfl rfl) hlt ?_
      refine VWalk.fptr2b 48 _ rfl (want_none rfl) (opd_dep 4 65 0 rfl rfl rfl rfl) (fun _ _ _ => by simp [go_sem] <;> rfl) ?_
      refine VWalk.loadP 3 _ rfl (want_none rfl) (opd_dep 5 66 0 rfl rfl rfl rfl) (fun _ => by kernel_rfl) ?_
      refine VWalk.headI hq2 ?_
      refine VWalk.indexP 37 22 _ _ .i64 q rfl Try.underlying37 (by kernel_rfl) (want_none rfl) (opd_dep 1 62 5 rfl rfl rfl rfl) (opd_dep 6 67 0 rfl rfl rfl rfl) hq ?_
      refine VWalk.loadP 22 _ rfl (want_none rfl) (opd_dep 7 68 0 rfl rfl rfl rfl) (fun _ => by kernel_rfl) ?_
      refine ⟨rfl, fun W13 hE13 => ?_⟩
      refine VFin.eq ?_  -- 0
      refine VFin.any fun v13_1 hv13_1 => ?_
      refine VFin.any fun v13_2 hv13_2 => ?_
      refine VFin.eq ?_  -- 3
      refine VFin.any fun v13_4 hv13_4 => ?_
      refine VFin.any fun v13_5 hv13_5 => ?_
      refine VFin.eq ?_  -- 6
      refine VFin.any fun v13_7 hv13_7 => ?_
      refine VFin.any fun v13_8 hv13_8 => ?_
      refine VFin.nil ?_
      simp only [Act.put, List.setIfInBounds_toArray, List.set_cons_zero, List.set_cons_succ]
      clear hv13_1 hv13_2 hv13_4 hv13_5 hv13_7
      have hH := VP.st _ _ _ _ hH ((ext_drew _).tr hE13)
      have hb3 := hb3.drew.ext hE13
      have hE := hE.tr ((ext_drew _).tr hE13)
      have hX13 : Ext w5 W13 := hXa.tr ((ext_drew _).tr hE13)
      have hw12 := hv13_8
      obtain ⟨A12, c12, hv12, hw1, hw2, hwx⟩ := VBytes.form hv13_8
      subst hv12
      have hwl : 0 < ws[q].length := List.length_pos_iff.2 hwne
      unfold maxLen at hw2
      obtain ⟨lf, hlf⟩ : ∃ lf, lfs (ws[q].take (ws[q].length - 1)) = lf := ⟨_, rfl⟩
      have hll : lf ≤ ws[q].length := by rw [← hlf]; have := lfs_le (ws[q].take (ws[q].length - 1)); rw [List.length_take] at this; omega
      rw [hlf] at r9 r10
      have Hlf := hide hlf
      have R9 := hide r9
      have R10 := hide r10
      have HE13 := hide hE
      have HX13 := hide hX13
      have HW12 := hide hw12
      clear hv13_8 hP hH hb3 hXa hwne hlf hq2 r9 r10 hE hX13 hw12
      go_wp2
      go_loopw [13, 14] (fun n j wr => ∃ x m : Nat, x < ws[q].length ∧ j = .int .i64 (x : Int) ∧ n = .int .i64 (m : Int) ∧ m ≤ x ∧ Hid (lfs (ws[q].take x) = m) ∧ Hid (Below W13.heap.size W13 wr)) (fun _ j _ => ws[q].length - (intOf j).toNat)
      case atStart => exact ⟨0, 0, hwl, rfl, rfl, by omega, hide (by simp [lfs]), hide (Ext.rf _)⟩
      case round =>
        obtain ⟨x, m, hx, rfl, rfl, hm, HM, HY⟩ := hrel
        have hY : Ext W13 wr := HY.out
        by_cases hlx : x < ws[q].length - 1
        · obtain ⟨b, off, rfl, hb, hcell⟩ := hwx hwl
          have hc3 := (hY.cell (p := ⟨b, off + x, none⟩) hb).trans (hcell x hx)
          have hsn := lfs_snoc ws[q] x hx
          rw [HM.out] at hsn
          have Hsn := hide hsn
          clear hcell hwx hsn hY
          obtain ⟨y, hy⟩ : ∃ y, ws[q][x].toNat = y := ⟨_, rfl⟩
          rw [hy] at Hsn hc3
          clear hy
          by_cases h10 : y = 10
          · have HM2 : Hid (lfs (ws[q].take (x + 1)) = m + 1) := by show _ = _; rw [Hsn.out, if_pos h10]
            subst h10
            clear Hsn HM
            go_wp2
            exact ⟨⟨x + 1, m + 1, by omega, by go_num, by go_num, by omega, HM2, HY⟩, by simp [intOf]; omega⟩
          · have HM2 : Hid (lfs (ws[q].take (x + 1)) = m) := by show _ = _; rw [Hsn.out, if_neg h10]; omega
            have h10' : ((y : Int) == 10) = false := by rw [beq_eq_false_iff_ne]; omega
            clear Hsn HM h10
            go_wp2
            exact ⟨⟨x + 1, m, by omega, by go_num, rfl, by omega, HM2, HY⟩, by simp [intOf]; omega⟩
        · obtain rfl : x = ws[q].length - 1 := by omega
          have hml : m = lf := by rw [← HM.out, Hlf.out]
          subst hml
          have hE := HE13.out.tr hY
          have hXr : Ext w5 wr := HX13.out.tr hY
          have hav : (VPairs ps).p (.slice A9 hs.length c9) wr := by rw [← hal]; exact VP.st _ _ _ _ HA.out hXr
          have hev : (VPairs es).p (.slice A10 hs.length c10) wr := by rw [← hel]; exact VP.st _ _ _ _ HV.out hXr
          have hw12 := VP.st _ _ _ _ HW12.out hY
          have hnm : es[k].1 - ps[k].1 = (m : Int) := R9.out
          clear hwx
          by_cases hm0 : m = 0
          · have hnc : es[k].2 - ps[k].2 = (ws[q].length : Int) - 1 := R10.out hm0
            have hm1 : (m : Int) = 0 := by omega
            go_upto_region 20 with (fail)
            refine vregion 50 [] (by kernel_rfl) (by kernel_rfl) (fun _ _ _ _ _ h => h) ?_
            refine VWalk.move _ rfl (want_none rfl) (opd_fr 9 rfl hav (ext_drew _) (by kernel_rfl)) ?_
            refine VWalk.move _ rfl (want_none rfl) (opd_frame 11 rfl (by kernel_rfl)) ?_
            refine VWalk.index2 44 27 _ _ .i64 k rfl Try.underlying44 (by kernel_rfl) (want_none rfl) (opd_dep 0 84 1 rfl rfl rfl rfl) (opd_dep 1 85 0 rfl rfl rfl rfl) hka ?_
            refine VWalk.fptr2a 27 _ rfl (want_none rfl) (opd_dep 2 86 0 rfl rfl rfl rfl) (fun _ _ _ => by simp [go_sem] <;> rfl) ?_
            refine VWalk.loadP 3 _ rfl (want_none rfl) (opd_dep 3 87 0 rfl rfl rfl rfl) (fun _ => by kernel_rfl) ?_
            refine VWalk.lssF _ _ _ _ rfl (want_none rfl) (opd_dep 4 88 0 rfl rfl rfl rfl) (opd_const _) (by omega) ?_
            refine VWalk.move _ rfl (want_none rfl) (opd_dep 5 89 0 rfl rfl rfl rfl) ?_
            refine VWalk.move _ rfl (want_ff 6 90 0 rfl (by kernel_rfl) rfl rfl rfl rfl) (opd_fr 9 rfl hav (ext_drew _) (by kernel_rfl)) ?_
            refine VWalk.move _ rfl (want_ff 6 90 1 rfl (by kernel_rfl) rfl rfl rfl rfl) (opd_frame 11 rfl (by kernel_rfl)) ?_
            refine VWalk.index2 44 27 _ _ .i64 k rfl Try.underlying44 (by kernel_rfl) (want_ff 6 90 2 rfl (by kernel_rfl) rfl rfl rfl rfl) (opd_dep 7 91 1 rfl rfl rfl rfl) (opd_dep 8 92 0 rfl rfl rfl rfl) hka ?_
            refine VWalk.fptr2b 27 _ rfl (want_ff 6 90 3 rfl (by kernel_rfl) rfl rfl rfl rfl) (opd_dep 9 93 0 rfl rfl rfl rfl) (fun _ _ _ => by simp [go_sem] <;> rfl) ?_
            refine VWalk.loadP 3 _ rfl (want_ff 6 90 4 rfl (by kernel_rfl) rfl rfl rfl rfl) (opd_dep 10 94 0 rfl rfl rfl rfl) (fun _ => by kernel_rfl) ?_
            refine VWalk.lssF _ _ _ _ rfl (want_ff 6 90 5 rfl (by kernel_rfl) rfl rfl rfl rfl) (opd_dep 11 95 0 rfl rfl rfl rfl) (opd_const _) (by omega) ?_
            refine VWalk.pickF _ _ _ rfl (want_none rfl) (opd_dep 6 90 6 rfl rfl rfl rfl) (opd_dep 12 96 0 rfl rfl rfl rfl) ?_
            refine VWalk.move _ rfl (want_none rfl) (opd_dep 13 97 0 rfl rfl rfl rfl) ?_
            refine VWalk.move _ rfl (want_ff 14 98 0 rfl (by kernel_rfl) rfl rfl rfl rfl) (opd_fr 10 rfl hev (ext_drew _) (by kernel_rfl)) ?_
            refine VWalk.move _ rfl (want_ff 14 98 1 rfl (by kernel_rfl) rfl rfl rfl rfl) (opd_frame 11 rfl (by kernel_rfl)) ?_
            refine VWalk.index2 44 27 _ _ .i64 k rfl Try.underlying44 (by kernel_rfl) (want_ff 14 98 2 rfl (by kernel_rfl) rfl rfl rfl rfl) (opd_dep 15 99 1 rfl rfl rfl rfl) (opd_dep 16 100 0 rfl rfl rfl rfl) hke ?_
            refine VWalk.fptr2a 27 _ rfl (want_ff 14 98 3 rfl (by kernel_rfl) rfl rfl rfl rfl) (opd_dep 17 101 0 rfl rfl rfl rfl) (fun _ _ _ => by simp [go_sem] <;> rfl) ?_
            refine VWalk.loadP 3 _ rfl (want_ff 14 98 4 rfl (by kernel_rfl) rfl rfl rfl rfl) (opd_dep 18 102 0 rfl rfl rfl rfl) (fun _ => by kernel_rfl) ?_
            refine VWalk.move _ rfl (want_ff 14 98 5 rfl (by kernel_rfl) rfl rfl rfl rfl) (opd_fr 9 rfl hav (ext_drew _) (by kernel_rfl)) ?_
            refine VWalk.move _ rfl (want_ff 14 98 6 rfl (by kernel_rfl) rfl rfl rfl rfl) (opd_frame 11 rfl (by kernel_rfl)) ?_
            refine VWalk.index2 44 27 _ _ .i64 k rfl Try.underlying44 (by kernel_rfl) (want_ff 14 98 7 rfl (by kernel_rfl) rfl rfl rfl rfl) (opd_dep 20 104 1 rfl rfl rfl rfl) (opd_dep 21 105 0 rfl rfl rfl rfl) hka ?_
            refine VWalk.fptr2a 27 _ rfl (want_ff 14 98 8 rfl (by kernel_rfl) rfl rfl rfl rfl) (opd_dep 22 106 0 rfl rfl rfl rfl) (fun _ _ _ => by simp [go_sem] <;> rfl) ?_
            refine VWalk.loadP 3 _ rfl (want_ff 14 98 9 rfl (by kernel_rfl) rfl rfl rfl rfl) (opd_dep 23 107 0 rfl rfl rfl rfl) (fun _ => by kernel_rfl) ?_
            refine VWalk.sub64 _ _ _ _ rfl (want_ff 14 98 10 rfl (by kernel_rfl) rfl rfl rfl rfl) (opd_dep 19 103 5 rfl rfl rfl rfl) (opd_dep 24 108 0 rfl rfl rfl rfl) (by omega) ?_
            refine VWalk.move _ rfl (want_ff 14 98 11 rfl (by kernel_rfl) rfl rfl rfl rfl) (opd_frame 13 rfl (by kernel_rfl)) ?_
            refine VWalk.neT _ _ _ _ rfl (want_ff 14 98 12 rfl (by kernel_rfl) rfl rfl rfl rfl) (opd_dep 25 109 1 rfl rfl rfl rfl) (opd_dep 26 110 0 rfl rfl rfl rfl) hnm ?_
            refine VWalk.pickF _ _ _ rfl (want_none rfl) (opd_dep 14 98 13 rfl rfl rfl rfl) (opd_dep 27 111 0 rfl rfl rfl rfl) ?_
            refine VWalk.move _ rfl (want_none rfl) (opd_dep 28 112 0 rfl rfl rfl rfl) ?_
            refine VWalk.move _ rfl (want_ff 29 113 0 rfl (by kernel_rfl) rfl rfl rfl rfl) (opd_frame 13 rfl (by kernel_rfl)) ?_
            refine VWalk.eqT _ _ _ _ rfl (want_ff 29 113 1 rfl (by kernel_rfl) rfl rfl rfl rfl) (opd_dep 30 114 0 rfl rfl rfl rfl) (opd_const _) hm1 ?_
            refine VWalk.move _ rfl (want_ff 29 113 2 rfl (by kernel_rfl) rfl rfl rfl rfl) (opd_dep 31 115 0 rfl rfl rfl rfl) ?_
            refine VWalk.move _ rfl (want_tt 32 116 0 rfl (by kernel_rfl) rfl rfl rfl rfl) (opd_fr 10 rfl hev (ext_drew _) (by kernel_rfl)) ?_
            refine VWalk.move _ rfl (want_tt 32 116 1 rfl (by kernel_rfl) rfl rfl rfl rfl) (opd_frame 11 rfl (by kernel_rfl)) ?_
            refine VWalk.index2 44 27 _ _ .i64 k rfl Try.underlying44 (by kernel_rfl) (want_tt 32 116 2 rfl (by kernel_rfl) rfl rfl rfl rfl) (opd_dep 33 117 1 rfl rfl rfl rfl) (opd_dep 34 118 0 rfl rfl rfl rfl) hke ?_
            refine VWalk.fptr2b 27 _ rfl (want_tt 32 116 3 rfl (by kernel_rfl) rfl rfl rfl rfl) (opd_dep 35 119 0 rfl rfl rfl rfl) (fun _ _ _ => by simp [go_sem] <;> rfl) ?_
            refine VWalk.loadP 3 _ rfl (want_tt 32 116 4 rfl (by kernel_rfl) rfl rfl rfl rfl) (opd_dep 36 120 0 rfl rfl rfl rfl) (fun _ => by kernel_rfl) ?_
            refine VWalk.move _ rfl (want_tt 32 116 5 rfl (by kernel_rfl) rfl rfl rfl rfl) (opd_fr 9 rfl hav (ext_drew _) (by kernel_rfl)) ?_
            refine VWalk.move _ rfl (want_tt 32 116 6 rfl (by kernel_rfl) rfl rfl rfl rfl) (opd_frame 11 rfl (by kernel_rfl)) ?_
            refine VWalk.index2 44 27 _ _ .i64 k rfl Try.underlying44 (by kernel_rfl) (want_tt 32 116 7 rfl (by kernel_rfl) rfl rfl rfl rfl) (opd_dep 38 122 1 rfl rfl rfl rfl) (opd_dep 39 123 0 rfl rfl rfl rfl) hka ?_
            refine VWalk.fptr2b 27 _ rfl (want_tt 32 116 8 rfl (by kernel_rfl) rfl rfl rfl rfl) (opd_dep 40 124 0 rfl rfl rfl rfl) (fun _ _ _ => by simp [go_sem] <;> rfl) ?_
            refine VWalk.loadP 3 _ rfl (want_tt 32 116 9 rfl (by kernel_rfl) rfl rfl rfl rfl) (opd_dep 41 125 0 rfl rfl rfl rfl) (fun _ => by kernel_rfl) ?_
            refine VWalk.sub64 _ _ _ _ rfl (want_tt 32 116 10 rfl (by kernel_rfl) rfl rfl rfl rfl) (opd_dep 37 121 5 rfl rfl rfl rfl) (opd_dep 42 126 0 rfl rfl rfl rfl) (by omega) ?_
            refine VWalk.move _ rfl (want_tt 32 116 11 rfl (by kernel_rfl) rfl rfl rfl rfl) (opd_fr 12 rfl hw12 (ext_drew _) (by kernel_rfl)) ?_
            refine VWalk.lenB 22 5 _ rfl Try.underlying22 (want_tt 32 116 12 rfl (by kernel_rfl) rfl rfl rfl rfl) (opd_dep 44 128 0 rfl rfl rfl rfl) ?_
            refine VWalk.sub64 _ _ _ _ rfl (want_tt 32 116 13 rfl (by kernel_rfl) rfl rfl rfl rfl) (opd_dep 45 129 0 rfl rfl rfl rfl) (opd_const _) (by omega) ?_
            refine VWalk.neT _ _ _ _ rfl (want_tt 32 116 14 rfl (by kernel_rfl) rfl rfl rfl rfl) (opd_dep 43 127 3 rfl rfl rfl rfl) (opd_dep 46 130 0 rfl rfl rfl rfl) hnc ?_
            refine VWalk.pickT _ _ _ rfl (want_ff 29 113 18 rfl (by kernel_rfl) rfl rfl rfl rfl) (opd_dep 32 116 15 rfl rfl rfl rfl) (opd_dep 47 131 0 rfl rfl rfl rfl) ?_
            refine VWalk.pickF _ _ _ rfl (want_none rfl) (opd_dep 29 113 19 rfl rfl rfl rfl) (opd_dep 48 132 0 rfl rfl rfl rfl) ?_
            refine ⟨rfl, fun W20 hE20 => ?_⟩
            refine VFin.any fun v20_0 hv20_0 => ?_
            refine VFin.eq ?_  -- 1
            refine VFin.any fun v20_2 hv20_2 => ?_
            refine VFin.any fun v20_3 hv20_3 => ?_
            refine VFin.eq ?_  -- 4
            refine VFin.eq ?_  -- 5
            refine VFin.eq ?_  -- 6
            refine VFin.any fun v20_7 hv20_7 => ?_
            refine VFin.eq ?_  -- 8
            refine VFin.any fun v20_9 hv20_9 => ?_
            refine VFin.any fun v20_10 hv20_10 => ?_
            refine VFin.eq ?_  -- 11
            refine VFin.eq ?_  -- 12
            refine VFin.eq ?_  -- 13
            refine VFin.eq ?_  -- 14
            refine VFin.any fun v20_15 hv20_15 => ?_
            refine VFin.eq ?_  -- 16
            refine VFin.any fun v20_17 hv20_17 => ?_
            refine VFin.any fun v20_18 hv20_18 => ?_
            refine VFin.eq ?_  -- 19
            refine VFin.any fun v20_20 hv20_20 => ?_
            refine VFin.eq ?_  -- 21
            refine VFin.any fun v20_22 hv20_22 => ?_
            refine VFin.any fun v20_23 hv20_23 => ?_
            refine VFin.eq ?_  -- 24
            refine VFin.eq ?_  -- 25
            refine VFin.eq ?_  -- 26
            refine VFin.eq ?_  -- 27
            refine VFin.eq ?_  -- 28
            refine VFin.eq ?_  -- 29
            refine VFin.eq ?_  -- 30
            refine VFin.eq ?_  -- 31
            refine VFin.eq ?_  -- 32
            refine VFin.any fun v20_33 hv20_33 => ?_
            refine VFin.eq ?_  -- 34
            refine VFin.any fun v20_35 hv20_35 => ?_
            refine VFin.any fun v20_36 hv20_36 => ?_
            refine VFin.eq ?_  -- 37
            refine VFin.any fun v20_38 hv20_38 => ?_
            refine VFin.eq ?_  -- 39
            refine VFin.any fun v20_40 hv20_40 => ?_
            refine VFin.any fun v20_41 hv20_41 => ?_
            refine VFin.eq ?_  -- 42
            refine VFin.eq ?_  -- 43
            refine VFin.any fun v20_44 hv20_44 => ?_
            refine VFin.eq ?_  -- 45
            refine VFin.eq ?_  -- 46
            refine VFin.eq ?_  -- 47
            refine VFin.eq ?_  -- 48
            refine VFin.eq ?_  -- 49
            refine VFin.nil ?_
            simp only [Act.put, List.setIfInBounds_toArray, List.set_cons_zero, List.set_cons_succ]
            clear hv20_0 hv20_2 hv20_3 hv20_7 hv20_9 hv20_10 hv20_15 hv20_17 hv20_18 hv20_20 hv20_22 hv20_23 hv20_33 hv20_35 hv20_36 hv20_38 hv20_40 hv20_41 hv20_44
            have hav := VP.st _ _ _ _ hav ((ext_drew _).tr hE20)
            have hev := VP.st _ _ _ _ hev ((ext_drew _).tr hE20)
            have hw12 := VP.st _ _ _ _ hw12 ((ext_drew _).tr hE20)
            have hE := hE.tr ((ext_drew _).tr hE20)
            have HX2 : Hid (Below w5.heap.size w5 W20) := hide (hXr.tr ((ext_drew _).tr hE20))
            clear hav hev hw12 hnm hnc hm1 hXr hE
            go_wp2
            exact ⟨⟨k + 1, by omega, by go_num, HX2⟩, by simp [intOf]; omega⟩
          · have hm1 : ¬ (m : Int) = 0 := by omega
            go_upto_region 20 with (fail)
            refine vregion 50 [] (by kernel_rfl) (by kernel_rfl) (fun _ _ _ _ _ h => h) ?_
            refine VWalk.move _ rfl (want_none rfl) (opd_fr 9 rfl hav (ext_drew _) (by kernel_rfl)) ?_
            refine VWalk.move _ rfl (want_none rfl) (opd_frame 11 rfl (by kernel_rfl)) ?_
            refine VWalk.index2 44 27 _ _ .i64 k rfl Try.underlying44 (by kernel_rfl) (want_none rfl) (opd_dep 0 84 1 rfl rfl rfl rfl) (opd_dep 1 85 0 rfl rfl rfl rfl) hka ?_
            refine VWalk.fptr2a 27 _ rfl (want_none rfl) (opd_dep 2 86 0 rfl rfl rfl rfl) (fun _ _ _ => by simp [go_sem] <;> rfl) ?_
            refine VWalk.loadP 3 _ rfl (want_none rfl) (opd_dep 3 87 0 rfl rfl rfl rfl) (fun _ => by kernel_rfl) ?_
            refine VWalk.lssF _ _ _ _ rfl (want_none rfl) (opd_dep 4 88 0 rfl rfl rfl rfl) (opd_const _) (by omega) ?_
            refine VWalk.move _ rfl (want_none rfl) (opd_dep 5 89 0 rfl rfl rfl rfl) ?_
            refine VWalk.move _ rfl (want_ff 6 90 0 rfl (by kernel_rfl) rfl rfl rfl rfl) (opd_fr 9 rfl hav (ext_drew _) (by kernel_rfl)) ?_
            refine VWalk.move _ rfl (want_ff 6 90 1 rfl (by kernel_rfl) rfl rfl rfl rfl) (opd_frame 11 rfl (by kernel_rfl)) ?_
            refine VWalk.index2 44 27 _ _ .i64 k rfl Try.underlying44 (by kernel_rfl) (want_ff 6 90 2 rfl (by kernel_rfl) rfl rfl rfl rfl) (opd_dep 7 91 1 rfl rfl rfl rfl) (opd_dep 8 92 0 rfl rfl rfl rfl) hka ?_
            refine VWalk.fptr2b 27 _ rfl (want_ff 6 90 3 rfl (by kernel_rfl) rfl rfl rfl rfl) (opd_dep 9 93 0 rfl rfl rfl rfl) (fun _ _ _ => by simp [go_sem] <;> rfl) ?_
            refine VWalk.loadP 3 _ rfl (want_ff 6 90 4 rfl (by kernel_rfl) rfl rfl rfl rfl) (opd_dep 10 94 0 rfl rfl rfl rfl) (fun _ => by kernel_rfl) ?_
            refine VWalk.lssF _ _ _ _ rfl (want_ff 6 90 5 rfl (by kernel_rfl) rfl rfl rfl rfl) (opd_dep 11 95 0 rfl rfl rfl rfl) (opd_const _) (by omega) ?_
            refine VWalk.pickF _ _ _ rfl (want_none rfl) (opd_dep 6 90 6 rfl rfl rfl rfl) (opd_dep 12 96 0 rfl rfl rfl rfl) ?_
            refine VWalk.move _ rfl (want_none rfl) (opd_dep 13 97 0 rfl rfl rfl rfl) ?_
            refine VWalk.move _ rfl (want_ff 14 98 0 rfl (by kernel_rfl) rfl rfl rfl rfl) (opd_fr 10 rfl hev (ext_drew _) (by kernel_rfl)) ?_
            refine VWalk.move _ rfl (want_ff 14 98 1 rfl (by kernel_rfl) rfl rfl rfl rfl) (opd_frame 11 rfl (by kernel_rfl)) ?_
            refine VWalk.index2 44 27 _ _ .i64 k rfl Try.underlying44 (by kernel_rfl) (want_ff 14 98 2 rfl (by kernel_rfl) rfl rfl rfl rfl) (opd_dep 15 99 1 rfl rfl rfl rfl) (opd_dep 16 100 0 rfl rfl rfl rfl) hke ?_
            refine VWalk.fptr2a 27 _ rfl (want_ff 14 98 3 rfl (by kernel_rfl) rfl rfl rfl rfl) (opd_dep 17 101 0 rfl rfl rfl rfl) (fun _ _ _ => by simp [go_sem] <;> rfl) ?_
            refine VWalk.loadP 3 _ rfl (want_ff 14 98 4 rfl (by kernel_rfl) rfl rfl rfl rfl) (opd_dep 18 102 0 rfl rfl rfl rfl) (fun _ => by kernel_rfl) ?_
            refine VWalk.move _ rfl (want_ff 14 98 5 rfl (by kernel_rfl) rfl rfl rfl rfl) (opd_fr 9 rfl hav (ext_drew _) (by kernel_rfl)) ?_
            refine VWalk.move _ rfl (want_ff 14 98 6 rfl (by kernel_rfl) rfl rfl rfl rfl) (opd_frame 11 rfl (by kernel_rfl)) ?_
            refine VWalk.index2 44 27 _ _ .i64 k rfl Try.underlying44 (by kernel_rfl) (want_ff 14 98 7 rfl (by kernel_rfl) rfl rfl rfl rfl) (opd_dep 20 104 1 rfl rfl rfl rfl) (opd_dep 21 105 0 rfl rfl rfl rfl) hka ?_
            refine VWalk.fptr2a 27 _ rfl (want_ff 14 98 8 rfl (by kernel_rfl) rfl rfl rfl rfl) (opd_dep 22 106 0 rfl rfl rfl rfl) (fun _ _ _ => by simp [go_sem] <;> rfl) ?_
            refine VWalk.loadP 3 _ rfl (want_ff 14 98 9 rfl (by kernel_rfl) rfl rfl rfl rfl) (opd_dep 23 107 0 rfl rfl rfl rfl) (fun _ => by kernel_rfl) ?_
            refine VWalk.sub64 _ _ _ _ rfl (want_ff 14 98 10 rfl (by kernel_rfl) rfl rfl rfl rfl) (opd_dep 19 103 5 rfl rfl rfl rfl) (opd_dep 24 108 0 rfl rfl rfl rfl) (by omega) ?_
            refine VWalk.move _ rfl (want_ff 14 98 11 rfl (by kernel_rfl) rfl rfl rfl rfl) (opd_frame 13 rfl (by kernel_rfl)) ?_
            refine VWalk.neT _ _ _ _ rfl (want_ff 14 98 12 rfl (by kernel_rfl) rfl rfl rfl rfl) (opd_dep 25 109 1 rfl rfl rfl rfl) (opd_dep 26 110 0 rfl rfl rfl rfl) hnm ?_
            refine VWalk.pickF _ _ _ rfl (want_none rfl) (opd_dep 14 98 13 rfl rfl rfl rfl) (opd_dep 27 111 0 rfl rfl rfl rfl) ?_
            refine VWalk.move _ rfl (want_none rfl) (opd_dep 28 112 0 rfl rfl rfl rfl) ?_
            refine VWalk.move _ rfl (want_ff 29 113 0 rfl (by kernel_rfl) rfl rfl rfl rfl) (opd_frame 13 rfl (by kernel_rfl)) ?_
            refine VWalk.eqT' _ _ _ _ rfl (want_ff 29 113 1 rfl (by kernel_rfl) rfl rfl rfl rfl) (opd_dep 30 114 0 rfl rfl rfl rfl) (opd_const _) hm1 ?_
            refine VWalk.move _ rfl (want_ff 29 113 2 rfl (by kernel_rfl) rfl rfl rfl rfl) (opd_dep 31 115 0 rfl rfl rfl rfl) ?_
            refine VWalk.skip (want_ft 32 116 0 rfl (by kernel_rfl) rfl rfl rfl rfl) ?_
            refine VWalk.skip (want_ft 32 116 1 rfl (by kernel_rfl) rfl rfl rfl rfl) ?_
            refine VWalk.skip (want_ft 32 116 2 rfl (by kernel_rfl) rfl rfl rfl rfl) ?_
            refine VWalk.skip (want_ft 32 116 3 rfl (by kernel_rfl) rfl rfl rfl rfl) ?_
            refine VWalk.skip (want_ft 32 116 4 rfl (by kernel_rfl) rfl rfl rfl rfl) ?_
            refine VWalk.skip (want_ft 32 116 5 rfl (by kernel_rfl) rfl rfl rfl rfl) ?_
            refine VWalk.skip (want_ft 32 116 6 rfl (by kernel_rfl) rfl rfl rfl rfl) ?_
            refine VWalk.skip (want_ft 32 116 7 rfl (by kernel_rfl) rfl rfl rfl rfl) ?_
            refine VWalk.skip (want_ft 32 116 8 rfl (by kernel_rfl) rfl rfl rfl rfl) ?_
            refine VWalk.skip (want_ft 32 116 9 rfl (by kernel_rfl) rfl rfl rfl rfl) ?_
            refine VWalk.skip (want_ft 32 116 10 rfl (by kernel_rfl) rfl rfl rfl rfl) ?_
            refine VWalk.skip (want_ft 32 116 11 rfl (by kernel_rfl) rfl rfl rfl rfl) ?_
            refine VWalk.skip (want_ft 32 116 12 rfl (by kernel_rfl) rfl rfl rfl rfl) ?_
            refine VWalk.skip (want_ft 32 116 13 rfl (by kernel_rfl) rfl rfl rfl rfl) ?_
            refine VWalk.skip (want_ft 32 116 14 rfl (by kernel_rfl) rfl rfl rfl rfl) ?_
            refine VWalk.pickF _ _ _ rfl (want_ff 29 113 18 rfl (by kernel_rfl) rfl rfl rfl rfl) (opd_dep 32 116 15 rfl rfl rfl rfl) (opd_const _) ?_
            refine VWalk.pickF _ _ _ rfl (want_none rfl) (opd_dep 29 113 19 rfl rfl rfl rfl) (opd_dep 48 132 0 rfl rfl rfl rfl) ?_
            refine ⟨rfl, fun W20 hE20 => ?_⟩
            refine VFin.any fun v20_0 hv20_0 => ?_
            refine VFin.eq ?_  -- 1
            refine VFin.any fun v20_2 hv20_2 => ?_
            refine VFin.any fun v20_3 hv20_3 => ?_
            refine VFin.eq ?_  -- 4
            refine VFin.eq ?_  -- 5
            refine VFin.eq ?_  -- 6
            refine VFin.any fun v20_7 hv20_7 => ?_
            refine VFin.eq ?_  -- 8
            refine VFin.any fun v20_9 hv20_9 => ?_
            refine VFin.any fun v20_10 hv20_10 => ?_
            refine VFin.eq ?_  -- 11
            refine VFin.eq ?_  -- 12
            refine VFin.eq ?_  -- 13
            refine VFin.eq ?_  -- 14
            refine VFin.any fun v20_15 hv20_15 => ?_
            refine VFin.eq ?_  -- 16
            refine VFin.any fun v20_17 hv20_17 => ?_
            refine VFin.any fun v20_18 hv20_18 => ?_
            refine VFin.eq ?_  -- 19
            refine VFin.any fun v20_20 hv20_20 => ?_
            refine VFin.eq ?_  -- 21
            refine VFin.any fun v20_22 hv20_22 => ?_
            refine VFin.any fun v20_23 hv20_23 => ?_
            refine VFin.eq ?_  -- 24
            refine VFin.eq ?_  -- 25
            refine VFin.eq ?_  -- 26
            refine VFin.eq ?_  -- 27
            refine VFin.eq ?_  -- 28
            refine VFin.eq ?_  -- 29
            refine VFin.eq ?_  -- 30
            refine VFin.eq ?_  -- 31
            refine VFin.eq ?_  -- 32
            refine VFin.eq ?_  -- 33
            refine VFin.eq ?_  -- 34
            refine VFin.eq ?_  -- 35
            refine VFin.eq ?_  -- 36
            refine VFin.eq ?_  -- 37
            refine VFin.eq ?_  -- 38
            refine VFin.eq ?_  -- 39
            refine VFin.eq ?_  -- 40
            refine VFin.eq ?_  -- 41
            refine VFin.eq ?_  -- 42
            refine VFin.eq ?_  -- 43
            refine VFin.eq ?_  -- 44
            refine VFin.eq ?_  -- 45
            refine VFin.eq ?_  -- 46
            refine VFin.eq ?_  -- 47
            refine VFin.eq ?_  -- 48
            refine VFin.eq ?_  -- 49
            refine VFin.nil ?_
            simp only [Act.put, List.setIfInBounds_toArray, List.set_cons_zero, List.set_cons_succ]
            clear hv20_0 hv20_2 hv20_3 hv20_7 hv20_9 hv20_10 hv20_15 hv20_17 hv20_18 hv20_20 hv20_22 hv20_23
            have hav := VP.st _ _ _ _ hav ((ext_drew _).tr hE20)
            have hev := VP.st _ _ _ _ hev ((ext_drew _).tr hE20)
            have hw12 := VP.st _ _ _ _ hw12 ((ext_drew _).tr hE20)
            have hE := hE.tr ((ext_drew _).tr hE20)
            have HX2 : Hid (Below w5.heap.size w5 W20) := hide (hXr.tr ((ext_drew _).tr hE20))
            clear hav hev hw12 hnm hm1 hXr hE
            go_wp2
            exact ⟨⟨k + 1, by omega, by go_num, HX2⟩, by simp [intOf]; omega⟩
    · obtain rfl : k = hs.length := by omega
      have hB := VP.st _ _ _ _ hB0 hE
      have hX6 : Ext wa (wa.alloc (.cells #[.int .i64 fr, .int .i64 0, .int .i64 (fr + bs.length + 1), .int .i64 0, .int .i64 (fr - 1), .int .i64 0] 48)) := ext_alloc _ _
      have hH3 := PRow.pairs (PRow.three fr 0 (fr + bs.length + 1) 0 (fr - 1) 0) (Box.new wa 48 _) (n := 3) rfl (by decide)
      have hen := ends_any bs fr [(fr, 0), (fr + bs.length + 1, 0), (fr - 1, 0)] (.slice B bs.length d) _ _ (VP.st _ _ _ _ hB hX6) hH3 (by omega) (by simp) (fun h hh => by
        simp only [List.mem_cons, List.not_mem_nil, or_false] at hh
        rcases hh with rfl | rfl | rfl <;> (dsimp only; omega))
      rw [ends_none] at hen
      clear hB hH3
      go_wp2_with fail
      refine hen.mono ?_
      rintro e w7 ⟨nv, rfl, hE7, hnv⟩
      have hE := hE.tr (hX6.tr hE7)
      clear hen hX6 hE7
      obtain ⟨A15, c15, hv15, -⟩ := VPairs.form hnv
      subst hv15
      go_upto_region 23 with (fail)
      refine vregion0 27 (by kernel_rfl) ?_
      refine VWalk.move _ rfl (want_none rfl) (opd_frame 15 rfl (by kernel_rfl)) ?_
      refine VWalk.det1 (r := .int .i64 3) (Operand.tmp 149) (want_none rfl) (opd_dep 0 149 0 rfl rfl rfl rfl) (fun ρ w hE h1 => by simp [execOp, h1, go_sem]) ?_
      refine VWalk.eqT _ _ _ _ rfl (want_none rfl) (opd_dep 1 150 0 rfl rfl rfl rfl) (opd_const _) rfl ?_
      refine VWalk.move _ rfl (want_none rfl) (opd_dep 2 151 0 rfl rfl rfl rfl) ?_
      refine VWalk.move _ rfl (want_tt 3 152 0 rfl (by kernel_rfl) rfl rfl rfl rfl) (opd_fr 15 rfl hnv (Ext.rf _) (by kernel_rfl)) ?_
      refine VWalk.index2 44 27 _ _ .i64 0 rfl Try.underlying44 (by kernel_rfl) (want_tt 3 152 1 rfl (by kernel_rfl) rfl rfl rfl rfl) (opd_dep 4 153 0 rfl rfl rfl rfl) (opd_const _) (by decide) ?_
      refine VWalk.load2 27 _ rfl (want_tt 3 152 2 rfl (by kernel_rfl) rfl rfl rfl rfl) (opd_dep 5 154 0 rfl rfl rfl rfl) Try.underlying27 rfl (by kernel_rfl) ?_
      refine VWalk.det0 (r := plcV (0, 0)) (want_tt 3 152 3 rfl (by kernel_rfl) rfl rfl rfl rfl) (fun ρ w => by simp [execOp, go_sem]; rfl) ?_
      refine VWalk.eqS _ _ _ _ rfl rfl (want_tt 3 152 4 rfl (by kernel_rfl) rfl rfl rfl rfl) (opd_dep 6 155 1 rfl rfl rfl rfl) (opd_dep 7 156 0 rfl rfl rfl rfl) rfl ?_
      refine VWalk.pickT _ _ _ rfl (want_none rfl) (opd_dep 3 152 5 rfl rfl rfl rfl) (opd_dep 8 157 0 rfl rfl rfl rfl) ?_
      refine VWalk.move _ rfl (want_none rfl) (opd_dep 9 158 0 rfl rfl rfl rfl) ?_
      refine VWalk.move _ rfl (want_tt 10 159 0 rfl (by kernel_rfl) rfl rfl rfl rfl) (opd_fr 15 rfl hnv (Ext.rf _) (by kernel_rfl)) ?_
      refine VWalk.index2 44 27 _ _ .i64 1 rfl Try.underlying44 (by kernel_rfl) (want_tt 10 159 1 rfl (by kernel_rfl) rfl rfl rfl rfl) (opd_dep 11 160 0 rfl rfl rfl rfl) (opd_const _) (by decide) ?_
      refine VWalk.load2 27 _ rfl (want_tt 10 159 2 rfl (by kernel_rfl) rfl rfl rfl rfl) (opd_dep 12 161 0 rfl rfl rfl rfl) Try.underlying27 rfl (by kernel_rfl) ?_
      refine VWalk.det0 (r := plcV (0, 0)) (want_tt 10 159 3 rfl (by kernel_rfl) rfl rfl rfl rfl) (fun ρ w => by simp [execOp, go_sem]; rfl) ?_
      refine VWalk.eqS _ _ _ _ rfl rfl (want_tt 10 159 4 rfl (by kernel_rfl) rfl rfl rfl rfl) (opd_dep 13 162 1 rfl rfl rfl rfl) (opd_dep 14 163 0 rfl rfl rfl rfl) rfl ?_
      refine VWalk.pickT _ _ _ rfl (want_none rfl) (opd_dep 10 159 5 rfl rfl rfl rfl) (opd_dep 15 164 0 rfl rfl rfl rfl) ?_
      refine VWalk.move _ rfl (want_none rfl) (opd_dep 16 165 0 rfl rfl rfl rfl) ?_
      refine VWalk.move _ rfl (want_tt 17 166 0 rfl (by kernel_rfl) rfl rfl rfl rfl) (opd_fr 15 rfl hnv (Ext.rf _) (by kernel_rfl)) ?_
      refine VWalk.index2 44 27 _ _ .i64 2 rfl Try.underlying44 (by kernel_rfl) (want_tt 17 166 1 rfl (by kernel_rfl) rfl rfl rfl rfl) (opd_dep 18 167 0 rfl rfl rfl rfl) (opd_const _) (by decide) ?_
      refine VWalk.load2 27 _ rfl (want_tt 17 166 2 rfl (by kernel_rfl) rfl rfl rfl rfl) (opd_dep 19 168 0 rfl rfl rfl rfl) Try.underlying27 rfl (by kernel_rfl) ?_
      refine VWalk.det0 (r := plcV (0, 0)) (want_tt 17 166 3 rfl (by kernel_rfl) rfl rfl rfl rfl) (fun ρ w => by simp [execOp, go_sem]; rfl) ?_
      refine VWalk.eqS _ _ _ _ rfl rfl (want_tt 17 166 4 rfl (by kernel_rfl) rfl rfl rfl rfl) (opd_dep 20 169 1 rfl rfl rfl rfl) (opd_dep 21 170 0 rfl rfl rfl rfl) rfl ?_
      refine VWalk.pickT _ _ _ rfl (want_none rfl) (opd_dep 17 166 5 rfl rfl rfl rfl) (opd_dep 22 171 0 rfl rfl rfl rfl) ?_
      refine VWalk.move _ rfl (want_none rfl) (opd_dep 23 172 0 rfl rfl rfl rfl) ?_
      refine VWalk.call0 6 _ rfl (enters_of Try.func6 (by kernel_rfl) rfl) (want_tt 24 173 0 rfl (by kernel_rfl) rfl rfl rfl rfl) (fun w _ => hwk w) ?_
      refine VWalk.headT (by decide) ?_
      refine VWalk.pickT _ _ _ rfl (want_none rfl) (opd_dep 24 173 1 rfl rfl rfl rfl) (opd_dep 25 174 0 rfl rfl rfl rfl) ?_
      refine ⟨rfl, fun W23 hE23 => ?_⟩
      refine VFin.eq ?_  -- 0
      refine VFin.eq ?_  -- 1
      refine VFin.eq ?_  -- 2
      refine VFin.eq ?_  -- 3
      refine VFin.any fun v23_4 hv23_4 => ?_
      refine VFin.any fun v23_5 hv23_5 => ?_
      refine VFin.eq ?_  -- 6
      refine VFin.eq ?_  -- 7
      refine VFin.eq ?_  -- 8
      refine VFin.eq ?_  -- 9
      refine VFin.eq ?_  -- 10
      refine VFin.any fun v23_11 hv23_11 => ?_
      refine VFin.any fun v23_12 hv23_12 => ?_
      refine VFin.eq ?_  -- 13
      refine VFin.eq ?_  -- 14
      refine VFin.eq ?_  -- 15
      refine VFin.eq ?_  -- 16
      refine VFin.eq ?_  -- 17
      refine VFin.any fun v23_18 hv23_18 => ?_
      refine VFin.any fun v23_19 hv23_19 => ?_
      refine VFin.eq ?_  -- 20
      refine VFin.eq ?_  -- 21
      refine VFin.eq ?_  -- 22
      refine VFin.eq ?_  -- 23
      refine VFin.eq ?_  -- 24
      refine VFin.eq ?_  -- 25
      refine VFin.eq ?_  -- 26
      refine VFin.nil ?_
      simp only [Act.put, List.setIfInBounds_toArray, List.set_cons_zero, List.set_cons_succ]
      clear hv23_4 hv23_5 hv23_11 hv23_12 hv23_18 hv23_19
      have hnv := VP.st _ _ _ _ hnv hE23
      have hE := hE.tr hE23
      go_wp2
      go_ret
      exact Ret.mk hE rfl
end Go.Proofs.Ytdaghnnmbilgfaa
