/- The document's sets: which are the same, which may be, which are too great. -/
import Derived.Test.YtfbamdkalamliaaRG
import Derived.Test.YtfbamdkalamliaaRS
namespace Go.Proofs.Ytfbamdkalamliaa
open Go.RowKit LetM SetM
set_option maxRecDepth 100000 in
set_option maxHeartbeats 2000000 in
theorem setgreat_any (f : Bool) (ws : List (List UInt8)) (u : Value) (w : World) (hS : VSet f ws u w) : Calls Try.prog 7 #[u] w (Ret w (VGreat ws)) := by
  obtain ⟨sl, rfl, hP⟩ := hS
  have hg := fun W hP => great_any ws sl W hP
  have hP0 := hP
  obtain ⟨A, c, rfl, -⟩ := VParts.form hP
  clear hP
  go_enter Try.func7, Try.ntmps7
  go_wp2_with fail
  refine (hg _ (VP.st _ _ _ _ hP0 (ext_alloc _ _))).mono ?_
  rintro e w2 ⟨u, rfl, hE2, hu⟩
  clear hg
  have HU := hide hu
  clear hu
  go_wp2
  go_ret
  exact Ret.mk ((ext_alloc _ _).tr hE2) HU.out
set_option maxRecDepth 100000 in
set_option maxHeartbeats 2000000 in
theorem setsame_any (fa fb : Bool) (xs ys : List (List UInt8)) (u v : Value) (w : World) (hA : VSet fa xs u w) (hB : VSet fb ys v w) : Calls Try.prog 27 #[u, v] w (Ret w (VEq (.bool (decide (fa = fb ∧ xs = ys))))) := by
  obtain ⟨sa, rfl, hP⟩ := hA
  obtain ⟨sb, rfl, hR⟩ := hB
  have hP0 := hP
  have hR0 := hR
  obtain ⟨A, c, rfl, hc1, hc2, -⟩ := VParts.form hP
  obtain ⟨B, d, rfl, hd1, hd2, -⟩ := VParts.form hR
  unfold maxLen at hc2 hd2
  clear hP hR
  obtain ⟨z, hz⟩ : ∃ z, decide (fa = fb ∧ xs = ys) = z := ⟨_, rfl⟩
  rw [hz]
  have hX : Ext w ((w.alloc (.cells #[.bool fa, .slice A xs.length c] 24)).alloc (.cells #[.bool fb, .slice B ys.length d] 24)) := (ext_alloc _ _).tr (ext_alloc _ _)
  have hba := (Box.new w 24 #[.bool fa, .slice A xs.length c]).alloc (.cells #[.bool fb, .slice B ys.length d] 24)
  have hbb := Box.new (w.alloc (.cells #[.bool fa, .slice A xs.length c] 24)) 24 #[.bool fb, .slice B ys.length d]
  rw [World.size_alloc] at hbb
  have HX := hide hX
  have HBA := hide hba
  have HBB := hide hbb
  clear hX hba hbb
  by_cases hf : fa = fb
  case neg =>
    obtain rfl : z = false := by rw [← hz]; exact decide_eq_false fun h => hf h.1
    have hf' : (fa == fb) = false := by rw [beq_eq_false_iff_ne]; exact hf
    clear hz hf hP0 hR0 HBA HBB
    go_enter Try.func27, Try.ntmps27
    go_wp2
    go_ret
    exact Ret.mk HX.out rfl
  subst hf
  by_cases hl : xs.length = ys.length
  case neg =>
    obtain rfl : z = false := by rw [← hz]; exact decide_eq_false fun h => hl (by rw [h.2])
    have hl' : ((xs.length : Int) == (ys.length : Int)) = false := by rw [beq_eq_false_iff_ne]; omega
    clear hz hl hP0 hR0 HBA HBB
    go_enter Try.func27, Try.ntmps27
    go_wp2
    go_ret
    exact Ret.mk HX.out rfl
  have Hz : Hid (decide (xs = ys) = z) := by show _ = _; rw [← hz]; simp
  have Hl := hide hl
  have hl2 : (xs.length : Int) = (ys.length : Int) := by omega
  clear hz hl
  go_enter Try.func27, Try.ntmps27
  go_wp2
  go_loopw [5] (fun i wr => ∃ k : Nat, k ≤ xs.length ∧ i = .int .i64 (k : Int) ∧ Hid (∀ (i : Nat) (h1 : i < xs.length) (h2 : i < ys.length), i < k → xs[i] = ys[i]) ∧ Hid (Below w.heap.size w wr) ∧ Hid (Box wr w.heap.size 24 #[.bool fa, .slice A xs.length c]) ∧ Hid (Box wr (w.heap.size + 1) 24 #[.bool fa, .slice B ys.length d])) (fun i _ => xs.length - (intOf i).toNat)
  case atStart => exact ⟨0, by omega, rfl, hide (fun i _ _ h => by omega), HX, HBA, HBB⟩
  case round =>
    clear HX HBA HBB
    obtain ⟨k, hk, rfl, HS, HE, HA, HB⟩ := hrel
    have hE : Ext w wr := HE.out
    have hba := HA.out
    have hbb := HB.out
    have hca := hba.at_ 1 rfl
    by_cases hlt : k < xs.length
    · have hlt2 : k < ys.length := by have := Hl.out; omega
      have hP := VP.st _ _ _ _ hP0 hE
      have hR := VP.st _ _ _ _ hR0 hE
      clear HA HB
      by_cases he : xs[k] = ys[k]
      · have HS2 : Hid (∀ (i : Nat) (h1 : i < xs.length) (h2 : i < ys.length), i < k + 1 → xs[i] = ys[i]) := fun i h1 h2 h3 => by
          by_cases e : i = k
          · subst e; exact he
          · exact HS.out i h1 h2 (by omega)
        have hs : (⟨xs[k].toArray⟩ : ByteArray) = ⟨ys[k].toArray⟩ := by rw [he]
        clear HS he
        go_upto_region 6 with (fail)
        refine vregion 13 [] (by kernel_rfl) (by kernel_rfl) (fun _ _ _ _ _ h => h) ?_
        refine VWalk.det1 (Operand.tmp 2) (want_none rfl) (opd_frame 2 rfl (by kernel_rfl)) (fun ρ w hE h1 => by simp [execOp, h1, go_sem]; rfl) ?_
        refine VWalk.load1F (F := VParts xs) 22 _ rfl (want_none rfl) (opd_dep 0 27 0 rfl rfl rfl rfl) (fun _ => by kernel_rfl) (hba.at_ 1 rfl) hP (ext_drew _) ?_
        refine VWalk.move _ rfl (want_none rfl) (opd_frame 5 rfl (by kernel_rfl)) ?_
        refine VWalk.indexP 22 26 _ _ .i64 k rfl Try.underlying22 (by kernel_rfl) (want_none rfl) (opd_dep 1 28 1 rfl rfl rfl rfl) (opd_dep 2 29 0 rfl rfl rfl rfl) hlt ?_
        refine VWalk.loadP 26 _ rfl (want_none rfl) (opd_dep 3 30 0 rfl rfl rfl rfl) (fun _ => by kernel_rfl) ?_
        refine VWalk.string 26 9 5 _ rfl Try.underlying26 Try.underlying5 Try.underlying9 (want_none rfl) (opd_dep 4 31 0 rfl rfl rfl rfl) ?_
        refine VWalk.det1 (Operand.tmp 3) (want_none rfl) (opd_frame 3 rfl (by kernel_rfl)) (fun ρ w hE h1 => by simp [execOp, h1, go_sem]; rfl) ?_
        refine VWalk.load1F (F := VParts ys) 22 _ rfl (want_none rfl) (opd_dep 6 33 0 rfl rfl rfl rfl) (fun _ => by kernel_rfl) (hbb.at_ 1 rfl) hR (ext_drew _) ?_
        refine VWalk.move _ rfl (want_none rfl) (opd_frame 5 rfl (by kernel_rfl)) ?_
        refine VWalk.indexP 22 26 _ _ .i64 k rfl Try.underlying22 (by kernel_rfl) (want_none rfl) (opd_dep 7 34 1 rfl rfl rfl rfl) (opd_dep 8 35 0 rfl rfl rfl rfl) hlt2 ?_
        refine VWalk.loadP 26 _ rfl (want_none rfl) (opd_dep 9 36 0 rfl rfl rfl rfl) (fun _ => by kernel_rfl) ?_
        refine VWalk.string 26 9 5 _ rfl Try.underlying26 Try.underlying5 Try.underlying9 (want_none rfl) (opd_dep 10 37 0 rfl rfl rfl rfl) ?_
        refine VWalk.neTs _ _ _ _ rfl (want_none rfl) (opd_dep 5 32 6 rfl rfl rfl rfl) (opd_dep 11 38 0 rfl rfl rfl rfl) hs ?_
        refine ⟨rfl, fun W6 hE6 => ?_⟩
        refine VFin.eq ?_  -- 0
        refine VFin.any fun v6_1 hv6_1 => ?_
        refine VFin.eq ?_  -- 2
        refine VFin.any fun v6_3 hv6_3 => ?_
        refine VFin.any fun v6_4 hv6_4 => ?_
        refine VFin.eq ?_  -- 5
        refine VFin.eq ?_  -- 6
        refine VFin.any fun v6_7 hv6_7 => ?_
        refine VFin.eq ?_  -- 8
        refine VFin.any fun v6_9 hv6_9 => ?_
        refine VFin.any fun v6_10 hv6_10 => ?_
        refine VFin.eq ?_  -- 11
        refine VFin.eq ?_  -- 12
        refine VFin.nil ?_
        simp only [Act.put, List.setIfInBounds_toArray, List.set_cons_zero, List.set_cons_succ]
        clear hv6_1 hv6_3 hv6_4 hv6_7 hv6_9 hv6_10
        have hba := hba.drew.ext hE6
        have hbb := hbb.drew.ext hE6
        have hE := hE.tr ((ext_drew _).tr hE6)
        have HE2 : Hid (Below w.heap.size w W6) := hide hE
        have HA2 := hide hba
        have HB2 := hide hbb
        clear hba hbb hca hE hP hR hs
        go_wp2
        exact ⟨⟨k + 1, by omega, by go_num, HS2, HE2, HA2, HB2⟩, by simp [intOf]; omega⟩
      · have hs : xs[k] ≠ ys[k] := he
        have Hres : Hid (z = false) := by show _ = _; rw [← Hz.out]; exact decide_eq_false fun h => he (by simp only [h])
        clear HS he
        go_upto_region 6 with (fail)
        refine vregion 13 [] (by kernel_rfl) (by kernel_rfl) (fun _ _ _ _ _ h => h) ?_
        refine VWalk.det1 (Operand.tmp 2) (want_none rfl) (opd_frame 2 rfl (by kernel_rfl)) (fun ρ w hE h1 => by simp [execOp, h1, go_sem]; rfl) ?_
        refine VWalk.load1F (F := VParts xs) 22 _ rfl (want_none rfl) (opd_dep 0 27 0 rfl rfl rfl rfl) (fun _ => by kernel_rfl) (hba.at_ 1 rfl) hP (ext_drew _) ?_
        refine VWalk.move _ rfl (want_none rfl) (opd_frame 5 rfl (by kernel_rfl)) ?_
        refine VWalk.indexP 22 26 _ _ .i64 k rfl Try.underlying22 (by kernel_rfl) (want_none rfl) (opd_dep 1 28 1 rfl rfl rfl rfl) (opd_dep 2 29 0 rfl rfl rfl rfl) hlt ?_
        refine VWalk.loadP 26 _ rfl (want_none rfl) (opd_dep 3 30 0 rfl rfl rfl rfl) (fun _ => by kernel_rfl) ?_
        refine VWalk.string 26 9 5 _ rfl Try.underlying26 Try.underlying5 Try.underlying9 (want_none rfl) (opd_dep 4 31 0 rfl rfl rfl rfl) ?_
        refine VWalk.det1 (Operand.tmp 3) (want_none rfl) (opd_frame 3 rfl (by kernel_rfl)) (fun ρ w hE h1 => by simp [execOp, h1, go_sem]; rfl) ?_
        refine VWalk.load1F (F := VParts ys) 22 _ rfl (want_none rfl) (opd_dep 6 33 0 rfl rfl rfl rfl) (fun _ => by kernel_rfl) (hbb.at_ 1 rfl) hR (ext_drew _) ?_
        refine VWalk.move _ rfl (want_none rfl) (opd_frame 5 rfl (by kernel_rfl)) ?_
        refine VWalk.indexP 22 26 _ _ .i64 k rfl Try.underlying22 (by kernel_rfl) (want_none rfl) (opd_dep 7 34 1 rfl rfl rfl rfl) (opd_dep 8 35 0 rfl rfl rfl rfl) hlt2 ?_
        refine VWalk.loadP 26 _ rfl (want_none rfl) (opd_dep 9 36 0 rfl rfl rfl rfl) (fun _ => by kernel_rfl) ?_
        refine VWalk.string 26 9 5 _ rfl Try.underlying26 Try.underlying5 Try.underlying9 (want_none rfl) (opd_dep 10 37 0 rfl rfl rfl rfl) ?_
        refine VWalk.neTs' _ _ _ _ rfl (want_none rfl) (opd_dep 5 32 6 rfl rfl rfl rfl) (opd_dep 11 38 0 rfl rfl rfl rfl) hs ?_
        refine ⟨rfl, fun W6 hE6 => ?_⟩
        refine VFin.eq ?_  -- 0
        refine VFin.any fun v6_1 hv6_1 => ?_
        refine VFin.eq ?_  -- 2
        refine VFin.any fun v6_3 hv6_3 => ?_
        refine VFin.any fun v6_4 hv6_4 => ?_
        refine VFin.eq ?_  -- 5
        refine VFin.eq ?_  -- 6
        refine VFin.any fun v6_7 hv6_7 => ?_
        refine VFin.eq ?_  -- 8
        refine VFin.any fun v6_9 hv6_9 => ?_
        refine VFin.any fun v6_10 hv6_10 => ?_
        refine VFin.eq ?_  -- 11
        refine VFin.eq ?_  -- 12
        refine VFin.nil ?_
        simp only [Act.put, List.setIfInBounds_toArray, List.set_cons_zero, List.set_cons_succ]
        clear hv6_1 hv6_3 hv6_4 hv6_7 hv6_9 hv6_10
        have hba := hba.drew.ext hE6
        have hbb := hbb.drew.ext hE6
        have hE := hE.tr ((ext_drew _).tr hE6)
        clear hba hbb hca hP hR hs
        go_wp2
        go_ret
        exact Ret.mk hE (congrArg Value.bool Hres.out.symm)
    · obtain rfl : k = xs.length := by omega
      have Hres : Hid (z = true) := by
        show _ = _
        rw [← Hz.out]
        exact decide_eq_true (List.ext_getElem Hl.out fun i h1 h2 => HS.out i h1 h2 h1)
      clear HS HA HB hba hbb
      go_wp2
      go_ret
      exact Ret.mk hE (congrArg Value.bool Hres.out.symm)
set_option maxRecDepth 100000 in
set_option maxHeartbeats 2000000 in
theorem setright_any (f : Bool) (ws : List (List UInt8)) (u : Value) (w : World) (hS : VSet f ws u w) : Calls Try.prog 18 #[u] w (Ret w (VEq (.bool (rightS f ws)))) := by
  obtain ⟨sl, rfl, hP⟩ := hS
  have hmk := fun W hP => make_any f ws sl W hP
  have hP0 := hP
  obtain ⟨A, c, rfl, -⟩ := VParts.form hP
  clear hP
  obtain ⟨z, hz⟩ : ∃ z, rightS f ws = z := ⟨_, rfl⟩
  have Hz := hide hz
  rw [hz]
  clear hz
  have hb := Box.new w 24 #[.bool f, .slice A ws.length c]
  go_enter Try.func18, Try.ntmps18
  go_wp2_with fail
  refine (hmk _ (VP.st _ _ _ _ hP0 (ext_alloc _ _))).mono ?_
  rintro e w2 ⟨u, rfl, hE2, sv, rfl, hO⟩
  have hb2 := hb.ext hE2
  have hE := (ext_alloc w (.cells #[.bool f, .slice A ws.length c] 24)).tr hE2
  clear hmk hb hE2
  obtain ⟨A4, c4, hv4⟩ := OwnP.form hO
  subst hv4
  have hpo := OwnP.parts hO
  clear hO
  by_cases hc : checkR f ws = 0
  · have hm : makeR f ws = (f, makeFrom f [] ws, 0) := by unfold makeR; rw [if_pos hc]
    have Hzz : Hid (decide (f = f ∧ makeFrom f [] ws = ws) = z) := by show _ = _; rw [← Hz.out]; unfold rightS; rw [hc]; simp
    rw [hm] at hpo ⊢
    dsimp only at *
    clear hm hc Hz
    generalize makeFrom f [] ws = ms at *
    have hX : Ext w2 (w2.alloc (.cells #[.bool f, .slice A4 ms.length c4] 24)) := ext_alloc _ _
    have hsm := setsame_any f f ms ws _ _ (w2.alloc (.cells #[.bool f, .slice A4 ms.length c4] 24)) ⟨_, rfl, VP.st _ _ _ _ hpo hX⟩ ⟨_, rfl, VP.st _ _ _ _ hP0 (hE.tr hX)⟩
    have hbx := hb2.ext hX
    have hd0 := hbx.at_ 0 rfl
    have hd1 := hbx.at_ 1 rfl
    have hEx := hE.tr hX
    clear hpo hb2 hbx hX hE hP0
    go_wp2_with fail
    refine hsm.mono ?_
    rintro e w3 ⟨u, rfl, hE3, rfl⟩
    clear hsm hd0 hd1
    rw [Hzz.out]
    go_wp2
    go_ret
    exact Ret.mk (hEx.tr hE3) rfl
  · have hm : makeR f ws = (false, [], checkR f ws) := by unfold makeR; rw [if_neg hc]
    have Hzz : Hid (z = false) := by show _ = _; rw [← Hz.out]; unfold rightS; rw [decide_eq_false hc]; rfl
    rw [hm]
    dsimp only
    have hc' : (checkR f ws == 0) = false := by rw [beq_eq_false_iff_ne]; exact hc
    have hX : Ext w (w2.alloc (.cells #[.bool false, .slice A4 0 c4] 24)) := hE.tr (ext_alloc _ _)
    clear hc Hz hpo hb2 hE hP0
    generalize checkR f ws = q at *
    go_wp2
    go_ret
    exact Ret.mk hX (congrArg Value.bool Hzz.out.symm)
section
variable {w0 : World}
theorem c_setright (f : Bool) (ws : List (List UInt8)) : ∀ u w, Ext w0 w → VSet f ws u w → Calls Try.prog 18 #[u] w (Ret w (VEq (.bool (rightS f ws)))) := fun u w _ hu => setright_any f ws u w hu
end
end Go.Proofs.Ytfbamdkalamliaa
