/- patset.Same, Right, Longest; the document's Number, Longest: walked. -/
import Derived.Test.YtfbamdkalamliaaPatG
import Derived.Test.YtfbamdkalamliaaRH
namespace Go.Proofs.Ytfbamdkalamliaa
open Go.RowKit Go.Shelf LetM SetM
set_option maxRecDepth 100000 in
theorem equal_any (xs ys : List UInt8) (u v : Value) (w : World) (hX : VBytes xs u w) (hY : VBytes ys v w) : Calls Try.prog 46 #[u, v] w (Ret w (VEq (.bool (decide (xs = ys))))) := by
  obtain ⟨A, c, rfl, -⟩ := VBytes.form hX
  obtain ⟨B, d, rfl, -⟩ := VBytes.form hY
  go_enter Try.func46, Try.ntmps46
  go_upto_region 1 with (fail)
  refine vregion0 5 (by kernel_rfl) ?_
  refine VWalk.move _ rfl (want_none rfl) (opd_fr 0 rfl hX (Ext.rf _) (by kernel_rfl)) ?_
  refine VWalk.string 26 9 5 _ rfl Try.underlying26 Try.underlying5 Try.underlying9 (want_none rfl) (opd_dep 0 5 0 rfl rfl rfl rfl) ?_
  refine VWalk.move _ rfl (want_none rfl) (opd_fr 1 rfl hY (Ext.rf _) (by kernel_rfl)) ?_
  refine VWalk.string 26 9 5 _ rfl Try.underlying26 Try.underlying5 Try.underlying9 (want_none rfl) (opd_dep 2 7 0 rfl rfl rfl rfl) ?_
  refine VWalk.eqTd _ _ _ _ rfl (want_none rfl) (opd_dep 1 6 2 rfl rfl rfl rfl) (opd_dep 3 8 0 rfl rfl rfl rfl) ?_
  refine ⟨rfl, fun W1 hE1 => ?_⟩
  refine VFin.any fun v1_0 hv1_0 => ?_
  refine VFin.eq ?_  -- 1
  refine VFin.any fun v1_2 hv1_2 => ?_
  refine VFin.eq ?_  -- 3
  refine VFin.eq ?_  -- 4
  refine VFin.nil ?_
  simp only [Act.put, List.setIfInBounds_toArray, List.set_cons_zero, List.set_cons_succ]
  clear hv1_0 hv1_2
  have hX := VP.st _ _ _ _ hX hE1
  have hY := VP.st _ _ _ _ hY hE1
  have hE := hE1
  go_wp2
  go_ret
  exact Ret.mk hE rfl
set_option maxRecDepth 100000 in
set_option maxHeartbeats 2000000 in
theorem psame_any (fa fb : Bool) (xs ys : List (List UInt8)) (u v : Value) (w : World) (hA : VSet fa xs u w) (hB : VSet fb ys v w) : Calls Try.prog 41 #[u, v] w (Ret w (VEq (.bool (decide (fa = fb ∧ xs = ys))))) := by
  obtain ⟨sa, rfl, hP⟩ := hA
  obtain ⟨sb, rfl, hR⟩ := hB
  have hP0 := hP
  have hR0 := hR
  obtain ⟨A, c, rfl, hc1, hc2, -⟩ := VParts.form hP
  obtain ⟨B, d, rfl, hd1, hd2, -⟩ := VParts.form hR
  unfold maxLen at hc2 hd2
  clear hP hR
  obtain ⟨z, hz⟩ : ∃ z, decide (fa = fb ∧ xs = ys) = z := ⟨_, rfl⟩
  rw [hz]
  have hX : Ext w ((w.alloc (.cells #[.bool fa, .slice A xs.length c] 24)).alloc (.cells #[.bool fb, .slice B ys.length d] 24)) := (ext_alloc _ _).tr (ext_alloc _ _)
  have hba := (Box.new w 24 #[.bool fa, .slice A xs.length c]).alloc (.cells #[.bool fb, .slice B ys.length d] 24)
  have hbb := Box.new (w.alloc (.cells #[.bool fa, .slice A xs.length c] 24)) 24 #[.bool fb, .slice B ys.length d]
  rw [World.size_alloc] at hbb
  have HX := hide hX
  have HBA := hide hba
  have HBB := hide hbb
  clear hX hba hbb
  by_cases hf : fa = fb
  case neg =>
    obtain rfl : z = false := by rw [← hz]; exact decide_eq_false fun h => hf h.1
    have hf' : (fa == fb) = false := by rw [beq_eq_false_iff_ne]; exact hf
    clear hz hf hP0 hR0 HBA HBB
    go_enter Try.func41, Try.ntmps41
    go_wp2
    go_ret
    exact Ret.mk HX.out rfl
  subst hf
  by_cases hl : xs.length = ys.length
  case neg =>
    obtain rfl : z = false := by rw [← hz]; exact decide_eq_false fun h => hl (by rw [h.2])
    have hl' : ((xs.length : Int) == (ys.length : Int)) = false := by rw [beq_eq_false_iff_ne]; omega
    clear hz hl hP0 hR0 HBA HBB
    go_enter Try.func41, Try.ntmps41
    go_wp2
    go_ret
    exact Ret.mk HX.out rfl
  have Hz : Hid (decide (xs = ys) = z) := by show _ = _; rw [← hz]; simp
  have Hl := hide hl
  have hl2 : (xs.length : Int) = (ys.length : Int) := by omega
  clear hz hl
  go_enter Try.func41, Try.ntmps41
  go_wp2
  go_loopw [24] (fun i wr => ∃ k : Nat, k ≤ xs.length ∧ i = .int .i64 (k : Int) ∧ Hid (∀ (i : Nat) (h1 : i < xs.length) (h2 : i < ys.length), i < k → xs[i] = ys[i]) ∧ Hid (Below w.heap.size w wr) ∧ Hid (Box wr w.heap.size 24 #[.bool fa, .slice A xs.length c]) ∧ Hid (Box wr (w.heap.size + 1) 24 #[.bool fa, .slice B ys.length d])) (fun i _ => xs.length - (intOf i).toNat)
  case atStart => exact ⟨0, by omega, rfl, hide (fun i _ _ h => by omega), HX, HBA, HBB⟩
  case round =>
    clear HX HBA HBB
    obtain ⟨k, hk, rfl, HS, HE, HA, HB⟩ := hrel
    have hE : Ext w wr := HE.out
    have hba := HA.out
    have hbb := HB.out
    have hca := hba.at_ 1 rfl
    by_cases hlt : k < xs.length
    · have hlt2 : k < ys.length := by have := Hl.out; omega
      have hP := VP.st _ _ _ _ hP0 hE
      have hR := VP.st _ _ _ _ hR0 hE
      have hcb := hbb.at_ 1 rfl
      obtain ⟨A', c', e1, _, _, hx⟩ := VParts.form hP
      obtain ⟨B', d', e2, _, _, hy⟩ := VParts.form hR
      cases e1
      cases e2
      obtain ⟨b1, o1, rfl, hl1, hx1⟩ := hx (by omega)
      obtain ⟨b2, o2, rfl, hl2, hy1⟩ := hy (by omega)
      obtain ⟨zx, hzx, hzx2⟩ := hx1 k hlt
      obtain ⟨zy, hzy, hzy2⟩ := hy1 k hlt2
      have heq := equal_any xs[k] ys[k] zx zy wr hzx2 hzy2
      obtain ⟨Ax, cx, rfl, -⟩ := VBytes.form hzx2
      obtain ⟨Ay, cy, rfl, -⟩ := VBytes.form hzy2
      clear hx hy hx1 hy1 hzx2 hzy2 hP hR hba hbb
      by_cases he : xs[k] = ys[k]
      · have HS2 : Hid (∀ (i : Nat) (h1 : i < xs.length) (h2 : i < ys.length), i < k + 1 → xs[i] = ys[i]) := fun i h1 h2 h3 => by
          by_cases e : i = k
          · subst e; exact he
          · exact HS.out i h1 h2 (by omega)
        rw [decide_eq_true he] at heq
        clear HS he
        generalize xs[k].length = n1 at *
        generalize ys[k].length = n2 at *
        go_wp2_with fail
        refine heq.mono ?_
        rintro e w2 ⟨u, rfl, hE2, rfl⟩
        have HE2 : Hid (Below w.heap.size w w2) := hide (hE.tr hE2)
        have HA2 := hide (HA.out.ext hE2)
        have HB2 := hide (HB.out.ext hE2)
        clear heq hca hcb hzx hzy
        go_wp2
        exact ⟨⟨k + 1, by omega, by go_num, HS2, HE2, HA2, HB2⟩, by simp [intOf]; omega⟩
      · have Hres : Hid (z = false) := by show _ = _; rw [← Hz.out]; exact decide_eq_false fun h => he (by simp only [h])
        rw [decide_eq_false he] at heq
        clear HS he
        generalize xs[k].length = n1 at *
        generalize ys[k].length = n2 at *
        go_wp2_with fail
        refine heq.mono ?_
        rintro e w2 ⟨u, rfl, hE2, rfl⟩
        have hEf := hE.tr hE2
        clear heq hca hcb hzx hzy HA HB
        go_wp2
        go_ret
        exact Ret.mk hEf (congrArg Value.bool Hres.out.symm)
    · obtain rfl : k = xs.length := by omega
      have Hres : Hid (z = true) := by
        show _ = _
        rw [← Hz.out]
        exact decide_eq_true (List.ext_getElem Hl.out fun i h1 h2 => HS.out i h1 h2 h1)
      clear HS HA HB hba hbb
      go_wp2
      go_ret
      exact Ret.mk hE (congrArg Value.bool Hres.out.symm)
set_option maxRecDepth 100000 in
set_option maxHeartbeats 2000000 in
theorem pright_any (f : Bool) (ws : List (List UInt8)) (u : Value) (w : World) (hS : VSet f ws u w) (hlen : ws.flatten.length ≤ 1000000) (hn : ws.length ≤ 1000000) : Calls Try.prog 29 #[u] w (Ret w (VEq (.bool (rightS f ws)))) := by
  obtain ⟨sl, rfl, hP⟩ := hS
  have hmk := fun W hP => pmake_any f ws sl W hP hlen hn
  have hP0 := hP
  obtain ⟨A, c, rfl, -⟩ := VParts.form hP
  clear hP
  obtain ⟨z, hz⟩ : ∃ z, rightS f ws = z := ⟨_, rfl⟩
  have Hz := hide hz
  rw [hz]
  clear hz
  have hb := Box.new w 24 #[.bool f, .slice A ws.length c]
  go_enter Try.func29, Try.ntmps29
  go_wp2_with fail
  refine (hmk _ (VP.st _ _ _ _ hP0 (ext_alloc _ _))).mono ?_
  rintro e w2 ⟨u, rfl, hE2, sv, rfl, hO⟩
  have hb2 := hb.ext hE2
  have hE := (ext_alloc w (.cells #[.bool f, .slice A ws.length c] 24)).tr hE2
  clear hmk hb hE2
  obtain ⟨A4, c4, hv4⟩ := OwnP.form hO
  subst hv4
  have hpo := OwnP.parts hO
  clear hO
  by_cases hc : checkR f ws = 0
  · have hm : makeR f ws = (f, makeFrom f [] ws, 0) := by unfold makeR; rw [if_pos hc]
    have Hzz : Hid (decide (f = f ∧ makeFrom f [] ws = ws) = z) := by show _ = _; rw [← Hz.out]; unfold rightS; rw [hc]; simp
    rw [hm] at hpo ⊢
    dsimp only at *
    clear hm hc Hz
    generalize makeFrom f [] ws = ms at *
    have hX : Ext w2 (w2.alloc (.cells #[.bool f, .slice A4 ms.length c4] 24)) := ext_alloc _ _
    have hsm := psame_any f f ms ws _ _ (w2.alloc (.cells #[.bool f, .slice A4 ms.length c4] 24)) ⟨_, rfl, VP.st _ _ _ _ hpo hX⟩ ⟨_, rfl, VP.st _ _ _ _ hP0 (hE.tr hX)⟩
    have hbx := hb2.ext hX
    have hd0 := hbx.at_ 0 rfl
    have hd1 := hbx.at_ 1 rfl
    have hEx := hE.tr hX
    clear hpo hb2 hbx hX hE hP0
    go_wp2_with fail
    refine hsm.mono ?_
    rintro e w3 ⟨u, rfl, hE3, rfl⟩
    clear hsm hd0 hd1
    rw [Hzz.out]
    go_wp2
    go_ret
    exact Ret.mk (hEx.tr hE3) rfl
  · have hm : makeR f ws = (false, [], checkR f ws) := by unfold makeR; rw [if_neg hc]
    have Hzz : Hid (z = false) := by show _ = _; rw [← Hz.out]; unfold rightS; rw [decide_eq_false hc]; rfl
    rw [hm]
    dsimp only
    have hc' : (checkR f ws == 0) = false := by rw [beq_eq_false_iff_ne]; exact hc
    have hX : Ext w (w2.alloc (.cells #[.bool false, .slice A4 0 c4] 24)) := hE.tr (ext_alloc _ _)
    clear hc Hz hpo hb2 hE hP0
    generalize checkR f ws = q at *
    go_wp2
    go_ret
    exact Ret.mk hX (congrArg Value.bool Hzz.out.symm)
end Go.Proofs.Ytfbamdkalamliaa
