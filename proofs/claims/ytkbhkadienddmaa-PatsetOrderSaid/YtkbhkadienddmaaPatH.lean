/- patset.Same, Right, Longest; the document's Number, Longest: walked. -/
import Derived.Test.YtkbhkadienddmaaPatG
import Derived.Test.YtkbhkadienddmaaRH
namespace Go.Proofs.Ytkbhkadienddmaa
open Go.RowKit Go.Shelf LetM SetM
set_option maxRecDepth 100000 in
theorem equal_any (xs ys : List UInt8) (u v : Value) (w : World) (hX : VBytes xs u w) (hY : VBytes ys v w) : Calls Try.prog 37 #[u, v] w (Ret w (VEq (.bool (decide (xs = ys))))) := by
  obtain ⟨A, c, rfl, -⟩ := VBytes.form hX
  obtain ⟨B, d, rfl, -⟩ := VBytes.form hY
  go_enter Try.func37, Try.ntmps37
  go_upto_region 1 with (fail)
  refine vregion0 5 (by kernel_rfl) ?_
  refine VWalk.move _ rfl (want_none rfl) (opd_fr 0 rfl hX (Ext.rf _) (by kernel_rfl)) ?_
  refine VWalk.string 25 9 5 _ rfl Try.underlying25 Try.underlying5 Try.underlying9 (want_none rfl) (opd_dep 0 5 0 rfl rfl rfl rfl) ?_
  refine VWalk.move _ rfl (want_none rfl) (opd_fr 1 rfl hY (Ext.rf _) (by kernel_rfl)) ?_
  refine VWalk.string 25 9 5 _ rfl Try.underlying25 Try.underlying5 Try.underlying9 (want_none rfl) (opd_dep 2 7 0 rfl rfl rfl rfl) ?_
  refine VWalk.eqTd _ _ _ _ rfl (want_none rfl) (opd_dep 1 6 2 rfl rfl rfl rfl) (opd_dep 3 8 0 rfl rfl rfl rfl) ?_
  refine ⟨rfl, fun W1 hE1 => ?_⟩
  refine VFin.any fun v1_0 hv1_0 => ?_
  refine VFin.eq ?_  -- 1
  refine VFin.any fun v1_2 hv1_2 => ?_
  refine VFin.eq ?_  -- 3
  refine VFin.eq ?_  -- 4
  refine VFin.nil ?_
  simp only [Act.put, List.setIfInBounds_toArray, List.set_cons_zero, List.set_cons_succ]
  clear hv1_0 hv1_2
  have hX := VP.st _ _ _ _ hX hE1
  have hY := VP.st _ _ _ _ hY hE1
  have hE := hE1
  go_wp2
  go_ret
  exact Ret.mk hE rfl
set_option maxRecDepth 100000 in
set_option maxHeartbeats 2000000 in
theorem psame_any (fa fb : Bool) (xs ys : List (List UInt8)) (u v : Value) (w : World) (hA : VSet fa xs u w) (hB : VSet fb ys v w) : Calls Try.prog 24 #[u, v] w (Ret w (VEq (.bool (decide (fa = fb ∧ xs = ys))))) := by
  obtain ⟨sa, rfl, hP⟩ := hA
  obtain ⟨sb, rfl, hR⟩ := hB
  have hP0 := hP
  have hR0 := hR
  obtain ⟨A, c, rfl, hc1, hc2, -⟩ := VParts.form hP
  obtain ⟨B, d, rfl, hd1, hd2, -⟩ := VParts.form hR
  unfold maxLen at hc2 hd2
  clear hP hR
  obtain ⟨z, hz⟩ : ∃ z, decide (fa = fb ∧ xs = ys) = z := ⟨_, rfl⟩
  rw [hz]
  have hX : Ext w ((w.alloc (.cells #[.bool fa, .slice A xs.length c] 24)).alloc (.cells #[.bool fb, .slice B ys.length d] 24)) := (ext_alloc _ _).tr (ext_alloc _ _)
  have hba := (Box.new w 24 #[.bool fa, .slice A xs.length c]).alloc (.cells #[.bool fb, .slice B ys.length d] 24)
  have hbb := Box.new (w.alloc (.cells #[.bool fa, .slice A xs.length c] 24)) 24 #[.bool fb, .slice B ys.length d]
  rw [World.size_alloc] at hbb
  have HX := hide hX
  have HBA := hide hba
  have HBB := hide hbb
  clear hX hba hbb
  by_cases hf : fa = fb
  case neg =>
    obtain rfl : z = false := by rw [← hz]; exact decide_eq_false fun h => hf h.1
    have hf' : (fa == fb) = false := by rw [beq_eq_false_iff_ne]; exact hf
    clear hz hf hP0 hR0 HBA HBB
    go_enter Try.func24, Try.ntmps24
    go_wp2
    go_ret
    exact Ret.mk HX.out rfl
  subst hf
  by_cases hl : xs.length = ys.length
  case neg =>
    obtain rfl : z = false := by rw [← hz]; exact decide_eq_false fun h => hl (by rw [h.2])
    have hl' : ((xs.length : Int) == (ys.length : Int)) = false := by rw [beq_eq_false_iff_ne]; omega
    clear hz hl hP0 hR0 HBA HBB
    go_enter Try.func24, Try.ntmps24
    go_wp2
    go_ret
    exact Ret.mk HX.out rfl
  have Hz : Hid (decide (xs = ys) = z) := by show _ = _; rw [← hz]; simp
  have Hl := hide hl
  have hl2 : (xs.length : Int) = (ys.length : Int) := by omega
  clear hz hl
  go_enter Try.func24, Try.ntmps24
  go_wp2
  go_loopw [24] (fun i wr => ∃ k : Nat, k ≤ xs.length ∧ i = .int .i64 (k : Int) ∧ Hid (∀ (i : Nat) (h1 : i < xs.length) (h2 : i < ys.length), i < k → xs[i] = ys[i]) ∧ Hid (Below w.heap.size w wr) ∧ Hid (Box wr w.heap.size 24 #[.bool fa, .slice A xs.length c]) ∧ Hid (Box wr (w.heap.size + 1) 24 #[.bool fa, .slice B ys.length d])) (fun i _ => xs.length - (intOf i).toNat)
  case atStart => exact ⟨0, by omega, rfl, hide (fun i _ _ h => by omega), HX, HBA, HBB⟩
  case round =>
    clear HX HBA HBB
    obtain ⟨k, hk, rfl, HS, HE, HA, HB⟩ := hrel
    have hE : Ext w wr := HE.out
    have hba := HA.out
    have hbb := HB.out
    have hca := hba.at_ 1 rfl
    by_cases hlt : k < xs.length
    · have hlt2 : k < ys.length := by have := Hl.out; omega
      have hP := VP.st _ _ _ _ hP0 hE
      have hR := VP.st _ _ _ _ hR0 hE
      have hcb := hbb.at_ 1 rfl
      obtain ⟨A', c', e1, _, _, hx⟩ := VParts.form hP
      obtain ⟨B', d', e2, _, _, hy⟩ := VParts.form hR
      cases e1
      cases e2
      obtain ⟨b1, o1, rfl, hl1, hx1⟩ := hx (by omega)
      obtain ⟨b2, o2, rfl, hl2, hy1⟩ := hy (by omega)
      obtain ⟨zx, hzx, hzx2⟩ := hx1 k hlt
      obtain ⟨zy, hzy, hzy2⟩ := hy1 k hlt2
      have heq := equal_any xs[k] ys[k] zx zy wr hzx2 hzy2
      obtain ⟨Ax, cx, rfl, -⟩ := VBytes.form hzx2
      obtain ⟨Ay, cy, rfl, -⟩ := VBytes.form hzy2
      clear hx hy hx1 hy1 hzx2 hzy2 hP hR hba hbb
      by_cases he : xs[k] = ys[k]
      · have HS2 : Hid (∀ (i : Nat) (h1 : i < xs.length) (h2 : i < ys.length), i < k + 1 → xs[i] = ys[i]) := fun i h1 h2 h3 => by
          by_cases e : i = k
          · subst e; exact he
          · exact HS.out i h1 h2 (by omega)
        rw [decide_eq_true he] at heq
        clear HS he
        generalize xs[k].length = n1 at *
        generalize ys[k].length = n2 at *
        go_wp2_with fail
        refine heq.mono ?_
        rintro e w2 ⟨u, rfl, hE2, rfl⟩
        have HE2 : Hid (Below w.heap.size w w2) := hide (hE.tr hE2)
        have HA2 := hide (HA.out.ext hE2)
        have HB2 := hide (HB.out.ext hE2)
        clear heq hca hcb hzx hzy
        go_wp2
        exact ⟨⟨k + 1, by omega, by go_num, HS2, HE2, HA2, HB2⟩, by simp [intOf]; omega⟩
      · have Hres : Hid (z = false) := by show _ = _; rw [← Hz.out]; exact decide_eq_false fun h => he (by simp only [h])
        rw [decide_eq_false he] at heq
        clear HS he
        generalize xs[k].length = n1 at *
        generalize ys[k].length = n2 at *
        go_wp2_with fail
        refine heq.mono ?_
        rintro e w2 ⟨u, rfl, hE2, rfl⟩
        have hEf := hE.tr hE2
        clear heq hca hcb hzx hzy HA HB
        go_wp2
        go_ret
        exact Ret.mk hEf (congrArg Value.bool Hres.out.symm)
    · obtain rfl : k = xs.length := by omega
      have Hres : Hid (z = true) := by
        show _ = _
        rw [← Hz.out]
        exact decide_eq_true (List.ext_getElem Hl.out fun i h1 h2 => HS.out i h1 h2 h1)
      clear HS HA HB hba hbb
      go_wp2
      go_ret
      exact Ret.mk hE (congrArg Value.bool Hres.out.symm)
set_option maxRecDepth 100000 in
set_option maxHeartbeats 2000000 in
theorem pright_any (f : Bool) (ws : List (List UInt8)) (u : Value) (w : World) (hS : VSet f ws u w) (hlen : ws.flatten.length ≤ 1000000) (hn : ws.length ≤ 1000000) : Calls Try.prog 20 #[u] w (Ret w (VEq (.bool (rightS f ws)))) := by
  obtain ⟨sl, rfl, hP⟩ := hS
  have hmk := fun W hP => pmake_any f ws sl W hP hlen hn
  have hP0 := hP
  obtain ⟨A, c, rfl, -⟩ := VParts.form hP
  clear hP
  obtain ⟨z, hz⟩ : ∃ z, rightS f ws = z := ⟨_, rfl⟩
  have Hz := hide hz
  rw [hz]
  clear hz
  have hb := Box.new w 24 #[.bool f, .slice A ws.length c]
  go_enter Try.func20, Try.ntmps20
  go_wp2_with fail
  refine (hmk _ (VP.st _ _ _ _ hP0 (ext_alloc _ _))).mono ?_
  rintro e w2 ⟨u, rfl, hE2, sv, rfl, hO⟩
  have hb2 := hb.ext hE2
  have hE := (ext_alloc w (.cells #[.bool f, .slice A ws.length c] 24)).tr hE2
  clear hmk hb hE2
  obtain ⟨A4, c4, hv4⟩ := OwnP.form hO
  subst hv4
  have hpo := OwnP.parts hO
  clear hO
  by_cases hc : checkR f ws = 0
  · have hm : makeR f ws = (f, makeFrom f [] ws, 0) := by unfold makeR; rw [if_pos hc]
    have Hzz : Hid (decide (f = f ∧ makeFrom f [] ws = ws) = z) := by show _ = _; rw [← Hz.out]; unfold rightS; rw [hc]; simp
    rw [hm] at hpo ⊢
    dsimp only at *
    clear hm hc Hz
    generalize makeFrom f [] ws = ms at *
    have hX : Ext w2 (w2.alloc (.cells #[.bool f, .slice A4 ms.length c4] 24)) := ext_alloc _ _
    have hsm := psame_any f f ms ws _ _ (w2.alloc (.cells #[.bool f, .slice A4 ms.length c4] 24)) ⟨_, rfl, VP.st _ _ _ _ hpo hX⟩ ⟨_, rfl, VP.st _ _ _ _ hP0 (hE.tr hX)⟩
    have hbx := hb2.ext hX
    have hd0 := hbx.at_ 0 rfl
    have hd1 := hbx.at_ 1 rfl
    have hEx := hE.tr hX
    clear hpo hb2 hbx hX hE hP0
    go_wp2_with fail
    refine hsm.mono ?_
    rintro e w3 ⟨u, rfl, hE3, rfl⟩
    clear hsm hd0 hd1
    rw [Hzz.out]
    go_wp2
    go_ret
    exact Ret.mk (hEx.tr hE3) rfl
  · have hm : makeR f ws = (false, [], checkR f ws) := by unfold makeR; rw [if_neg hc]
    have Hzz : Hid (z = false) := by show _ = _; rw [← Hz.out]; unfold rightS; rw [decide_eq_false hc]; rfl
    rw [hm]
    dsimp only
    have hc' : (checkR f ws == 0) = false := by rw [beq_eq_false_iff_ne]; exact hc
    have hX : Ext w (w2.alloc (.cells #[.bool false, .slice A4 0 c4] 24)) := hE.tr (ext_alloc _ _)
    clear hc Hz hpo hb2 hE hP0
    generalize checkR f ws = q at *
    go_wp2
    go_ret
    exact Ret.mk hX (congrArg Value.bool Hzz.out.symm)
set_option maxRecDepth 100000 in
set_option maxHeartbeats 1000000 in
theorem rnumber_any (f : Bool) (ws : List (List UInt8)) (word : List UInt8) (u v : Value) (w : World) (hS : VSet f ws u w) (hW : VBytes word v w) (hl1 : word.length ≤ 1000000) (hl2 : ∀ b ∈ ws, b.length ≤ 1000000) : Calls Try.prog 14 #[u, v] w (Ret w (VTup [VEq (.int .i64 (numberF f word ws).1), VEq (.bool (numberF f word ws).2)])) := by
  obtain ⟨sl, rfl, hP⟩ := hS
  have hX : ∀ o, Ext w (w.alloc o) := fun o => ext_alloc _ _
  have hwh := fun o => rwhich_any f word ws v sl (w.alloc o) (VP.st _ _ _ _ hW (hX o)) (VP.st _ _ _ _ hP (hX o)) hl1 hl2
  obtain ⟨A, c, rfl, -⟩ := VParts.form hP
  obtain ⟨B, d, rfl, -⟩ := VBytes.form hW
  unfold numberF
  clear hP hW
  generalize which f word ws = q at *
  by_cases hq : q < 0
  · rw [if_pos hq]
    go_enter Try.func14, Try.ntmps14
    go_wp2_with fail
    refine (hwh _).mono ?_
    rintro e w2 ⟨u, rfl, hE2, rfl⟩
    have hE := (hX (.cells #[.bool f, .slice A ws.length c] 24)).tr hE2
    clear hwh hX hE2
    go_wp2
    exact bodyPost_ret (v := .tuple #[.int .i64 0, .bool false]) (by simp [results, Try.results14, go_sem]) rfl (Ret.mk hE (VTup.two rfl rfl))
  · rw [if_neg hq]
    go_enter Try.func14, Try.ntmps14
    go_wp2_with fail
    refine (hwh _).mono ?_
    rintro e w2 ⟨u, rfl, hE2, rfl⟩
    have hE := (hX (.cells #[.bool f, .slice A ws.length c] 24)).tr hE2
    clear hwh hX hE2
    go_wp2
    exact bodyPost_ret (v := .tuple #[.int .i64 q, .bool true]) (by simp [results, Try.results14, go_sem]) rfl (Ret.mk hE (VTup.two rfl rfl))
def longN (ws : List (List UInt8)) : Nat := ws.foldl (fun n w => max n w.length) 0
theorem longN_snoc (ws : List (List UInt8)) (k : Nat) (h : k < ws.length) : longN (ws.take (k + 1)) = max (longN (ws.take k)) ws[k].length := by
  unfold longN
  rw [List.take_succ_eq_append_getElem h, List.foldl_append]
  rfl
theorem longN_le (ws : List (List UInt8)) (m : Nat) (h : ∀ w ∈ ws, w.length ≤ m) : ∀ k, k ≤ ws.length → longN (ws.take k) ≤ m := by
  intro k
  induction k with
  | zero => intro _; simp [longN]
  | succ k ih =>
    intro hk
    have := ih (by omega)
    have := h _ (List.getElem_mem (show k < ws.length by omega))
    rw [longN_snoc ws k (by omega)]
    omega
set_option maxRecDepth 100000 in
set_option maxHeartbeats 1000000 in
theorem plongest_any (f : Bool) (ws : List (List UInt8)) (u : Value) (w : World) (hS : VSet f ws u w) (hl : ∀ b ∈ ws, b.length ≤ 1000000) : Calls Try.prog 22 #[u] w (Ret w (VEq (.int .i64 (longN ws : Int)))) := by
  obtain ⟨sl, rfl, hP⟩ := hS
  obtain ⟨A, c, rfl, hc1, hc2, hx⟩ := VParts.form hP
  unfold maxLen at hc2
  clear hP
  have hX : Ext w (w.alloc (.cells #[.bool f, .slice A ws.length c] 24)) := ext_alloc _ _
  have hb := Box.new w 24 #[.bool f, .slice A ws.length c]
  have hb1 := hb.at_ 1 rfl
  go_enter Try.func22, Try.ntmps22
  go_wp2
  clear hb
  go_loopw [3, 9] (fun m i wr => ∃ k n : Nat, k ≤ ws.length ∧ i = .int .i64 (k : Int) ∧ m = .int .i64 (n : Int) ∧ n ≤ 1000000 ∧ Hid (longN (ws.take k) = n) ∧ wr = w.alloc (.cells #[.bool f, .slice A ws.length c] 24)) (fun _ i _ => ws.length - (intOf i).toNat)
  case atStart => exact ⟨0, 0, by omega, rfl, rfl, by omega, hide (by simp [longN]), rfl⟩
  case round =>
    obtain ⟨k, n, hk, rfl, rfl, hn, HN, rfl⟩ := hrel
    by_cases hlt : k < ws.length
    · obtain ⟨b, off, rfl, hbl, hcell⟩ := hx (by omega)
      obtain ⟨z, hz, hz2⟩ := hcell k hlt
      have hz3 := (hX.cell (p := ⟨b, off + k, none⟩) hbl).trans hz
      obtain ⟨A2, c2, rfl, -⟩ := VBytes.form hz2
      have hwl := hl _ (List.getElem_mem hlt)
      have hsn := longN_snoc ws k hlt
      rw [HN.out] at hsn
      have Hsn := hide hsn
      clear hcell hx hz hz2 hsn
      generalize ws[k].length = q at *
      by_cases hm : (n : Int) < (q : Int)
      · go_wp2
        exact ⟨⟨k + 1, q, by omega, by go_num, rfl, hwl, by show _ = _; rw [Hsn.out]; omega, trivial⟩, by simp [intOf]; omega⟩
      · go_wp2
        exact ⟨⟨k + 1, n, by omega, by go_num, rfl, hn, by show _ = _; rw [Hsn.out]; omega, trivial⟩, by simp [intOf]; omega⟩
    · obtain rfl : k = ws.length := by omega
      have Hres : Hid (longN ws = n) := by have := HN.out; rwa [List.take_length] at this
      go_wp2
      go_ret
      exact Ret.mk hX (congrArg (fun n : Nat => Value.int .i64 (n : Int)) Hres.out.symm)
set_option maxRecDepth 100000 in
set_option maxHeartbeats 1000000 in
theorem rlongest_any (f : Bool) (ws : List (List UInt8)) (u : Value) (w : World) (hS : VSet f ws u w) (hl : ∀ b ∈ ws, b.length ≤ 1000000) : Calls Try.prog 23 #[u] w (Ret w (VEq (.int .i64 (longN ws : Int)))) := by
  obtain ⟨sl, rfl, hP⟩ := hS
  obtain ⟨A, c, rfl, hc1, hc2, hx⟩ := VParts.form hP
  unfold maxLen at hc2
  clear hP
  have hX : Ext w (w.alloc (.cells #[.bool f, .slice A ws.length c] 24)) := ext_alloc _ _
  have hb := Box.new w 24 #[.bool f, .slice A ws.length c]
  have hb1 := hb.at_ 1 rfl
  go_enter Try.func23, Try.ntmps23
  go_wp2
  clear hb
  go_loopw [3, 4] (fun m i wr => ∃ k n : Nat, k ≤ ws.length ∧ i = .int .i64 (k : Int) ∧ m = .int .i64 (n : Int) ∧ n ≤ 1000000 ∧ Hid (longN (ws.take k) = n) ∧ wr = w.alloc (.cells #[.bool f, .slice A ws.length c] 24)) (fun _ i _ => ws.length - (intOf i).toNat)
  case atStart => exact ⟨0, 0, by omega, rfl, rfl, by omega, hide (by simp [longN]), rfl⟩
  case round =>
    obtain ⟨k, n, hk, rfl, rfl, hn, HN, rfl⟩ := hrel
    by_cases hlt : k < ws.length
    · obtain ⟨b, off, rfl, hbl, hcell⟩ := hx (by omega)
      obtain ⟨z, hz, hz2⟩ := hcell k hlt
      have hz3 := (hX.cell (p := ⟨b, off + k, none⟩) hbl).trans hz
      obtain ⟨A2, c2, rfl, -⟩ := VBytes.form hz2
      have hwl := hl _ (List.getElem_mem hlt)
      have hsn := longN_snoc ws k hlt
      rw [HN.out] at hsn
      have Hsn := hide hsn
      clear hcell hx hz hz2 hsn
      generalize ws[k].length = q at *
      by_cases hm : (n : Int) < (q : Int)
      · go_wp2
        exact ⟨⟨k + 1, q, by omega, by go_num, rfl, hwl, by show _ = _; rw [Hsn.out]; omega, trivial⟩, by simp [intOf]; omega⟩
      · go_wp2
        exact ⟨⟨k + 1, n, by omega, by go_num, rfl, hn, by show _ = _; rw [Hsn.out]; omega, trivial⟩, by simp [intOf]; omega⟩
    · obtain rfl : k = ws.length := by omega
      have Hres : Hid (longN ws = n) := by have := HN.out; rwa [List.take_length] at this
      go_wp2
      go_ret
      exact Ret.mk hX (congrArg (fun n : Nat => Value.int .i64 (n : Int)) Hres.out.symm)
end Go.Proofs.Ytkbhkadienddmaa
