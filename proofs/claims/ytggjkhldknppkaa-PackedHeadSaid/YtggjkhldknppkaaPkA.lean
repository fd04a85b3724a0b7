/- bytes.Equal, and packed words' Same, of the program and of the document. -/
import Derived.Test.YtggjkhldknppkaaRS
import Derived.Test.YtggjkhldknppkaaProg
import Derived.WalkSpells
import Derived.WalkLawsBesides
import Derived.Deep.Cut
import Derived.Deep.QuietTactic
namespace Go.Proofs.Ytggjkhldknppkaa
open Go.RowKit
section
variable {P : Program} {Q : Exit → Act → World → Prop} {ops : Array Oper} {M m : Nat} {a0 : Act} {w0 : World} {K : List Oper → List VP → Prop} {o : Oper} {rest : List Oper} {env : List VP}
theorem VWalk.eqTd {a b : List UInt8} (t t' : TypeId) (x y : Operand) (ho : o.op = .binOp .eql t x y t') (hw : Want ops M a0 w0 env o true) (hx : Opd ops M a0 w0 env o x (VEq (.string ⟨a.toArray⟩))) (hy : Opd ops M a0 w0 env o y (VEq (.string ⟨b.toArray⟩)))
    (hr : VWalk P Q ops M a0 w0 K m rest (VEq (.bool (decide (a = b))) :: env)) : VWalk P Q ops M a0 w0 K (m + 1) (o :: rest) env := by
  by_cases h : a = b
  · rw [show decide (a = b) = true by simpa using h] at hr
    exact VWalk.eqTs t t' x y ho hw hx hy (by rw [h]) hr
  · rw [show decide (a = b) = false by simpa using h] at hr
    exact .det2 x y hw hx hy (fun ρ w _ h1 h2 => by
      unfold execOp
      simp [ho, h1, h2, go_sem, h]) hr
end
set_option maxRecDepth 100000 in
theorem equal_any (xs ys : List UInt8) (u v : Value) (w : World) (hX : VBytes xs u w) (hY : VBytes ys v w) : Calls Try.prog 33 #[u, v] w (Ret w (VEq (.bool (decide (xs = ys))))) := by
  obtain ⟨A, c, rfl, -⟩ := VBytes.form hX
  obtain ⟨B, d, rfl, -⟩ := VBytes.form hY
  go_enter Try.func33, Try.ntmps33
  go_upto_region 1 with (fail)
  refine vregion0 5 (by kernel_rfl) ?_
  refine VWalk.move _ rfl (want_none rfl) (opd_fr 0 rfl hX (Ext.rf _) (by kernel_rfl)) ?_
  refine VWalk.string 23 9 5 _ rfl Try.underlying23 Try.underlying5 Try.underlying9 (want_none rfl) (opd_dep 0 5 0 rfl rfl rfl rfl) ?_
  refine VWalk.move _ rfl (want_none rfl) (opd_fr 1 rfl hY (Ext.rf _) (by kernel_rfl)) ?_
  refine VWalk.string 23 9 5 _ rfl Try.underlying23 Try.underlying5 Try.underlying9 (want_none rfl) (opd_dep 2 7 0 rfl rfl rfl rfl) ?_
  refine VWalk.eqTd _ _ _ _ rfl (want_none rfl) (opd_dep 1 6 2 rfl rfl rfl rfl) (opd_dep 3 8 0 rfl rfl rfl rfl) ?_
  refine ⟨rfl, fun W1 hE1 => ?_⟩
  refine VFin.any fun v1_0 hv1_0 => ?_
  refine VFin.eq ?_  -- 1
  refine VFin.any fun v1_2 hv1_2 => ?_
  refine VFin.eq ?_  -- 3
  refine VFin.eq ?_  -- 4
  refine VFin.nil ?_
  simp only [Act.put, List.setIfInBounds_toArray, List.set_cons_zero, List.set_cons_succ]
  clear hv1_0 hv1_2
  have hX := VP.st _ _ _ _ hX hE1
  have hY := VP.st _ _ _ _ hY hE1
  have hE := hE1
  go_wp2
  go_ret
  exact Ret.mk hE rfl
theorem same_pre {xs ys : List (List UInt8)} {k : Nat} (he : ∀ (h1 : k < xs.length) (h2 : k < ys.length), xs[k] = ys[k]) (h : ∀ (i : Nat) (h1 : i < xs.length) (h2 : i < ys.length), i < k → xs[i] = ys[i]) : ∀ (i : Nat) (h1 : i < xs.length) (h2 : i < ys.length), i < k + 1 → xs[i] = ys[i] := fun i h1 h2 h3 => by
  by_cases e : i = k
  · subst e; exact he h1 h2
  · exact h i h1 h2 (by omega)
set_option maxRecDepth 100000 in
set_option maxHeartbeats 2000000 in
theorem pksame_any (xs ys : List (List UInt8)) (u v : Value) (w : World) (hP : VParts xs u w) (hR : VParts ys v w) : Calls Try.prog 18 #[u, v] w (Ret w (VEq (.bool (decide (xs = ys))))) := by
  have hP0 := hP
  have hR0 := hR
  obtain ⟨A, c, rfl, hc1, hc2, -⟩ := VParts.form hP
  obtain ⟨B, d, rfl, hd1, hd2, -⟩ := VParts.form hR
  unfold maxLen at hc2 hd2
  clear hP hR
  obtain ⟨z, hz⟩ : ∃ z, decide (xs = ys) = z := ⟨_, rfl⟩
  rw [hz]
  by_cases hl : xs.length = ys.length
  case neg =>
    obtain rfl : z = false := by rw [← hz]; exact decide_eq_false fun h => hl (by rw [h])
    have hl' : ((xs.length : Int) == (ys.length : Int)) = false := by rw [beq_eq_false_iff_ne]; omega
    clear hz hl hP0 hR0
    go_enter Try.func18, Try.ntmps18
    go_wp2
    go_ret
    exact Ret.mk (Ext.rf w) rfl
  have Hz := hide hz
  have Hl := hide hl
  have hl2 : (xs.length : Int) = (ys.length : Int) := by omega
  clear hz hl
  go_enter Try.func18, Try.ntmps18
  go_wp2
  go_loopw [14] (fun i wr => ∃ k : Nat, k ≤ xs.length ∧ i = .int .i64 (k : Int) ∧ Hid (∀ (i : Nat) (h1 : i < xs.length) (h2 : i < ys.length), i < k → xs[i] = ys[i]) ∧ Hid (Below w.heap.size w wr)) (fun i _ => xs.length - (intOf i).toNat)
  case atStart => exact ⟨0, by omega, rfl, hide (fun i _ _ h => by omega), hide (Ext.rf w)⟩
  case round =>
    obtain ⟨k, hk, rfl, HS, HE⟩ := hrel
    have hE : Ext w wr := HE.out
    by_cases hlt : k < xs.length
    · have hlt2 : k < ys.length := by have := Hl.out; omega
      have hP := VP.st _ _ _ _ hP0 hE
      have hR := VP.st _ _ _ _ hR0 hE
      obtain ⟨A', c', e1, _, _, hx⟩ := VParts.form hP
      obtain ⟨B', d', e2, _, _, hy⟩ := VParts.form hR
      cases e1
      cases e2
      obtain ⟨b1, o1, rfl, hl1, hx1⟩ := hx (by omega)
      obtain ⟨b2, o2, rfl, hl2, hy1⟩ := hy (by omega)
      obtain ⟨zx, hzx, hzx2⟩ := hx1 k hlt
      obtain ⟨zy, hzy, hzy2⟩ := hy1 k hlt2
      have heq := equal_any xs[k] ys[k] zx zy wr hzx2 hzy2
      obtain ⟨Ax, cx, rfl, -⟩ := VBytes.form hzx2
      obtain ⟨Ay, cy, rfl, -⟩ := VBytes.form hzy2
      clear hx hy hx1 hy1 hzx2 hzy2 hP hR
      by_cases he : xs[k] = ys[k]
      · have HS2 := hide (same_pre (fun _ _ => he) HS.out)
        rw [decide_eq_true he] at heq
        clear HS he
        generalize xs[k].length = n1 at *
        generalize ys[k].length = n2 at *
        go_wp2_with fail
        refine heq.mono ?_
        rintro e w2 ⟨u, rfl, hE2, rfl⟩
        have HE2 : Hid (Below w.heap.size w w2) := hide (hE.tr hE2)
        clear heq hzx hzy
        go_wp2
        exact ⟨⟨k + 1, by omega, by go_num, HS2, HE2⟩, by simp [intOf]; omega⟩
      · have Hres : Hid (z = false) := by show _ = _; rw [← Hz.out]; exact decide_eq_false fun h => he (by simp only [h])
        rw [decide_eq_false he] at heq
        clear HS he
        generalize xs[k].length = n1 at *
        generalize ys[k].length = n2 at *
        go_wp2_with fail
        refine heq.mono ?_
        rintro e w2 ⟨u, rfl, hE2, rfl⟩
        have hEf := hE.tr hE2
        clear heq hzx hzy
        go_wp2
        go_ret
        exact Ret.mk hEf (congrArg Value.bool Hres.out.symm)
    · obtain rfl : k = xs.length := by omega
      have Hres : Hid (z = true) := by
        show _ = _
        rw [← Hz.out]
        exact decide_eq_true (List.ext_getElem Hl.out fun i h1 h2 => HS.out i h1 h2 h1)
      clear HS
      go_wp2
      go_ret
      exact Ret.mk hE (congrArg Value.bool Hres.out.symm)
set_option maxRecDepth 100000 in
set_option maxHeartbeats 2000000 in
theorem rpksame_any (xs ys : List (List UInt8)) (u v : Value) (w : World) (hP : VParts xs u w) (hR : VParts ys v w) : Calls Try.prog 14 #[u, v] w (Ret w (VEq (.bool (decide (xs = ys))))) := by
  have hP0 := hP
  have hR0 := hR
  obtain ⟨A, c, rfl, hc1, hc2, -⟩ := VParts.form hP
  obtain ⟨B, d, rfl, hd1, hd2, -⟩ := VParts.form hR
  unfold maxLen at hc2 hd2
  clear hP hR
  obtain ⟨z, hz⟩ : ∃ z, decide (xs = ys) = z := ⟨_, rfl⟩
  rw [hz]
  by_cases hl : xs.length = ys.length
  case neg =>
    obtain rfl : z = false := by rw [← hz]; exact decide_eq_false fun h => hl (by rw [h])
    have hl' : ((xs.length : Int) == (ys.length : Int)) = false := by rw [beq_eq_false_iff_ne]; omega
    clear hz hl hP0 hR0
    go_enter Try.func14, Try.ntmps14
    go_wp2
    go_ret
    exact Ret.mk (Ext.rf w) rfl
  have Hz := hide hz
  have Hl := hide hl
  have hl2 : (xs.length : Int) = (ys.length : Int) := by omega
  clear hz hl
  go_enter Try.func14, Try.ntmps14
  go_wp2
  go_loopw [5] (fun i wr => ∃ k : Nat, k ≤ xs.length ∧ i = .int .i64 (k : Int) ∧ Hid (∀ (i : Nat) (h1 : i < xs.length) (h2 : i < ys.length), i < k → xs[i] = ys[i]) ∧ Hid (Below w.heap.size w wr)) (fun i _ => xs.length - (intOf i).toNat)
  case atStart => exact ⟨0, by omega, rfl, hide (fun i _ _ h => by omega), hide (Ext.rf w)⟩
  case round =>
    obtain ⟨k, hk, rfl, HS, HE⟩ := hrel
    have hE : Ext w wr := HE.out
    by_cases hlt : k < xs.length
    · have hlt2 : k < ys.length := by have := Hl.out; omega
      have hP := VP.st _ _ _ _ hP0 hE
      have hR := VP.st _ _ _ _ hR0 hE
      by_cases he : xs[k] = ys[k]
      · have HS2 := hide (same_pre (fun _ _ => he) HS.out)
        have hs : (⟨xs[k].toArray⟩ : ByteArray) = ⟨ys[k].toArray⟩ := by rw [he]
        clear HS he
        go_upto_region 6 with (fail)
        refine vregion 11 [] (by kernel_rfl) (by kernel_rfl) (fun _ _ _ _ _ h => h) ?_
        refine VWalk.move _ rfl (want_none rfl) (opd_fr 0 rfl hP (ext_drew _) (by kernel_rfl)) ?_
        refine VWalk.move _ rfl (want_none rfl) (opd_frame 5 rfl (by kernel_rfl)) ?_
        refine VWalk.indexP 22 23 _ _ .i64 k rfl Try.underlying22 (by kernel_rfl) (want_none rfl) (opd_dep 0 17 1 rfl rfl rfl rfl) (opd_dep 1 18 0 rfl rfl rfl rfl) hlt ?_
        refine VWalk.loadP 23 _ rfl (want_none rfl) (opd_dep 2 19 0 rfl rfl rfl rfl) (fun _ => by kernel_rfl) ?_
        refine VWalk.string 23 9 5 _ rfl Try.underlying23 Try.underlying5 Try.underlying9 (want_none rfl) (opd_dep 3 20 0 rfl rfl rfl rfl) ?_
        refine VWalk.move _ rfl (want_none rfl) (opd_fr 1 rfl hR (ext_drew _) (by kernel_rfl)) ?_
        refine VWalk.move _ rfl (want_none rfl) (opd_frame 5 rfl (by kernel_rfl)) ?_
        refine VWalk.indexP 22 23 _ _ .i64 k rfl Try.underlying22 (by kernel_rfl) (want_none rfl) (opd_dep 5 22 1 rfl rfl rfl rfl) (opd_dep 6 23 0 rfl rfl rfl rfl) hlt2 ?_
        refine VWalk.loadP 23 _ rfl (want_none rfl) (opd_dep 7 24 0 rfl rfl rfl rfl) (fun _ => by kernel_rfl) ?_
        refine VWalk.string 23 9 5 _ rfl Try.underlying23 Try.underlying5 Try.underlying9 (want_none rfl) (opd_dep 8 25 0 rfl rfl rfl rfl) ?_
        refine VWalk.neTs _ _ _ _ rfl (want_none rfl) (opd_dep 4 21 5 rfl rfl rfl rfl) (opd_dep 9 26 0 rfl rfl rfl rfl) hs ?_
        refine ⟨rfl, fun W6 hE6 => ?_⟩
        refine VFin.any fun v6_0 hv6_0 => ?_
        refine VFin.eq ?_  -- 1
        refine VFin.any fun v6_2 hv6_2 => ?_
        refine VFin.any fun v6_3 hv6_3 => ?_
        refine VFin.eq ?_  -- 4
        refine VFin.any fun v6_5 hv6_5 => ?_
        refine VFin.eq ?_  -- 6
        refine VFin.any fun v6_7 hv6_7 => ?_
        refine VFin.any fun v6_8 hv6_8 => ?_
        refine VFin.eq ?_  -- 9
        refine VFin.eq ?_  -- 10
        refine VFin.nil ?_
        simp only [Act.put, List.setIfInBounds_toArray, List.set_cons_zero, List.set_cons_succ]
        clear hv6_0 hv6_2 hv6_3 hv6_5 hv6_7 hv6_8
        have hP := VP.st _ _ _ _ hP ((ext_drew _).tr hE6)
        have hR := VP.st _ _ _ _ hR ((ext_drew _).tr hE6)
        have hE := hE.tr ((ext_drew _).tr hE6)
        have HE2 : Hid (Below w.heap.size w W6) := hide hE
        clear hE hP hR hs
        go_wp2
        exact ⟨⟨k + 1, by omega, by go_num, HS2, HE2⟩, by simp [intOf]; omega⟩
      · have hs : xs[k] ≠ ys[k] := he
        have Hres : Hid (z = false) := by show _ = _; rw [← Hz.out]; exact decide_eq_false fun h => he (by simp only [h])
        clear HS he
        go_upto_region 6 with (fail)
        refine vregion 11 [] (by kernel_rfl) (by kernel_rfl) (fun _ _ _ _ _ h => h) ?_
        refine VWalk.move _ rfl (want_none rfl) (opd_fr 0 rfl hP (ext_drew _) (by kernel_rfl)) ?_
        refine VWalk.move _ rfl (want_none rfl) (opd_frame 5 rfl (by kernel_rfl)) ?_
        refine VWalk.indexP 22 23 _ _ .i64 k rfl Try.underlying22 (by kernel_rfl) (want_none rfl) (opd_dep 0 17 1 rfl rfl rfl rfl) (opd_dep 1 18 0 rfl rfl rfl rfl) hlt ?_
        refine VWalk.loadP 23 _ rfl (want_none rfl) (opd_dep 2 19 0 rfl rfl rfl rfl) (fun _ => by kernel_rfl) ?_
        refine VWalk.string 23 9 5 _ rfl Try.underlying23 Try.underlying5 Try.underlying9 (want_none rfl) (opd_dep 3 20 0 rfl rfl rfl rfl) ?_
        refine VWalk.move _ rfl (want_none rfl) (opd_fr 1 rfl hR (ext_drew _) (by kernel_rfl)) ?_
        refine VWalk.move _ rfl (want_none rfl) (opd_frame 5 rfl (by kernel_rfl)) ?_
        refine VWalk.indexP 22 23 _ _ .i64 k rfl Try.underlying22 (by kernel_rfl) (want_none rfl) (opd_dep 5 22 1 rfl rfl rfl rfl) (opd_dep 6 23 0 rfl rfl rfl rfl) hlt2 ?_
        refine VWalk.loadP 23 _ rfl (want_none rfl) (opd_dep 7 24 0 rfl rfl rfl rfl) (fun _ => by kernel_rfl) ?_
        refine VWalk.string 23 9 5 _ rfl Try.underlying23 Try.underlying5 Try.underlying9 (want_none rfl) (opd_dep 8 25 0 rfl rfl rfl rfl) ?_
        refine VWalk.neTs' _ _ _ _ rfl (want_none rfl) (opd_dep 4 21 5 rfl rfl rfl rfl) (opd_dep 9 26 0 rfl rfl rfl rfl) hs ?_
        refine ⟨rfl, fun W6 hE6 => ?_⟩
        refine VFin.any fun v6_0 hv6_0 => ?_
        refine VFin.eq ?_  -- 1
        refine VFin.any fun v6_2 hv6_2 => ?_
        refine VFin.any fun v6_3 hv6_3 => ?_
        refine VFin.eq ?_  -- 4
        refine VFin.any fun v6_5 hv6_5 => ?_
        refine VFin.eq ?_  -- 6
        refine VFin.any fun v6_7 hv6_7 => ?_
        refine VFin.any fun v6_8 hv6_8 => ?_
        refine VFin.eq ?_  -- 9
        refine VFin.eq ?_  -- 10
        refine VFin.nil ?_
        simp only [Act.put, List.setIfInBounds_toArray, List.set_cons_zero, List.set_cons_succ]
        clear hv6_0 hv6_2 hv6_3 hv6_5 hv6_7 hv6_8
        have hP := VP.st _ _ _ _ hP ((ext_drew _).tr hE6)
        have hR := VP.st _ _ _ _ hR ((ext_drew _).tr hE6)
        have hE := hE.tr ((ext_drew _).tr hE6)
        clear hP hR hs
        go_wp2
        go_ret
        exact Ret.mk hE (congrArg Value.bool Hres.out.symm)
    · obtain rfl : k = xs.length := by omega
      have Hres : Hid (z = true) := by
        show _ = _
        rw [← Hz.out]
        exact decide_eq_true (List.ext_getElem Hl.out fun i h1 h2 => HS.out i h1 h2 h1)
      clear HS
      go_wp2
      go_ret
      exact Ret.mk hE (congrArg Value.bool Hres.out.symm)
end Go.Proofs.Ytggjkhldknppkaa
