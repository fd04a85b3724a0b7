/- LinesParts, walked. -/
import Derived.Test.YtdaghnnmbilgfaaLinN
namespace Go.Proofs.Ytdaghnnmbilgfaa
open Go.RowKit Go.Shelf LinM
namespace LinM
def fillB (n p k : Nat) : List UInt8 := (List.range n).map fun j => if p ≤ j ∧ j < k then 10 else 0
theorem fillB_len (n p k : Nat) : (fillB n p k).length = n := by unfold fillB; simp
theorem fillB_zero (n p : Nat) : fillB n p 0 = List.replicate n 0 := by
  unfold fillB
  simp [List.map_const']
theorem fillB_set (n p k : Nat) (h : p ≤ k) : (fillB n p k).set k 10 = fillB n p (k + 1) := by
  unfold fillB
  apply List.ext_getElem
  · simp
  · intro i h1 h2
    simp only [List.getElem_set, List.getElem_map, List.getElem_range]
    split
    · subst_vars; simp [h]
    · simp only [show (p ≤ i ∧ i < k + 1) ↔ (p ≤ i ∧ i < k) by omega]
theorem fillB_skip (n p k : Nat) (h : k < p) : fillB n p (k + 1) = fillB n p k := by
  unfold fillB
  apply List.map_congr_left
  intro i _
  simp only [show (p ≤ i ∧ i < k + 1) ↔ (p ≤ i ∧ i < k) by omega]
theorem fillB_end (p l s : Nat) : fillB (p + l + s) p (p + l) = List.replicate p 0 ++ (List.replicate l 10 ++ List.replicate s 0) := by
  unfold fillB
  apply List.ext_getElem
  · simp; omega
  · intro i h1 h2
    simp only [List.getElem_map, List.getElem_range, List.getElem_append, List.getElem_replicate, List.length_replicate]
    repeat' split
    all_goals first | rfl | (exfalso; omega)
theorem countC_zeros (a l s : Int) (m : Nat) : countC (a, l, s) (List.replicate m 0) = (a + m, l, s + m) := by
  induction m generalizing a s with
  | zero => simp [countC]
  | succ m ih =>
    rw [List.replicate_succ]
    show countC (stepC (a, l, s) 0) _ = _
    rw [show stepC (a, l, s) 0 = (a + 1, l, s + 1) from rfl, ih, show a + 1 + (m : Int) = a + ((m + 1 : Nat) : Int) by omega, show s + 1 + (m : Int) = s + ((m + 1 : Nat) : Int) by omega]
theorem countC_tens (a l s : Int) (m : Nat) : countC (a, l, s) (List.replicate m 10) = (a + m, l + m, if m = 0 then s else 0) := by
  induction m generalizing a l s with
  | zero => simp [countC]
  | succ m ih =>
    rw [List.replicate_succ]
    show countC (stepC (a, l, s) 10) _ = _
    rw [show stepC (a, l, s) 10 = (a + 1, l + 1, 0) from rfl, ih]
    simp only [Prod.mk.injEq]
    refine ⟨by omega, by omega, ?_⟩
    simp
theorem countC_fill (n l s : Nat) (h : l + s ≤ n) (h0 : l = 0 → s = n) : countC (0, 0, 0) (fillB n (n - s - l) (n - s)) = ((n : Int), (l : Int), (s : Int)) := by
  obtain ⟨p, rfl⟩ : ∃ p, n = p + l + s := ⟨n - s - l, by omega⟩
  rw [show p + l + s - s - l = p by omega, show p + l + s - s = p + l by omega, fillB_end, countC_append, countC_append, countC_zeros, countC_tens, countC_zeros]
  simp only [Prod.mk.injEq]
  refine ⟨by omega, by omega, ?_⟩
  split <;> omega
end LinM
theorem Try.infoU : (Try.prog.info? 5).map (fun i => (i.zero, i.size, i.bytes)) = some (some (.int .u8 0), 1, 1) := by kernel_rfl
theorem OwnB.zeros {w : World} {base n : Nat} {e : TypeId} {v : Value} (h : w.ownsRow base e 1 v n (madeCells (Value.int .u8 0).cells (n * 1)).toList) : OwnB w base e v (List.replicate n 0) := by
  have e1 : (madeCells (Value.int .u8 0).cells (n * 1)).toList = (List.replicate n (0 : UInt8)).map byteV := by
    apply List.ext_getElem
    · simp [madeCells]
    · intro i h1 h2
      simp [madeCells, Value.cells, Nat.mod_one, byteV]
  unfold OwnB
  rw [← e1, List.length_replicate]
  exact h
set_option maxRecDepth 100000 in
set_option maxHeartbeats 2000000 in
theorem linesParts_any (c : Cnt) (bs : List UInt8) (at_ : Int) (v : Value) (w : World) (hB : VBytes bs v w) : Calls Try.prog 4 #[cntV c, v, .int .i64 at_] w (Ret w (VEq (.bool true))) := by
  have hwk := wakes_any
  have hrc := right16_any c
  have hB0 := hB
  obtain ⟨A, cp, rfl, hc1, hc2, -⟩ := VBytes.form hB
  unfold maxLen at hc2
  clear hB
  by_cases hR : rightC c = false
  · rw [hR] at hrc
    clear hR hB0
    obtain ⟨a, l, s⟩ := c
    unfold cntV at *
    dsimp only at *
    go_enter Try.func4, Try.ntmps4
    go_wp2_with fail
    refine (hrc _).mono ?_
    rintro e w1 ⟨u, rfl, hE1, rfl⟩
    have hE := (ext_alloc w (.cells #[.int .i64 a, .int .i64 l, .int .i64 s] 25)).tr hE1
    clear hrc hE1
    go_wp2_with fail
    refine (hwk _).mono ?_
    rintro e w2 ⟨u, rfl, hE2, rfl⟩
    go_wp2
    go_ret
    exact Ret.mk (hE.tr hE2) rfl
  have hR : rightC c = true := by simpa using hR
  rw [hR] at hrc
  have hri := (rightC_iff c).1 hR
  obtain ⟨a, l, s⟩ := c
  dsimp only at hri
  obtain ⟨n, rfl⟩ : ∃ n : Nat, a = n := ⟨a.toNat, by omega⟩
  obtain ⟨l, rfl⟩ : ∃ l' : Nat, l = l' := ⟨l.toNat, by omega⟩
  obtain ⟨s, rfl⟩ : ∃ s' : Nat, s = s' := ⟨s.toNat, by omega⟩
  have hls : l + s ≤ n := by omega
  have Hl0 : Hid (l = 0 → s = n) := fun h => by omega
  have hn0 : n ≤ 2147483647 := by omega
  clear hri
  unfold cntV at *
  dsimp only at *
  go_enter Try.func4, Try.ntmps4
  go_wp2_with fail
  refine (hrc _).mono ?_
  rintro e w1 ⟨u, rfl, hE1, rfl⟩
  have hbc := (Box.new w 25 #[.int .i64 n, .int .i64 l, .int .i64 s]).ext hE1
  have hE := (ext_alloc w (.cells #[.int .i64 n, .int .i64 l, .int .i64 s] 25)).tr hE1
  have hbc0 := hbc.at_ 0 rfl
  clear hrc hE1
  by_cases hn : n ≤ 2000
  case neg =>
    clear Hl0 hR hB0
    go_wp2_with fail
    refine (hwk _).mono ?_
    rintro e w2 ⟨u, rfl, hE2, rfl⟩
    go_wp2
    go_ret
    exact Ret.mk (hE.tr hE2) rfl
  by_cases hlen : bs.length ≤ 300
  case neg =>
    clear Hl0 hR hB0
    go_wp2_with fail
    refine (hwk _).mono ?_
    rintro e w2 ⟨u, rfl, hE2, rfl⟩
    go_wp2
    go_ret
    exact Ret.mk (hE.tr hE2) rfl
  obtain ⟨k, hkl, hk⟩ : ∃ k : Nat, k ≤ bs.length ∧ (if (bs.length : Int) < (if at_ < 0 then 0 else at_) then (bs.length : Int) else (if at_ < 0 then 0 else at_)) = (k : Int) := by
    by_cases h1 : at_ < 0
    · exact ⟨0, by omega, by rw [if_pos h1, if_neg (by omega)]; rfl⟩
    by_cases h2 : (bs.length : Int) < at_
    · exact ⟨bs.length, Nat.le_refl _, by rw [if_neg h1, if_pos h2]⟩
    · exact ⟨at_.toNat, by omega, by rw [if_neg h1, if_neg h2]; omega⟩
  have hB := VP.st _ _ _ _ hB0 hE
  obtain ⟨mx, hmx⟩ : ∃ mx, (if at_ < 0 then 0 else at_) = mx := ⟨_, rfl⟩
  rw [hmx] at hk
  have Hk := hide hk
  have Hmx := hide hmx
  clear hk hB0 hmx
  go_upto_region 3 with (fail)
  refine vregion0 5 (by kernel_rfl) ?_
  refine VWalk.move _ rfl (want_none rfl) (opd_frame 2 rfl (by kernel_rfl)) ?_
  refine VWalk.det2 (r := .int .i64 mx) (Operand.tmp 33) (Operand.const (Value.int IntKind.i64 0)) (want_none rfl) (opd_dep 0 33 0 rfl rfl rfl rfl) (opd_const _) (fun ρ w hE h1 h2 => by simp [execOp, h1, h2, go_sem]; exact Hmx.out) ?_
  refine VWalk.move _ rfl (want_none rfl) (opd_fr 1 rfl hB (Ext.rf _) (by kernel_rfl)) ?_
  refine VWalk.lenB 22 5 _ rfl Try.underlying22 (want_none rfl) (opd_dep 2 35 0 rfl rfl rfl rfl) ?_
  refine VWalk.det2 (r := .int .i64 (k : Int)) (Operand.tmp 34) (Operand.tmp 36) (want_none rfl) (opd_dep 1 34 2 rfl rfl rfl rfl) (opd_dep 3 36 0 rfl rfl rfl rfl) (fun ρ w hE h1 h2 => by simp [execOp, h1, h2, go_sem]; exact Hk.out) ?_
  refine ⟨rfl, fun W3 hE3 => ?_⟩
  refine VFin.eq ?_  -- 0
  refine VFin.eq ?_  -- 1
  refine VFin.any fun v3_2 hv3_2 => ?_
  refine VFin.eq ?_  -- 3
  refine VFin.eq ?_  -- 4
  refine VFin.nil ?_
  simp only [Act.put, List.setIfInBounds_toArray, List.set_cons_zero, List.set_cons_succ]
  clear hv3_2
  have hB := VP.st _ _ _ _ hB hE3
  have hbc := hbc.ext hE3
  have hE := hE.tr hE3
  clear Hk Hmx
  have hcnt : countC ((n : Int), (l : Int), (s : Int)) bs = countC (countC ((n : Int), (l : Int), (s : Int)) (bs.take k)) (bs.drop k) := by rw [← countC_append, List.take_append_drop]
  obtain ⟨q1, hq1⟩ : ∃ q1, countC ((n : Int), (l : Int), (s : Int)) (bs.take k) = q1 := ⟨_, rfl⟩
  obtain ⟨q, hq⟩ : ∃ q, countC ((n : Int), (l : Int), (s : Int)) bs = q := ⟨_, rfl⟩
  have hr1 : rightC q1 = true := by rw [← hq1]; exact countC_right _ _ hR (by rw [List.length_take]; show (n : Int) + _ ≤ _; omega)
  have ha1 : q1.1 = (n : Int) + k := by rw [← hq1, countC_at, List.length_take]; show (n : Int) + _ = _; omega
  rw [hq1, hq] at hcnt
  have hf4 : ∀ v W, VSl [VBytes bs] v W → Calls Try.prog 9 #[cntV ((n : Int), (l : Int), (s : Int)), v] W (Ret W (VTup [VEq (cntV q), VEq (.int .i64 0)])) := fun v W hv => by
    have := feed_yes ((n : Int), (l : Int), (s : Int)) [bs] v W hv hR (by rw [show [bs].flatten = bs by simp]; show (n : Int) + _ ≤ _; omega)
    rwa [show [bs].flatten = bs by simp, hq] at this
  have hf5 : ∀ v W, VSl [VBytes (bs.take k)] v W → Calls Try.prog 9 #[cntV ((n : Int), (l : Int), (s : Int)), v] W (Ret W (VTup [VEq (cntV q1), VEq (.int .i64 0)])) := fun v W hv => by
    have := feed_yes ((n : Int), (l : Int), (s : Int)) [bs.take k] v W hv hR (by rw [show [bs.take k].flatten = bs.take k by simp, List.length_take]; show (n : Int) + _ ≤ _; omega)
    rwa [show [bs.take k].flatten = bs.take k by simp, hq1] at this
  have hf6 : ∀ v W, VSl [VBytes (bs.drop k)] v W → Calls Try.prog 9 #[cntV q1, v] W (Ret W (VTup [VEq (cntV q), VEq (.int .i64 0)])) := fun v W hv => by
    have := feed_yes q1 [bs.drop k] v W hv hr1 (by rw [show [bs.drop k].flatten = bs.drop k by simp, List.length_drop, ha1]; omega)
    rwa [show [bs.drop k].flatten = bs.drop k by simp, ← hcnt] at this
  have hf7 : ∀ v W, VSl [VBytes (bs.take k), VBytes [], VBytes (bs.drop k)] v W → Calls Try.prog 9 #[cntV ((n : Int), (l : Int), (s : Int)), v] W (Ret W (VTup [VEq (cntV q), VEq (.int .i64 0)])) := fun v W hv => by
    have := feed_yes ((n : Int), (l : Int), (s : Int)) [bs.take k, [], bs.drop k] v W hv hR (by rw [show [bs.take k, [], bs.drop k].flatten = bs by simp]; show (n : Int) + _ ≤ _; omega)
    rwa [show [bs.take k, [], bs.drop k].flatten = bs by simp, hq] at this
  clear hcnt hq1 hq hr1 ha1
  obtain ⟨qa, ql, qs⟩ := q
  obtain ⟨pa, pl, ps⟩ := q1
  go_upto_region 4 with (fail)
  refine vregion0 8 (by kernel_rfl) ?_
  refine VWalk.loadBox 25 _ rfl (want_none rfl) (opd_frame 3 rfl (by kernel_rfl)) Try.underlying25 rfl (by kernel_rfl) hbc (Ext.rf _) ?_
  refine VWalk.head (G := VEq (cntV ((n : Int), (l : Int), (s : Int)))) rfl ?_
  refine VWalk.move _ rfl (want_none rfl) (opd_fr 1 rfl hB (Ext.rf _) (by kernel_rfl)) ?_
  refine VWalk.lit (Fs := [_]) [Operand.tmp 40] 37 22 1 _ rfl rfl (by decide) (by decide) rfl Try.underlying37 (by kernel_rfl) (by kernel_rfl) ⟨oneCell_sl _, trivial⟩ (want_none rfl) ⟨(opd_dep 1 40 0 rfl rfl rfl rfl), trivial⟩ ?_
  refine VWalk.call2 9 _ _ _ rfl (enters_of Try.func9 (by kernel_rfl) rfl) (want_none rfl) (opd_dep 0 39 2 rfl rfl rfl rfl) (opd_dep 2 41 0 rfl rfl rfl rfl) (fun u v W hX hu hv => by rw [show u = _ from hu]; exact hf4 v W hv) ?_
  refine VWalk.move _ rfl (want_none rfl) (opd_dep 3 42 0 rfl rfl rfl rfl) ?_
  refine VWalk.extract _ 0 rfl rfl (want_none rfl) (opd_dep 4 38 0 rfl rfl rfl rfl) ?_
  refine VWalk.extract _ 1 rfl rfl (want_none rfl) (opd_dep 4 38 1 rfl rfl rfl rfl) ?_
  refine VWalk.alloc (z := (.agg #[.int .i64 0, .int .i64 0, .int .i64 0])) 25 rfl (want_none rfl) (by kernel_rfl) (by kernel_rfl) ?_
  refine ⟨rfl, fun W4 hE4 => ?_⟩
  refine VFin.eq ?_  -- 0
  refine VFin.any fun v4_1 hv4_1 => ?_
  refine VFin.any fun v4_2 hv4_2 => ?_
  refine VFin.any fun v4_3 hv4_3 => ?_
  refine VFin.any fun v4_4 hv4_4 => ?_
  refine VFin.eq ?_  -- 5
  refine VFin.eq ?_  -- 6
  refine VFin.any fun v4_7 hv4_7 => ?_
  refine VFin.nil ?_
  simp only [Act.put, List.setIfInBounds_toArray, List.set_cons_zero, List.set_cons_succ]
  clear hv4_1 hv4_2 hv4_3 hv4_4
  obtain ⟨g4, rfl, hg, hb, -⟩ := hv4_7
  refine wpList_store_new rfl _ _ _ rfl rfl g4 _ rfl rfl _ _ hb (by kernel_rfl) rfl rfl ?_
  intro V4 hB4 _ hX
  have hE4 := hX _ hE4 hg
  clear hX hb hg
  have hB := VP.st _ _ _ _ hB hE4
  have hbc := hbc.ext hE4
  have hE := hE.tr hE4
  have hb4 : Box V4 g4 25 #[.int .i64 qa, .int .i64 ql, .int .i64 qs] := hB4
  clear hB4 hf4
  go_upto_region 5 with (fail)
  refine vregion 10 [8] (by kernel_rfl) (by kernel_rfl) (fun _ _ _ _ _ h => h) ?_
  refine VWalk.loadBox 25 _ rfl (want_none rfl) (opd_frame 3 rfl (by kernel_rfl)) Try.underlying25 rfl (by kernel_rfl) hbc (ext_drew _) ?_
  refine VWalk.head (G := VEq (cntV ((n : Int), (l : Int), (s : Int)))) rfl ?_
  refine VWalk.move _ rfl (want_none rfl) (opd_fr 1 rfl hB (ext_drew _) (by kernel_rfl)) ?_
  refine VWalk.move _ rfl (want_none rfl) (opd_frame 2 rfl (by kernel_rfl)) ?_
  refine VWalk.cutToB 22 5 _ _ .i64 k rfl Try.underlying22 (by kernel_rfl) (want_none rfl) (opd_dep 1 47 1 rfl rfl rfl rfl) (opd_dep 2 48 0 rfl rfl rfl rfl) hkl ?_
  refine VWalk.lit (Fs := [_]) [Operand.tmp 49] 37 22 1 _ rfl rfl (by decide) (by decide) rfl Try.underlying37 (by kernel_rfl) (by kernel_rfl) ⟨oneCell_sl _, trivial⟩ (want_none rfl) ⟨(opd_dep 3 49 0 rfl rfl rfl rfl), trivial⟩ ?_
  refine VWalk.call2 9 _ _ _ rfl (enters_of Try.func9 (by kernel_rfl) rfl) (want_none rfl) (opd_dep 0 46 4 rfl rfl rfl rfl) (opd_dep 4 50 0 rfl rfl rfl rfl) (fun u v W hX hu hv => by rw [show u = _ from hu]; exact hf5 v W hv) ?_
  refine VWalk.move _ rfl (want_none rfl) (opd_dep 5 51 0 rfl rfl rfl rfl) ?_
  refine VWalk.extract _ 0 rfl rfl (want_none rfl) (opd_dep 6 45 0 rfl rfl rfl rfl) ?_
  refine VWalk.extract _ 1 rfl rfl (want_none rfl) (opd_dep 6 45 1 rfl rfl rfl rfl) ?_
  refine VWalk.alloc (z := (.agg #[.int .i64 0, .int .i64 0, .int .i64 0])) 25 rfl (want_none rfl) (by kernel_rfl) (by kernel_rfl) ?_
  refine ⟨rfl, fun W5 hE5 => ?_⟩
  refine VFin.eq ?_  -- 0
  refine VFin.any fun v5_1 hv5_1 => ?_
  refine VFin.eq ?_  -- 2
  refine VFin.any fun v5_3 hv5_3 => ?_
  refine VFin.any fun v5_4 hv5_4 => ?_
  refine VFin.any fun v5_5 hv5_5 => ?_
  refine VFin.any fun v5_6 hv5_6 => ?_
  refine VFin.eq ?_  -- 7
  refine VFin.eq ?_  -- 8
  refine VFin.any fun v5_9 hv5_9 => ?_
  refine VFin.nil ?_
  simp only [Act.put, List.setIfInBounds_toArray, List.set_cons_zero, List.set_cons_succ]
  clear hv5_1 hv5_3 hv5_4 hv5_5 hv5_6
  obtain ⟨g5, rfl, hg, hb, -⟩ := hv5_9
  refine wpList_store_new rfl _ _ _ rfl rfl g5 _ rfl rfl _ _ hb (by kernel_rfl) rfl rfl ?_
  intro V5 hB5 _ hX
  have hE5 := hX _ hE5 hg
  clear hX hb hg
  have hB := VP.st _ _ _ _ hB ((ext_drew _).tr hE5)
  have hbc := hbc.drew.ext hE5
  have hb4 := hb4.drew.ext hE5
  have hE := hE.tr ((ext_drew _).tr hE5)
  have hb5 : Box V5 g5 25 #[.int .i64 pa, .int .i64 pl, .int .i64 ps] := hB5
  clear hB5 hf5
  go_upto_region 6 with (fail)
  refine vregion 10 [8] (by kernel_rfl) (by kernel_rfl) (fun _ _ _ _ _ h => h) ?_
  refine VWalk.loadBox 25 _ rfl (want_none rfl) (opd_frame 9 rfl (by kernel_rfl)) Try.underlying25 rfl (by kernel_rfl) hb5 (ext_drew _) ?_
  refine VWalk.head (G := VEq (cntV (pa, pl, ps))) rfl ?_
  refine VWalk.move _ rfl (want_none rfl) (opd_fr 1 rfl hB (ext_drew _) (by kernel_rfl)) ?_
  refine VWalk.move _ rfl (want_none rfl) (opd_frame 2 rfl (by kernel_rfl)) ?_
  refine VWalk.cutFromB 22 5 _ _ .i64 k rfl Try.underlying22 (by kernel_rfl) (want_none rfl) (opd_dep 1 56 1 rfl rfl rfl rfl) (opd_dep 2 57 0 rfl rfl rfl rfl) hkl ?_
  refine VWalk.lit (Fs := [_]) [Operand.tmp 58] 37 22 1 _ rfl rfl (by decide) (by decide) rfl Try.underlying37 (by kernel_rfl) (by kernel_rfl) ⟨oneCell_sl _, trivial⟩ (want_none rfl) ⟨(opd_dep 3 58 0 rfl rfl rfl rfl), trivial⟩ ?_
  refine VWalk.call2 9 _ _ _ rfl (enters_of Try.func9 (by kernel_rfl) rfl) (want_none rfl) (opd_dep 0 55 4 rfl rfl rfl rfl) (opd_dep 4 59 0 rfl rfl rfl rfl) (fun u v W hX hu hv => by rw [show u = _ from hu]; exact hf6 v W hv) ?_
  refine VWalk.move _ rfl (want_none rfl) (opd_dep 5 60 0 rfl rfl rfl rfl) ?_
  refine VWalk.extract _ 0 rfl rfl (want_none rfl) (opd_dep 6 54 0 rfl rfl rfl rfl) ?_
  refine VWalk.extract _ 1 rfl rfl (want_none rfl) (opd_dep 6 54 1 rfl rfl rfl rfl) ?_
  refine VWalk.alloc (z := (.agg #[.int .i64 0, .int .i64 0, .int .i64 0])) 25 rfl (want_none rfl) (by kernel_rfl) (by kernel_rfl) ?_
  refine ⟨rfl, fun W6 hE6 => ?_⟩
  refine VFin.eq ?_  -- 0
  refine VFin.any fun v6_1 hv6_1 => ?_
  refine VFin.eq ?_  -- 2
  refine VFin.any fun v6_3 hv6_3 => ?_
  refine VFin.any fun v6_4 hv6_4 => ?_
  refine VFin.any fun v6_5 hv6_5 => ?_
  refine VFin.any fun v6_6 hv6_6 => ?_
  refine VFin.eq ?_  -- 7
  refine VFin.eq ?_  -- 8
  refine VFin.any fun v6_9 hv6_9 => ?_
  refine VFin.nil ?_
  simp only [Act.put, List.setIfInBounds_toArray, List.set_cons_zero, List.set_cons_succ]
  clear hv6_1 hv6_3 hv6_4 hv6_5 hv6_6
  obtain ⟨g6, rfl, hg, hb, -⟩ := hv6_9
  refine wpList_store_new rfl _ _ _ rfl rfl g6 _ rfl rfl _ _ hb (by kernel_rfl) rfl rfl ?_
  intro V6 hB6 _ hX
  have hE6 := hX _ hE6 hg
  clear hX hb hg
  have hB := VP.st _ _ _ _ hB ((ext_drew _).tr hE6)
  have hbc := hbc.drew.ext hE6
  have hb4 := hb4.drew.ext hE6
  have hb5 := hb5.drew.ext hE6
  have hE := hE.tr ((ext_drew _).tr hE6)
  have hb6 : Box V6 g6 25 #[.int .i64 qa, .int .i64 ql, .int .i64 qs] := hB6
  clear hB6 hf6 hb5
  go_upto_region 7 with (fail)
  refine vregion 13 [11] (by kernel_rfl) (by kernel_rfl) (fun _ _ _ _ _ h => h) ?_
  refine VWalk.loadBox 25 _ rfl (want_none rfl) (opd_frame 3 rfl (by kernel_rfl)) Try.underlying25 rfl (by kernel_rfl) hbc (ext_drew _) ?_
  refine VWalk.head (G := VEq (cntV ((n : Int), (l : Int), (s : Int)))) rfl ?_
  refine VWalk.move _ rfl (want_none rfl) (opd_fr 1 rfl hB (ext_drew _) (by kernel_rfl)) ?_
  refine VWalk.move _ rfl (want_none rfl) (opd_frame 2 rfl (by kernel_rfl)) ?_
  refine VWalk.cutToB 22 5 _ _ .i64 k rfl Try.underlying22 (by kernel_rfl) (want_none rfl) (opd_dep 1 65 1 rfl rfl rfl rfl) (opd_dep 2 66 0 rfl rfl rfl rfl) hkl ?_
  refine VWalk.move _ rfl (want_none rfl) (opd_fr 1 rfl hB (ext_drew _) (by kernel_rfl)) ?_
  refine VWalk.move _ rfl (want_none rfl) (opd_frame 2 rfl (by kernel_rfl)) ?_
  refine VWalk.cutFromB 22 5 _ _ .i64 k rfl Try.underlying22 (by kernel_rfl) (want_none rfl) (opd_dep 4 68 1 rfl rfl rfl rfl) (opd_dep 5 69 0 rfl rfl rfl rfl) hkl ?_
  refine VWalk.lit (Fs := [_, _, _]) [Operand.tmp 67, Operand.const (Value.slice none 0 0), Operand.tmp 70] 37 22 3 _ rfl rfl (by decide) (by decide) rfl Try.underlying37 (by kernel_rfl) (by kernel_rfl) ⟨oneCell_sl _, oneCell_sl _, oneCell_sl _, trivial⟩ (want_none rfl) ⟨(opd_dep 3 67 3 rfl rfl rfl rfl), opd_nil, (opd_dep 6 70 0 rfl rfl rfl rfl), trivial⟩ ?_
  refine VWalk.call2 9 _ _ _ rfl (enters_of Try.func9 (by kernel_rfl) rfl) (want_none rfl) (opd_dep 0 64 7 rfl rfl rfl rfl) (opd_dep 7 71 0 rfl rfl rfl rfl) (fun u v W hX hu hv => by rw [show u = _ from hu]; exact hf7 v W hv) ?_
  refine VWalk.move _ rfl (want_none rfl) (opd_dep 8 72 0 rfl rfl rfl rfl) ?_
  refine VWalk.extract _ 0 rfl rfl (want_none rfl) (opd_dep 9 63 0 rfl rfl rfl rfl) ?_
  refine VWalk.extract _ 1 rfl rfl (want_none rfl) (opd_dep 9 63 1 rfl rfl rfl rfl) ?_
  refine VWalk.alloc (z := (.agg #[.int .i64 0, .int .i64 0, .int .i64 0])) 25 rfl (want_none rfl) (by kernel_rfl) (by kernel_rfl) ?_
  refine ⟨rfl, fun W7 hE7 => ?_⟩
  refine VFin.eq ?_  -- 0
  refine VFin.any fun v7_1 hv7_1 => ?_
  refine VFin.eq ?_  -- 2
  refine VFin.any fun v7_3 hv7_3 => ?_
  refine VFin.any fun v7_4 hv7_4 => ?_
  refine VFin.eq ?_  -- 5
  refine VFin.any fun v7_6 hv7_6 => ?_
  refine VFin.any fun v7_7 hv7_7 => ?_
  refine VFin.any fun v7_8 hv7_8 => ?_
  refine VFin.any fun v7_9 hv7_9 => ?_
  refine VFin.eq ?_  -- 10
  refine VFin.eq ?_  -- 11
  refine VFin.any fun v7_12 hv7_12 => ?_
  refine VFin.nil ?_
  simp only [Act.put, List.setIfInBounds_toArray, List.set_cons_zero, List.set_cons_succ]
  clear hv7_1 hv7_3 hv7_4 hv7_6 hv7_7 hv7_8 hv7_9
  obtain ⟨g7, rfl, hg, hb, -⟩ := hv7_12
  refine wpList_store_new rfl _ _ _ rfl rfl g7 _ rfl rfl _ _ hb (by kernel_rfl) rfl rfl ?_
  intro V7 hB7 _ hX
  have hE7 := hX _ hE7 hg
  clear hX hb hg
  have hB := VP.st _ _ _ _ hB ((ext_drew _).tr hE7)
  have hbc := hbc.drew.ext hE7
  have hb4 := hb4.drew.ext hE7
  have hb6 := hb6.drew.ext hE7
  have hE := hE.tr ((ext_drew _).tr hE7)
  have hb7 : Box V7 g7 25 #[.int .i64 qa, .int .i64 ql, .int .i64 qs] := hB7
  clear hB7 hf7
  obtain ⟨i0, hi, hz0, hz1, hz2⟩ := info_parts Try.infoU
  obtain ⟨w8, hrun, hown, hgrow⟩ := run_make_full (P := Try.prog) V7 V7.heap.size 22 5 i0 (.int .u8 0) 1 Try.underlying22 hi hz0 hz1 .i64 .i64 n (by rw [hz2]; omega) (by unfold maxLen; omega) (Nat.le_refl _)
  have hE8 : Ext V7 w8 := ext_of_grown hgrow rfl
  have HO8 := hide (OwnB.zeros hown)
  rw [← fillB_zero n (n - s - l)] at HO8
  have hbc7 := hbc.at_ 0 rfl
  have hls2 : n - s ≤ 2000 := by omega
  clear hown hgrow hi hz0 hz1 hz2 hbc0
  have HC := hide hbc
  clear hbc hB
  go_wp2
  clear hrun hbc7
  go_loopw [16] (fun i wr => ∃ j : Nat, j ≤ n - s ∧ i = .int .i64 (j : Int) ∧ Hid (Below V7.heap.size V7 wr) ∧ Hid (OwnB wr V7.heap.size 5 (.slice (some ⟨V7.heap.size, 0, none⟩) n n) (fillB n (n - s - l) j))) (fun i _ => (n - s) - (intOf i).toNat)
  case atStart => exact ⟨0, by omega, rfl, hide hE8, HO8⟩
  case round =>
    clear HO8 hE8
    obtain ⟨j, hj, rfl, HX, HO⟩ := hrel
    have hbw := HC.out.ext HX.out
    have hd0 := hbw.at_ 0 rfl
    have hd1 := hbw.at_ 1 rfl
    have hd2 := hbw.at_ 2 rfl
    by_cases hlt : j < n - s
    · by_cases hp : n - s - l ≤ j
      · obtain ⟨g, cap, cur, hv, hbg, hx, hl, hm, hsz, htk⟩ := OwnB.row HO.out (by rw [fillB_len]; omega)
        simp only [Value.slice.injEq, Option.some.injEq, Addr.mk.injEq] at hv
        obtain ⟨⟨rfl, -⟩, -, rfl⟩ := hv
        have hat := (hx.cell j).trans (row_at htk (i := j) (by rw [fillB_len]; omega))
        have hfz := hx.frozen j
        unfold byteV at hat
        go_wp2
        refine ⟨⟨j + 1, by omega, by go_num, hide (Below.setCell HX.out (p := ⟨V7.heap.size, j, none⟩) (Nat.le_refl _) _), ?_⟩, by simp [intOf]; omega⟩
        have := OwnB.put hbg hx hl hm hsz htk j 10
        rw [fillB_set _ _ _ hp] at this
        rw [fillB_len] at this
        exact hide this
      · go_wp2
        refine ⟨⟨j + 1, by omega, by go_num, HX, ?_⟩, by simp [intOf]; omega⟩
        rw [fillB_skip _ _ _ (by omega)]
        exact HO
    · obtain rfl : j = n - s := by omega
      have hBz := OwnB.bytes HO.out
      have hX1 : Ext wr (wr.alloc (.cells #[.slice (some ⟨V7.heap.size, 0, none⟩) n n] 22)) := ext_alloc _ _
      have hfd := feed_yes (0, 0, 0) [fillB n (n - s - l) (n - s)] _ _ (VParts.one hBz 22) (by decide) (by rw [show [fillB n (n - s - l) (n - s)].flatten = fillB n (n - s - l) (n - s) by simp, fillB_len]; show (0 : Int) + _ ≤ _; omega)
      rw [show [fillB n (n - s - l) (n - s)].flatten = fillB n (n - s - l) (n - s) by simp, countC_fill n l s hls Hl0.out] at hfd
      unfold cntV at hfd
      dsimp only at hfd
      have hXX : Ext V7 (wr.alloc (.cells #[.slice (some ⟨V7.heap.size, 0, none⟩) n n] 22)) := Ext.tr (show Ext V7 wr from HX.out) hX1
      clear HX HO hBz hX1
      go_wp2_with fail
      refine hfd.mono ?_
      rintro e w9 ⟨u, rfl, hE9, hu⟩
      obtain ⟨_, _, rfl, rfl, rfl⟩ := VTup.inv2 hu
      clear hfd hu hd0 hd1 hd2 hbw
      have hXZ : Ext V7 (w9.alloc (.cells #[.int .i64 n, .int .i64 l, .int .i64 s] 25)) := (hXX.tr hE9).tr (ext_alloc _ _)
      have hb9 := Box.new w9 25 #[.int .i64 n, .int .i64 l, .int .i64 s]
      have hbc := HC.out.ext hXZ
      have hb4 := hb4.ext hXZ
      have hb6 := hb6.ext hXZ
      have hb7 := hb7.ext hXZ
      have hE := hE.tr hXZ
      clear hXX hE9 hXZ HC hj hls Hl0
      go_upto_region 15 with (fail)
      refine vregion0 36 (by kernel_rfl) ?_
      refine VWalk.move _ rfl (want_none rfl) (opd_frame 8 rfl (by kernel_rfl)) ?_
      refine VWalk.eqT _ _ _ _ rfl (want_none rfl) (opd_dep 0 107 0 rfl rfl rfl rfl) (opd_const _) (by decide) ?_
      refine VWalk.move _ rfl (want_none rfl) (opd_dep 1 108 0 rfl rfl rfl rfl) ?_
      refine VWalk.move _ rfl (want_tt 2 109 0 rfl (by kernel_rfl) rfl rfl rfl rfl) (opd_frame 10 rfl (by kernel_rfl)) ?_
      refine VWalk.eqT _ _ _ _ rfl (want_tt 2 109 1 rfl (by kernel_rfl) rfl rfl rfl rfl) (opd_dep 3 110 0 rfl rfl rfl rfl) (opd_const _) (by decide) ?_
      refine VWalk.pickT _ _ _ rfl (want_none rfl) (opd_dep 2 109 2 rfl rfl rfl rfl) (opd_dep 4 111 0 rfl rfl rfl rfl) ?_
      refine VWalk.move _ rfl (want_none rfl) (opd_dep 5 112 0 rfl rfl rfl rfl) ?_
      refine VWalk.move _ rfl (want_tt 6 113 0 rfl (by kernel_rfl) rfl rfl rfl rfl) (opd_frame 12 rfl (by kernel_rfl)) ?_
      refine VWalk.eqT _ _ _ _ rfl (want_tt 6 113 1 rfl (by kernel_rfl) rfl rfl rfl rfl) (opd_dep 7 114 0 rfl rfl rfl rfl) (opd_const _) (by decide) ?_
      refine VWalk.pickT _ _ _ rfl (want_none rfl) (opd_dep 6 113 2 rfl rfl rfl rfl) (opd_dep 8 115 0 rfl rfl rfl rfl) ?_
      refine VWalk.move _ rfl (want_none rfl) (opd_dep 9 116 0 rfl rfl rfl rfl) ?_
      refine VWalk.move _ rfl (want_tt 10 117 0 rfl (by kernel_rfl) rfl rfl rfl rfl) (opd_frame 14 rfl (by kernel_rfl)) ?_
      refine VWalk.eqT _ _ _ _ rfl (want_tt 10 117 1 rfl (by kernel_rfl) rfl rfl rfl rfl) (opd_dep 11 118 0 rfl rfl rfl rfl) (opd_const _) (by decide) ?_
      refine VWalk.pickT _ _ _ rfl (want_none rfl) (opd_dep 10 117 2 rfl rfl rfl rfl) (opd_dep 12 119 0 rfl rfl rfl rfl) ?_
      refine VWalk.move _ rfl (want_none rfl) (opd_dep 13 120 0 rfl rfl rfl rfl) ?_
      refine VWalk.move _ rfl (want_tt 14 121 0 rfl (by kernel_rfl) rfl rfl rfl rfl) (opd_frame 18 rfl (by kernel_rfl)) ?_
      refine VWalk.eqT _ _ _ _ rfl (want_tt 14 121 1 rfl (by kernel_rfl) rfl rfl rfl rfl) (opd_dep 15 122 0 rfl rfl rfl rfl) (opd_const _) (by decide) ?_
      refine VWalk.pickT _ _ _ rfl (want_none rfl) (opd_dep 14 121 2 rfl rfl rfl rfl) (opd_dep 16 123 0 rfl rfl rfl rfl) ?_
      refine VWalk.move _ rfl (want_none rfl) (opd_dep 17 124 0 rfl rfl rfl rfl) ?_
      refine VWalk.loadBox 25 _ rfl (want_tt 18 125 0 rfl (by kernel_rfl) rfl rfl rfl rfl) (opd_frame 11 rfl (by kernel_rfl)) Try.underlying25 rfl (by kernel_rfl) hb6 (Ext.rf _) ?_
      refine VWalk.head (G := VEq (cntV (qa, ql, qs))) rfl ?_
      refine VWalk.loadBox 25 _ rfl (want_tt 18 125 1 rfl (by kernel_rfl) rfl rfl rfl rfl) (opd_frame 7 rfl (by kernel_rfl)) Try.underlying25 rfl (by kernel_rfl) hb4 (Ext.rf _) ?_
      refine VWalk.head (G := VEq (cntV (qa, ql, qs))) rfl ?_
      refine VWalk.eqC _ _ _ _ rfl rfl (want_tt 18 125 2 rfl (by kernel_rfl) rfl rfl rfl rfl) (opd_dep 19 126 1 rfl rfl rfl rfl) (opd_dep 20 127 0 rfl rfl rfl rfl) rfl ?_
      refine VWalk.pickT _ _ _ rfl (want_none rfl) (opd_dep 18 125 3 rfl rfl rfl rfl) (opd_dep 21 128 0 rfl rfl rfl rfl) ?_
      refine VWalk.move _ rfl (want_none rfl) (opd_dep 22 129 0 rfl rfl rfl rfl) ?_
      refine VWalk.loadBox 25 _ rfl (want_tt 23 130 0 rfl (by kernel_rfl) rfl rfl rfl rfl) (opd_frame 13 rfl (by kernel_rfl)) Try.underlying25 rfl (by kernel_rfl) hb7 (Ext.rf _) ?_
      refine VWalk.head (G := VEq (cntV (qa, ql, qs))) rfl ?_
      refine VWalk.loadBox 25 _ rfl (want_tt 23 130 1 rfl (by kernel_rfl) rfl rfl rfl rfl) (opd_frame 7 rfl (by kernel_rfl)) Try.underlying25 rfl (by kernel_rfl) hb4 (Ext.rf _) ?_
      refine VWalk.head (G := VEq (cntV (qa, ql, qs))) rfl ?_
      refine VWalk.eqC _ _ _ _ rfl rfl (want_tt 23 130 2 rfl (by kernel_rfl) rfl rfl rfl rfl) (opd_dep 24 131 1 rfl rfl rfl rfl) (opd_dep 25 132 0 rfl rfl rfl rfl) rfl ?_
      refine VWalk.pickT _ _ _ rfl (want_none rfl) (opd_dep 23 130 3 rfl rfl rfl rfl) (opd_dep 26 133 0 rfl rfl rfl rfl) ?_
      refine VWalk.move _ rfl (want_none rfl) (opd_dep 27 134 0 rfl rfl rfl rfl) ?_
      refine VWalk.loadBox 25 _ rfl (want_tt 28 135 0 rfl (by kernel_rfl) rfl rfl rfl rfl) (opd_frame 17 rfl (by kernel_rfl)) Try.underlying25 rfl (by kernel_rfl) hb9 (Ext.rf _) ?_
      refine VWalk.head (G := VEq (cntV ((n : Int), (l : Int), (s : Int)))) rfl ?_
      refine VWalk.loadBox 25 _ rfl (want_tt 28 135 1 rfl (by kernel_rfl) rfl rfl rfl rfl) (opd_frame 3 rfl (by kernel_rfl)) Try.underlying25 rfl (by kernel_rfl) hbc (Ext.rf _) ?_
      refine VWalk.head (G := VEq (cntV ((n : Int), (l : Int), (s : Int)))) rfl ?_
      refine VWalk.eqC _ _ _ _ rfl rfl (want_tt 28 135 2 rfl (by kernel_rfl) rfl rfl rfl rfl) (opd_dep 29 136 1 rfl rfl rfl rfl) (opd_dep 30 137 0 rfl rfl rfl rfl) rfl ?_
      refine VWalk.pickT _ _ _ rfl (want_none rfl) (opd_dep 28 135 3 rfl rfl rfl rfl) (opd_dep 31 138 0 rfl rfl rfl rfl) ?_
      refine VWalk.move _ rfl (want_none rfl) (opd_dep 32 139 0 rfl rfl rfl rfl) ?_
      refine VWalk.call0 6 _ rfl (enters_of Try.func6 (by kernel_rfl) rfl) (want_tt 33 140 0 rfl (by kernel_rfl) rfl rfl rfl rfl) (fun w _ => hwk w) ?_
      refine VWalk.headT (by decide) ?_
      refine VWalk.pickT _ _ _ rfl (want_none rfl) (opd_dep 33 140 1 rfl rfl rfl rfl) (opd_dep 34 141 0 rfl rfl rfl rfl) ?_
      refine ⟨rfl, fun W15 hE15 => ?_⟩
      refine VFin.eq ?_  -- 0
      refine VFin.eq ?_  -- 1
      refine VFin.eq ?_  -- 2
      refine VFin.eq ?_  -- 3
      refine VFin.eq ?_  -- 4
      refine VFin.eq ?_  -- 5
      refine VFin.eq ?_  -- 6
      refine VFin.eq ?_  -- 7
      refine VFin.eq ?_  -- 8
      refine VFin.eq ?_  -- 9
      refine VFin.eq ?_  -- 10
      refine VFin.eq ?_  -- 11
      refine VFin.eq ?_  -- 12
      refine VFin.eq ?_  -- 13
      refine VFin.eq ?_  -- 14
      refine VFin.eq ?_  -- 15
      refine VFin.eq ?_  -- 16
      refine VFin.eq ?_  -- 17
      refine VFin.eq ?_  -- 18
      refine VFin.eq ?_  -- 19
      refine VFin.eq ?_  -- 20
      refine VFin.eq ?_  -- 21
      refine VFin.eq ?_  -- 22
      refine VFin.eq ?_  -- 23
      refine VFin.eq ?_  -- 24
      refine VFin.eq ?_  -- 25
      refine VFin.eq ?_  -- 26
      refine VFin.eq ?_  -- 27
      refine VFin.eq ?_  -- 28
      refine VFin.eq ?_  -- 29
      refine VFin.eq ?_  -- 30
      refine VFin.eq ?_  -- 31
      refine VFin.eq ?_  -- 32
      refine VFin.eq ?_  -- 33
      refine VFin.eq ?_  -- 34
      refine VFin.eq ?_  -- 35
      refine VFin.nil ?_
      simp only [Act.put, List.setIfInBounds_toArray, List.set_cons_zero, List.set_cons_succ]
      have hbc := hbc.ext hE15
      have hb4 := hb4.ext hE15
      have hb6 := hb6.ext hE15
      have hb7 := hb7.ext hE15
      have hb9 := hb9.ext hE15
      have hE := hE.tr hE15
      go_wp2
      go_ret
      exact Ret.mk hE rfl
end Go.Proofs.Ytdaghnnmbilgfaa
