/- Packed words, taken: whatever the bytes are. -/
import Derived.Test.YtggjkhldknppkaaPkI
namespace Go.Proofs.Ytggjkhldknppkaa
open Go.RowKit Go.Shelf PakM DigM
attribute [local go_sem] Oper.semAt_some
set_option maxRecDepth 100000 in
set_option maxHeartbeats 4000000 in
theorem pktake_head (b : List UInt8) (v : Value) (w : World) (hB : VBytes b v w) (hlen : b.length ≤ 1000000) (hh : (headP b).2 ≠ 0) : Calls Try.prog 10 #[v] w fun e w' => ∃ sv : Value, e = .returned (.tuple #[.bool (takeP b).1, sv, .int .i64 (takeP b).2.2]) ∧ Ext w w' ∧ VParts (takeP b).2.1 sv w' := by
  have hhd := fun W hv => phead_any b v W hv hlen
  have htp : takeP b = (false, [], (headP b).2) := by unfold takeP; rw [if_pos hh]
  rw [htp]
  obtain ⟨⟨fl, er⟩, hp⟩ : ∃ x, headP b = x := ⟨_, rfl⟩
  rw [hp] at hhd hh ⊢
  dsimp only at hhd hh ⊢
  have hB0 := hB
  obtain ⟨A, c, rfl, hc1, hc2, -⟩ := VBytes.form hB
  unfold maxLen at hc2
  have he : (er == 0) = false := by rw [beq_eq_false_iff_ne]; exact hh
  clear hB htp hp hh
  have hX0 : Ext w (((w.alloc (.cells #[.bool false] 4)).alloc (.cells #[.slice none 0 0] 22)).alloc (.cells #[.int .i64 0] 26)) := ((ext_alloc _ _).tr (ext_alloc _ _)).tr (ext_alloc _ _)
  have hb2 := ((Box.new w 4 #[.bool false]).alloc (.cells #[.slice none 0 0] 22)).alloc (.cells #[.int .i64 0] 26)
  have hb3 := (Box.new (w.alloc (.cells #[.bool false] 4)) 22 #[.slice none 0 0]).alloc (.cells #[.int .i64 0] 26)
  have hb4 := Box.new ((w.alloc (.cells #[.bool false] 4)).alloc (.cells #[.slice none 0 0] 22)) 26 #[.int .i64 0]
  rw [World.size_alloc] at hb3 hb4
  rw [World.size_alloc] at hb4
  refine (callsIn_wide (n := 9)).1 ?_
  have h1 : 1 ≤ 9 := by omega
  refine callsIn_of_wp_marks Try.func10 rfl trivial ?_ rfl
  simp only [Try.ntmps10, List.size_toArray, List.length_cons, List.length_nil, Nat.reduceAdd, Nat.reduceSub, Array.replicate_succ, Array.replicate_zero, List.push_toArray, List.append_toArray, List.nil_append, List.cons_append]
  gi_wp2_with fail
  refine ⟨trivial, ?_⟩
  refine (callsIn_wide.2 (hhd _ (VP.st _ _ _ _ hB0 hX0))).mono ?_
  rintro e w2 ⟨u, rfl, hE2, hu⟩
  obtain ⟨_, _, rfl, rfl, rfl⟩ := VTup.inv2 hu
  have hX2 := hX0.tr hE2
  have hb2 := hb2.ext hE2
  have hb3 := hb3.ext hE2
  have hb4 := hb4.ext hE2
  have hc20 := hb2.at_ 0 rfl
  have hf20 := hb2.frozen 0
  have hc40 := hb4.at_ 0 rfl
  have hf40 := hb4.frozen 0
  clear hhd hu hX0 hE2
  gi_upto_region 2 with (fail)
  have hb2 := (hb2.set_ 0 (.bool fl)).far (p := ⟨w.heap.size + 1 + 1, 0, none⟩) (by simp only; omega) (.int .i64 er)
  have hb3 := (hb3.far (p := ⟨w.heap.size, 0, none⟩) (by simp) (.bool fl)).far (p := ⟨w.heap.size + 1 + 1, 0, none⟩) (by simp only; omega) (.int .i64 er)
  have hb40 := hb4
  have hb4 := (hb4.far (p := ⟨w.heap.size, 0, none⟩) (by simp only; omega) (.bool fl)).set_ 0 (.int .i64 er)
  have hX3 := (hX2.setCell (p := ⟨w.heap.size, 0, none⟩) (Nat.le_refl _) (.bool fl)).setCell (p := ⟨w.heap.size + 1 + 1, 0, none⟩) (by simp only; omega) (.int .i64 er)
  clear hc20 hf20 hc40 hf40 hX2
  generalize (w2.setCell ⟨w.heap.size, 0, none⟩ (.bool fl)).setCell ⟨w.heap.size + 1 + 1, 0, none⟩ (.int .i64 er) = W3 at *
  have hX3 : Ext w W3 := hX3
  have hc20 := hb2.at_ 0 rfl
  have hf20 := hb2.frozen 0
  have hc30 := hb3.at_ 0 rfl
  have hf30 := hb3.frozen 0
  have hc40 := hb4.at_ 0 rfl
  have hf40 := hb4.frozen 0
  have HXX := hX3
  have hb2' := ((hb2.set_ 0 (.bool false)).far (p := ⟨w.heap.size + 1, 0, none⟩) (by simp) (.slice none 0 0)).far (p := ⟨w.heap.size + 1 + 1, 0, none⟩) (by simp only; omega) (.int .i64 er)
  have hb3' := ((hb3.far (p := ⟨w.heap.size, 0, none⟩) (by simp) (.bool false)).set_ 0 (.slice none 0 0)).far (p := ⟨w.heap.size + 1 + 1, 0, none⟩) (by simp) (.int .i64 er)
  have hb4' := ((hb4.far (p := ⟨w.heap.size, 0, none⟩) (by simp only; omega) (.bool false)).far (p := ⟨w.heap.size + 1, 0, none⟩) (by simp) (.slice none 0 0)).set_ 0 (.int .i64 er)
  have hE' := ((HXX.setCell (p := ⟨w.heap.size, 0, none⟩) (Nat.le_refl _) (.bool false)).setCell (p := ⟨w.heap.size + 1, 0, none⟩) (by simp) (.slice none 0 0)).setCell (p := ⟨w.heap.size + 1 + 1, 0, none⟩) (by simp only; omega) (.int .i64 er)
  have hE' := hE'.drew
  have hb2' := hb2'.drew
  have hb3' := hb3'.drew
  have hb4' := hb4'.drew
  clear hX3 HXX hb40
  have hmix : Try.prog.follows .mixedOrders = true := by kernel_rfl
  gi_wp2
  gi_region_o
  clear hc20 hf20 hc30 hf30 hc40 hf40 hb2 hb3 hb4
  generalize World.drew _ = Wf at *
  have hc2' := hb2'.at_ 0 rfl
  have hc3' := hb3'.at_ 0 rfl
  have hc4' := hb4'.at_ 0 rfl
  gi_wp2
  exact ⟨.tuple #[.bool false, .slice none 0 0, .int .i64 er], by simp [results, Try.results10, go_sem, hc2', hc3', hc4'], _, rfl, hE', nil_parts _⟩
set_option maxRecDepth 100000 in
set_option maxHeartbeats 4000000 in
theorem pktake_num (b : List UInt8) (v : Value) (w : World) (hB : VBytes b v w) (hlen : b.length ≤ 1000000) (hh : (headP b).2 = 0) (hn : okN (midP b) = false) : Calls Try.prog 10 #[v] w fun e w' => ∃ sv : Value, e = .returned (.tuple #[.bool (takeP b).1, sv, .int .i64 (takeP b).2.2]) ∧ Ext w w' ∧ VParts (takeP b).2.1 sv w' := by
  have hhd := fun W hv => phead_any b v W hv hlen
  have htp : takeP b = (false, [], 12) := by
    unfold takeP
    rw [if_neg (fun h => h hh), if_pos (of_decide_eq_false hn)]
  rw [htp]
  clear htp
  rw [hh] at hhd
  obtain ⟨fl, hfl⟩ : ∃ f, (headP b).1 = f := ⟨_, rfl⟩
  rw [hfl] at hhd
  have h10 : 10 ≤ b.length := by
    unfold headP at hh
    by_cases h : b.length < 10
    · rw [if_pos h] at hh; cases hh
    · omega
  have hB0 := hB
  obtain ⟨A, c, rfl, hc1, hc2, hcut⟩ := slice_form hB
  unfold maxLen at hc2
  have hmid := hcut 5 (b.length - 4) (by omega) (by omega)
  obtain ⟨bb, off, rfl, hbb⟩ : ∃ bb off, A = some ⟨bb, off, none⟩ ∧ bb < w.heap.size := by
    obtain ⟨A', c', e, -, -, hx⟩ := VBytes.form hB0
    cases e
    obtain ⟨bb, off, h, h2, _⟩ := hx (by omega)
    exact ⟨bb, off, h, h2⟩
  have hc5 : ¬ c = 5 := by omega
  rw [if_neg hc5] at hmid
  simp only [Option.map_some, addr_add] at hmid
  have hml : (midP b).length ≤ 1000000 := by unfold midP; rw [List.length_drop, List.length_take]; omega
  change VBytes (midP b) _ w at hmid
  have hnum := fun g W hR => rnum_any g w.heap.size (midP b) W hR hml
  rw [hn] at hnum
  clear hcut hB hfl hh
  have hX0 : Ext w (((w.alloc (.cells #[.bool false] 4)).alloc (.cells #[.slice none 0 0] 22)).alloc (.cells #[.int .i64 0] 26)) := ((ext_alloc _ _).tr (ext_alloc _ _)).tr (ext_alloc _ _)
  have hb2 := ((Box.new w 4 #[.bool false]).alloc (.cells #[.slice none 0 0] 22)).alloc (.cells #[.int .i64 0] 26)
  have hb3 := (Box.new (w.alloc (.cells #[.bool false] 4)) 22 #[.slice none 0 0]).alloc (.cells #[.int .i64 0] 26)
  have hb4 := Box.new ((w.alloc (.cells #[.bool false] 4)).alloc (.cells #[.slice none 0 0] 22)) 26 #[.int .i64 0]
  rw [World.size_alloc] at hb3 hb4
  rw [World.size_alloc] at hb4
  refine (callsIn_wide (n := 9)).1 ?_
  have h1 : 1 ≤ 9 := by omega
  refine callsIn_of_wp_marks Try.func10 rfl trivial ?_ rfl
  simp only [Try.ntmps10, List.size_toArray, List.length_cons, List.length_nil, Nat.reduceAdd, Nat.reduceSub, Array.replicate_succ, Array.replicate_zero, List.push_toArray, List.append_toArray, List.nil_append, List.cons_append]
  gi_wp2_with fail
  refine ⟨trivial, ?_⟩
  refine (callsIn_wide.2 (hhd _ (VP.st _ _ _ _ hB0 hX0))).mono ?_
  rintro e w2 ⟨u, rfl, hE2, hu⟩
  obtain ⟨_, _, rfl, rfl, rfl⟩ := VTup.inv2 hu
  have hX2 := hX0.tr hE2
  have hb2 := hb2.ext hE2
  have hb3 := hb3.ext hE2
  have hb4 := hb4.ext hE2
  have hc20 := hb2.at_ 0 rfl
  have hf20 := hb2.frozen 0
  have hc40 := hb4.at_ 0 rfl
  have hf40 := hb4.frozen 0
  clear hhd hu hX0 hE2
  gi_upto_region 2 with (fail)
  have hb2 := (hb2.set_ 0 (.bool fl)).far (p := ⟨w.heap.size + 1 + 1, 0, none⟩) (by simp only; omega) (.int .i64 0)
  have hb3 := (hb3.far (p := ⟨w.heap.size, 0, none⟩) (by simp) (.bool fl)).far (p := ⟨w.heap.size + 1 + 1, 0, none⟩) (by simp only; omega) (.int .i64 0)
  have hb40 := hb4
  have hb4 := (hb4.far (p := ⟨w.heap.size, 0, none⟩) (by simp only; omega) (.bool fl)).set_ 0 (.int .i64 0)
  have hX3 := (hX2.setCell (p := ⟨w.heap.size, 0, none⟩) (Nat.le_refl _) (.bool fl)).setCell (p := ⟨w.heap.size + 1 + 1, 0, none⟩) (by simp only; omega) (.int .i64 0)
  clear hc20 hf20 hc40 hf40 hX2
  generalize (w2.setCell ⟨w.heap.size, 0, none⟩ (.bool fl)).setCell ⟨w.heap.size + 1 + 1, 0, none⟩ (.int .i64 0) = W3 at *
  have hX3 : Ext w W3 := hX3
  have hg0 := hb4.lt
  clear hb40
  have hc40 := hb4.at_ 0 rfl
  gi_upto_region 5 with (fail)
  have hX4 := ext_alloc W3 (.cells #[.slice (some ⟨bb, off + 5, none⟩) (b.length - 4 - 5) (c - 5)] 48)
  have hR4 : Rd W3.heap.size w.heap.size (midP b) (W3.alloc (.cells #[.slice (some ⟨bb, off + 5, none⟩) (b.length - 4 - 5) (c - 5)] 48)) :=
    ⟨_, Box.new _ _ _, VP.st _ _ _ _ hmid (hX3.tr hX4), fun k hk => by cases hk; exact hbb, hX3.size⟩
  have hb2 := hb2.ext hX4
  have hb3 := hb3.ext hX4
  have hb4 := hb4.ext hX4
  have hX4 := hX3.tr hX4
  clear hmid hc40
  gi_wp2_with fail
  refine ⟨trivial, ?_⟩
  refine (callsIn_wide.2 (hnum _ _ hR4)).mono ?_
  rintro e w5 ⟨rfl, hg5, -⟩
  have hX5 : Ext w w5 := hX4.grown hg5 hX4.size (fun j hj => by cases hj; omega)
  have hb2 := hb2.grows hg5 (by simp; omega)
  have hb3 := hb3.grows hg5 (by simp; omega)
  have hb4 := hb4.grows hg5 (by simp; omega)
  clear hR4 hX4 hg5 hnum
  have hc20 := hb2.at_ 0 rfl
  have hf20 := hb2.frozen 0
  have hc30 := hb3.at_ 0 rfl
  have hf30 := hb3.frozen 0
  have hc40 := hb4.at_ 0 rfl
  have hf40 := hb4.frozen 0
  have HXX := hX5
  have hb2' := ((hb2.set_ 0 (.bool false)).far (p := ⟨w.heap.size + 1, 0, none⟩) (by simp) (.slice none 0 0)).far (p := ⟨w.heap.size + 1 + 1, 0, none⟩) (by simp only; omega) (.int .i64 12)
  have hb3' := ((hb3.far (p := ⟨w.heap.size, 0, none⟩) (by simp) (.bool false)).set_ 0 (.slice none 0 0)).far (p := ⟨w.heap.size + 1 + 1, 0, none⟩) (by simp) (.int .i64 12)
  have hb4' := ((hb4.far (p := ⟨w.heap.size, 0, none⟩) (by simp only; omega) (.bool false)).far (p := ⟨w.heap.size + 1, 0, none⟩) (by simp) (.slice none 0 0)).set_ 0 (.int .i64 12)
  have hE' := ((HXX.setCell (p := ⟨w.heap.size, 0, none⟩) (Nat.le_refl _) (.bool false)).setCell (p := ⟨w.heap.size + 1, 0, none⟩) (by simp) (.slice none 0 0)).setCell (p := ⟨w.heap.size + 1 + 1, 0, none⟩) (by simp only; omega) (.int .i64 12)
  gi_wp2
  clear hc20 hf20 hc30 hf30 hc40 hf40 hb2 hb3 hb4 HXX hX5
  generalize World.setCell _ ⟨w.heap.size + 1 + 1, 0, none⟩ _ = Wf at *
  have hc2' := hb2'.at_ 0 rfl
  have hc3' := hb3'.at_ 0 rfl
  have hc4' := hb4'.at_ 0 rfl
  exact ⟨.tuple #[.bool false, .slice none 0 0, .int .i64 12], by simp [results, Try.results10, go_sem, hc2', hc3', hc4'], _, rfl, hE', nil_parts _⟩
theorem pktake_any (b : List UInt8) (v : Value) (w : World) (hB : VBytes b v w) (hlen : b.length ≤ 1000000) : Calls Try.prog 10 #[v] w (Ret w (VTup [VEq (.bool (takeP b).1), VParts (takeP b).2.1, VEq (.int .i64 (takeP b).2.2)])) := by
  have key : Calls Try.prog 10 #[v] w fun e w' => ∃ sv : Value, e = .returned (.tuple #[.bool (takeP b).1, sv, .int .i64 (takeP b).2.2]) ∧ Ext w w' ∧ VParts (takeP b).2.1 sv w' := by
    by_cases h1 : (headP b).2 = 0
    · cases h2 : okN (midP b)
      · exact pktake_num b v w hB hlen h1 h2
      · exact pktake_loop b v w hB hlen h1 h2
    · exact pktake_head b v w hB hlen h1
  refine key.mono ?_
  rintro e w' ⟨sv, rfl, hE, hP⟩
  exact ⟨_, rfl, hE, VTup.three rfl hP rfl⟩
end Go.Proofs.Ytggjkhldknppkaa
