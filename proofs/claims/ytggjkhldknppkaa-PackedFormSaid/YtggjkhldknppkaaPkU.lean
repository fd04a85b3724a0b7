/- PackedForm, walked. -/
import Derived.Test.YtggjkhldknppkaaPkL
import Derived.Test.YtggjkhldknppkaaPkQ
namespace Go.Proofs.Ytggjkhldknppkaa
open Go.RowKit PakM DigM
theorem OwnB.lit5 (w : World) (base : Nat) (e : TypeId) (h : base ≤ w.heap.size) : OwnB (w.alloc (.cells #[.int .u8 84, .int .u8 83, .int .u8 76, .int .u8 49, .int .u8 0] e)) base e (.slice (some ⟨w.heap.size, 0, none⟩) 5 5) [84, 83, 76, 49, 0] :=
  ⟨rfl, .inr ⟨w.heap.size, 5, _, rfl, h, heap_alloc_new w _, Nat.le_refl _, by decide, rfl, rfl⟩⟩
theorem clampM (n : Nat) (i : Int) (hn : 7 ≤ n) : ∃ k : Nat, 1 ≤ k ∧ k ≤ n - 6 ∧ (if (n : Int) - 6 < (if i < 1 then 1 else i) then (n : Int) - 6 else (if i < 1 then 1 else i)) = (k : Int) := by
  by_cases h1 : i < 1
  · exact ⟨1, by omega, by omega, by rw [if_pos h1, if_neg (by omega)]; rfl⟩
  by_cases h2 : (n : Int) - 6 < i
  · exact ⟨n - 6, by omega, by omega, by rw [if_neg h1, if_pos h2]; omega⟩
  · exact ⟨i.toNat, by omega, by omega, by rw [if_neg h1, if_neg h2]; omega⟩
set_option maxRecDepth 100000 in
set_option maxHeartbeats 8000000 in
theorem packedForm_any (fold : Bool) (bt : List UInt8) (ls : List (List UInt8)) (mo : List UInt8) (ii : Int) (vb vl vm : Value) (w : World) (hB : VBytes bt vb w) (hL : VParts ls vl w) (hM : VBytes mo vm w) : Calls Try.prog 6 #[.bool fold, vb, vl, vm, .int .i64 ii] w (Ret w (VEq (.bool true))) := by
  have hwk := wakes_any
  have hg1 := fun W hv => great_any ls vl W hv
  unfold VGreat at hg1
  obtain ⟨i0, hi, hz0, hz1, hz2⟩ := info_parts Dg.Try.infoB
  have hL0 := hL
  have hB0 := hB
  have hM0 := hM
  obtain ⟨A, c, rfl, hc1, hc2, -⟩ := VParts.form hL
  obtain ⟨D, d, rfl, hd1, hd2, -⟩ := VBytes.form hB
  obtain ⟨F, f, rfl, hf1, hf2, -⟩ := VBytes.form hM
  unfold maxLen at hc2 hd2 hf2
  clear hL hB hM
  go_enter Try.func6, Try.ntmps6
  go_wp2_with fail
  refine (hg1 _ hL0).mono ?_
  rintro e w1 ⟨u, rfl, hE, rfl⟩
  obtain ⟨g1, hq1⟩ : ∃ g, greatB ls = g := ⟨_, rfl⟩
  rw [hq1]
  clear hg1
  cases g1
  case true =>
    clear hL0 hB0 hM0 hq1
    go_wp2_with fail
    refine (hwk _).mono ?_
    rintro e w3 ⟨u, rfl, hE3, rfl⟩
    go_wp2
    go_ret
    exact Ret.mk (hE.tr hE3) rfl
  by_cases hbt : bt.length ≤ 600
  case neg =>
    have hbt' : (600 : Int) < (bt.length : Int) := by omega
    clear hL0 hB0 hM0 hq1
    go_wp2_with fail
    refine (hwk _).mono ?_
    rintro e w3 ⟨u, rfl, hE3, rfl⟩
    go_wp2
    go_ret
    exact Ret.mk (hE.tr hE3) rfl
  by_cases hmo : mo.length ≤ 30
  case neg =>
    have hmo' : (30 : Int) < (mo.length : Int) := by omega
    clear hL0 hB0 hM0 hq1
    go_wp2_with fail
    refine (hwk _).mono ?_
    rintro e w3 ⟨u, rfl, hE3, rfl⟩
    go_wp2
    go_ret
    exact Ret.mk (hE.tr hE3) rfl
  by_cases hls : ls.length = 0
  · have hls' : (ls.length : Int) = 0 := by omega
    have hls2 : ((ls.length : Int) == 0) = true := by rw [hls']; rfl
    have hls3 := List.eq_nil_of_length_eq_zero hls
    clear hL0 hB0 hM0 hq1
    go_wp2_with fail
    refine (hwk _).mono ?_
    rintro e w3 ⟨u, rfl, hE3, rfl⟩
    go_wp2
    go_ret
    exact Ret.mk (hE.tr hE3) rfl
  have hls' : ¬ (ls.length : Int) = 0 := by omega
  have hls2 : ((ls.length : Int) == 0) = false := by rw [beq_eq_false_iff_ne]; exact hls'
  have hls3 : ¬ ls = [] := fun h => hls (by rw [h]; rfl)
  have hbt' : ¬ (600 : Int) < (bt.length : Int) := by omega
  have hmo' : ¬ (30 : Int) < (mo.length : Int) := by omega
  obtain ⟨l1, l2⟩ := greatB_false hq1
  clear hq1
  have hl := VP.st _ _ _ _ hL0 hE
  have hb := VP.st _ _ _ _ hB0 hE
  have hmm := VP.st _ _ _ _ hM0 hE
  have hl80 : ls.length ≤ 10000 := by omega
  have hlf : ls.flatten.length ≤ 30000 := by omega
  have hm : ∀ b ∈ ls, b.length ≤ most := fun b hb => by
    obtain ⟨j, hj, rfl⟩ := List.getElem_of_mem hb
    have := flat_at hj
    unfold most; omega
  have h0 : ls.length ≤ most := by unfold most; omega
  have hbl : (bodyP fold ls).length ≤ 90000 ∧ 7 ≤ (bodyP fold ls).length := by
    have h2 := put_len fold ls
    have h3 : (putP fold ls).length = (bodyP fold ls).length + 4 := by unfold putP summedP; rw [List.length_append, SumM.putB_length]
    have h4 := putN_most h0
    have h5 := sizeW_le ls hl80 hlf hm ls.length
    rw [List.take_length] at h5
    have h6 := PakM.sizeW_ge ls
    have h7 := putN_pos ls.length
    omega
  have hput := fun W hv => pput_own fold ls (.slice A ls.length c) W hv hl80 hlf
  have hfb := form_bet bt
  have hlb : (betB bt).length = 5 + bt.length := by unfold betB; rw [List.length_append]; rfl
  have hlb2 : (summedP (betB bt)).length = 9 + bt.length := by
    have : (summedP (betB bt)).length = (betB bt).length + 4 := by unfold summedP; rw [List.length_append, SumM.putB_length]
    omega
  have hmore := form_more fold ls h0 hm mo
  have hless := form_less fold ls h0 hm
  have hpb : putP fold ls = bodyP fold ls ++ SumM.putB (SumM.ofB (bodyP fold ls)) := rfl
  generalize bodyP fold ls = bd at *
  go_wp2_with (at_builtin; refine wpList_append_bytes rfl _ _ 23 rfl w1.heap.size 5 i0 (.int .u8 0) Try.underlying23 hi hz0 hz1 hz2 rfl _ _ [84, 83, 76, 49, 0] bt rfl (OwnB.lit5 w1 w1.heap.size 5 (Nat.le_refl _)) rfl (VP.st _ _ _ _ hb (ext_alloc _ _)) (by simp; omega) (ext_alloc _ _).size ?_; intro v3 w3 hown3 hgrow3 hat3)
  have hE3 : Ext w1 w3 := below_ng (Ext.rf w1) hgrow3 (fun k hk => by cases hk; exact Nat.le_refl _)
  change OwnB w3 w1.heap.size 5 v3 (betB bt) at hown3
  have hsum := rsummed_own (betB bt) v3 w3 (OwnB.bytes hown3) (by omega)
  obtain ⟨Au, cu, rfl⟩ := OwnB.form hown3
  have hl := VP.st _ _ _ _ hl hE3
  have hb := VP.st _ _ _ _ hb hE3
  have hmm := VP.st _ _ _ _ hmm hE3
  have hE := hE.tr hE3
  obtain ⟨ws, e, hte, hcase⟩ : ∃ ws e, takeP (summedP (betB bt)) = (false, ws, e) ∧ ((bt = [] ∧ e = 10) ∨ (bt ≠ [] ∧ (e = 12 ∨ e = 43 ∨ (e = 0 ∧ putP false ws = summedP (betB bt) ∧ ws.length + ws.flatten.length ≤ bt.length + 20)))) := by
    rcases hfb with ⟨h, h'⟩ | ⟨h, h' | h' | ⟨ws, h', h2, h3⟩⟩
    · exact ⟨_, _, h', .inl ⟨h, rfl⟩⟩
    · exact ⟨_, _, h', .inr ⟨h, .inl rfl⟩⟩
    · exact ⟨_, _, h', .inr ⟨h, .inr (.inl rfl)⟩⟩
    · exact ⟨_, _, h', .inr ⟨h, .inr (.inr ⟨rfl, h2, h3⟩)⟩⟩
  have htp := fun W0 v W hX hv => c_pktake (w0 := W0) (summedP (betB bt)) false ws e hte (by omega) v W hX hv
  clear hown3 hgrow3 hat3 hE3 hfb hL0 hB0 hM0 hte
  go_wp2_with fail
  refine hsum.mono ?_
  rintro _ w4 ⟨u, rfl, hE4, hO4⟩
  have hq4 := OwnB.bytes hO4
  obtain ⟨Aq, cq, rfl, -⟩ := VBytes.form hq4
  have hl := VP.st _ _ _ _ hl hE4
  have hb := VP.st _ _ _ _ hb hE4
  have hmm := VP.st _ _ _ _ hmm hE4
  have hE := hE.tr hE4
  clear hsum hE4 hO4 hlb hlb2
  generalize summedP (betB bt) = sm at *
  go_upto_region 4 with (fail)
  refine vregion0 6 (by kernel_rfl) ?_
  refine VWalk.move _ rfl (want_none rfl) (opd_fr 11 rfl hq4 (Ext.rf _) (by kernel_rfl)) ?_
  refine VWalk.call1 10 _ _ rfl (enters_of Try.func10 (by kernel_rfl) rfl) (want_none rfl) (opd_dep 0 46 0 rfl rfl rfl rfl) (fun v W hX hv => htp _ v W hX hv) ?_
  refine VWalk.move _ rfl (want_none rfl) (opd_dep 1 47 0 rfl rfl rfl rfl) ?_
  refine VWalk.extract _ 0 rfl rfl (want_none rfl) (opd_dep 2 45 0 rfl rfl rfl rfl) ?_
  refine VWalk.extract _ 1 rfl rfl (want_none rfl) (opd_dep 2 45 1 rfl rfl rfl rfl) ?_
  refine VWalk.extract _ 2 rfl rfl (want_none rfl) (opd_dep 2 45 2 rfl rfl rfl rfl) ?_
  refine ⟨rfl, fun W4 hE4 => ?_⟩
  refine VFin.any fun v4_0 hv4_0 => ?_
  refine VFin.any fun v4_1 hv4_1 => ?_
  refine VFin.any fun v4_2 hv4_2 => ?_
  refine VFin.eq ?_  -- 3
  refine VFin.any fun v4_4 hv4_4 => ?_
  refine VFin.eq ?_  -- 5
  refine VFin.nil ?_
  simp only [Act.put, List.setIfInBounds_toArray, List.set_cons_zero, List.set_cons_succ]
  clear hv4_0 hv4_1 hv4_2
  have hb := VP.st _ _ _ _ hb hE4
  have hl := VP.st _ _ _ _ hl hE4
  have hmm := VP.st _ _ _ _ hmm hE4
  have hq4 := VP.st _ _ _ _ hq4 hE4
  have hE := hE.tr hE4
  rcases hcase with ⟨rfl, rfl⟩ | ⟨hbn, rfl | rfl | ⟨rfl, hwp, hwl⟩⟩
  go_upto_region 5 with (fail)
  refine vregion 36 [] (by kernel_rfl) (by kernel_rfl) (fun _ _ _ _ _ h => h) ?_
  refine VWalk.move _ rfl (want_none rfl) (opd_fr 1 rfl hb (ext_drew _) (by kernel_rfl)) ?_
  refine VWalk.lenB 23 5 _ rfl Try.underlying23 (want_none rfl) (opd_dep 0 51 0 rfl rfl rfl rfl) ?_
  refine VWalk.gtrF _ _ _ _ rfl (want_none rfl) (opd_dep 1 52 0 rfl rfl rfl rfl) (opd_const _) (by simp) ?_
  refine VWalk.move _ rfl (want_none rfl) (opd_dep 2 53 0 rfl rfl rfl rfl) ?_
  refine VWalk.skip (want_ft 3 54 0 rfl (by kernel_rfl) rfl rfl rfl rfl) ?_
  refine VWalk.skip (want_ft 3 54 1 rfl (by kernel_rfl) rfl rfl rfl rfl) ?_
  refine VWalk.pickF _ _ _ rfl (want_none rfl) (opd_dep 3 54 2 rfl rfl rfl rfl) (opd_const _) ?_
  refine VWalk.move _ rfl (want_none rfl) (opd_dep 6 57 0 rfl rfl rfl rfl) ?_
  refine VWalk.skip (want_ft 7 58 0 rfl (by kernel_rfl) rfl rfl rfl rfl) ?_
  refine VWalk.skip (want_ft 7 58 1 rfl (by kernel_rfl) rfl rfl rfl rfl) ?_
  refine VWalk.pickF _ _ _ rfl (want_none rfl) (opd_dep 7 58 2 rfl rfl rfl rfl) (opd_const _) ?_
  refine VWalk.move _ rfl (want_none rfl) (opd_dep 10 61 0 rfl rfl rfl rfl) ?_
  refine VWalk.skip (want_ft 11 62 0 rfl (by kernel_rfl) rfl rfl rfl rfl) ?_
  refine VWalk.skip (want_ft 11 62 1 rfl (by kernel_rfl) rfl rfl rfl rfl) ?_
  refine VWalk.pickF _ _ _ rfl (want_none rfl) (opd_dep 11 62 2 rfl rfl rfl rfl) (opd_const _) ?_
  refine VWalk.move _ rfl (want_none rfl) (opd_dep 14 65 0 rfl rfl rfl rfl) ?_
  refine VWalk.move _ rfl (want_ff 15 66 0 rfl (by kernel_rfl) rfl rfl rfl rfl) (opd_frame 14 rfl (by kernel_rfl)) ?_
  refine VWalk.eqT' _ _ _ _ rfl (want_ff 15 66 1 rfl (by kernel_rfl) rfl rfl rfl rfl) (opd_dep 16 67 0 rfl rfl rfl rfl) (opd_const _) (by decide) ?_
  refine VWalk.move _ rfl (want_ff 15 66 2 rfl (by kernel_rfl) rfl rfl rfl rfl) (opd_dep 17 68 0 rfl rfl rfl rfl) ?_
  refine VWalk.skip (want_ft 18 69 0 rfl (by kernel_rfl) rfl rfl rfl rfl) ?_
  refine VWalk.skip (want_ft 18 69 1 rfl (by kernel_rfl) rfl rfl rfl rfl) ?_
  refine VWalk.skip (want_ft 18 69 2 rfl (by kernel_rfl) rfl rfl rfl rfl) ?_
  refine VWalk.skip (want_ft 18 69 3 rfl (by kernel_rfl) rfl rfl rfl rfl) ?_
  refine VWalk.skip (want_ft 18 69 4 rfl (by kernel_rfl) rfl rfl rfl rfl) ?_
  refine VWalk.skip (want_ft 18 69 5 rfl (by kernel_rfl) rfl rfl rfl rfl) ?_
  refine VWalk.pickF _ _ _ rfl (want_ff 15 66 9 rfl (by kernel_rfl) rfl rfl rfl rfl) (opd_dep 18 69 6 rfl rfl rfl rfl) (opd_const _) ?_
  refine VWalk.pickF _ _ _ rfl (want_none rfl) (opd_dep 15 66 10 rfl rfl rfl rfl) (opd_dep 25 76 0 rfl rfl rfl rfl) ?_
  refine VWalk.move _ rfl (want_none rfl) (opd_dep 26 77 0 rfl rfl rfl rfl) ?_
  refine VWalk.move _ rfl (want_ff 27 78 0 rfl (by kernel_rfl) rfl rfl rfl rfl) (opd_fr 1 rfl hb (ext_drew _) (by kernel_rfl)) ?_
  refine VWalk.lenB 23 5 _ rfl Try.underlying23 (want_ff 27 78 1 rfl (by kernel_rfl) rfl rfl rfl rfl) (opd_dep 28 79 0 rfl rfl rfl rfl) ?_
  refine VWalk.eqT _ _ _ _ rfl (want_ff 27 78 2 rfl (by kernel_rfl) rfl rfl rfl rfl) (opd_dep 29 80 0 rfl rfl rfl rfl) (opd_const _) (by decide) ?_
  refine VWalk.move _ rfl (want_ff 27 78 3 rfl (by kernel_rfl) rfl rfl rfl rfl) (opd_dep 30 81 0 rfl rfl rfl rfl) ?_
  refine VWalk.move _ rfl (want_tt 31 82 0 rfl (by kernel_rfl) rfl rfl rfl rfl) (opd_frame 14 rfl (by kernel_rfl)) ?_
  refine VWalk.neT _ _ _ _ rfl (want_tt 31 82 1 rfl (by kernel_rfl) rfl rfl rfl rfl) (opd_dep 32 83 0 rfl rfl rfl rfl) (opd_const _) (by decide) ?_
  refine VWalk.pickT _ _ _ rfl (want_ff 27 78 6 rfl (by kernel_rfl) rfl rfl rfl rfl) (opd_dep 31 82 2 rfl rfl rfl rfl) (opd_dep 33 84 0 rfl rfl rfl rfl) ?_
  refine VWalk.pickF _ _ _ rfl (want_none rfl) (opd_dep 27 78 7 rfl rfl rfl rfl) (opd_dep 34 85 0 rfl rfl rfl rfl) ?_
  refine ⟨rfl, fun W5 hE5 => ?_⟩
  refine VFin.any fun v5_0 hv5_0 => ?_
  refine VFin.eq ?_  -- 1
  refine VFin.eq ?_  -- 2
  refine VFin.eq ?_  -- 3
  refine VFin.eq ?_  -- 4
  refine VFin.eq ?_  -- 5
  refine VFin.eq ?_  -- 6
  refine VFin.eq ?_  -- 7
  refine VFin.eq ?_  -- 8
  refine VFin.eq ?_  -- 9
  refine VFin.eq ?_  -- 10
  refine VFin.eq ?_  -- 11
  refine VFin.eq ?_  -- 12
  refine VFin.eq ?_  -- 13
  refine VFin.eq ?_  -- 14
  refine VFin.eq ?_  -- 15
  refine VFin.eq ?_  -- 16
  refine VFin.eq ?_  -- 17
  refine VFin.eq ?_  -- 18
  refine VFin.eq ?_  -- 19
  refine VFin.eq ?_  -- 20
  refine VFin.eq ?_  -- 21
  refine VFin.eq ?_  -- 22
  refine VFin.eq ?_  -- 23
  refine VFin.eq ?_  -- 24
  refine VFin.eq ?_  -- 25
  refine VFin.eq ?_  -- 26
  refine VFin.eq ?_  -- 27
  refine VFin.any fun v5_28 hv5_28 => ?_
  refine VFin.eq ?_  -- 29
  refine VFin.eq ?_  -- 30
  refine VFin.eq ?_  -- 31
  refine VFin.eq ?_  -- 32
  refine VFin.eq ?_  -- 33
  refine VFin.eq ?_  -- 34
  refine VFin.eq ?_  -- 35
  refine VFin.nil ?_
  simp only [Act.put, List.setIfInBounds_toArray, List.set_cons_zero, List.set_cons_succ]
  clear hv5_0 hv5_28
  have hb := VP.st _ _ _ _ hb ((ext_drew _).tr hE5)
  have hl := VP.st _ _ _ _ hl ((ext_drew _).tr hE5)
  have hmm := VP.st _ _ _ _ hmm ((ext_drew _).tr hE5)
  have hq4 := VP.st _ _ _ _ hq4 ((ext_drew _).tr hE5)
  have hv4_4 := VP.st _ _ _ _ hv4_4 ((ext_drew _).tr hE5)
  have hE := hE.tr ((ext_drew _).tr hE5)
  rotate_left
  have hbp : (0 : Int) < (bt.length : Int) := by have := List.length_pos_iff.2 hbn; omega
  go_upto_region 5 with (fail)
  refine vregion 36 [] (by kernel_rfl) (by kernel_rfl) (fun _ _ _ _ _ h => h) ?_
  refine VWalk.move _ rfl (want_none rfl) (opd_fr 1 rfl hb (ext_drew _) (by kernel_rfl)) ?_
  refine VWalk.lenB 23 5 _ rfl Try.underlying23 (want_none rfl) (opd_dep 0 51 0 rfl rfl rfl rfl) ?_
  refine VWalk.gtrT _ _ _ _ rfl (want_none rfl) (opd_dep 1 52 0 rfl rfl rfl rfl) (opd_const _) (by omega) ?_
  refine VWalk.move _ rfl (want_none rfl) (opd_dep 2 53 0 rfl rfl rfl rfl) ?_
  refine VWalk.move _ rfl (want_tt 3 54 0 rfl (by kernel_rfl) rfl rfl rfl rfl) (opd_frame 14 rfl (by kernel_rfl)) ?_
  refine VWalk.neT' _ _ _ _ rfl (want_tt 3 54 1 rfl (by kernel_rfl) rfl rfl rfl rfl) (opd_dep 4 55 0 rfl rfl rfl rfl) (opd_const _) (by decide) ?_
  refine VWalk.pickT _ _ _ rfl (want_none rfl) (opd_dep 3 54 2 rfl rfl rfl rfl) (opd_dep 5 56 0 rfl rfl rfl rfl) ?_
  refine VWalk.move _ rfl (want_none rfl) (opd_dep 6 57 0 rfl rfl rfl rfl) ?_
  refine VWalk.move _ rfl (want_tt 7 58 0 rfl (by kernel_rfl) rfl rfl rfl rfl) (opd_frame 14 rfl (by kernel_rfl)) ?_
  refine VWalk.neT _ _ _ _ rfl (want_tt 7 58 1 rfl (by kernel_rfl) rfl rfl rfl rfl) (opd_dep 8 59 0 rfl rfl rfl rfl) (opd_const _) (by decide) ?_
  refine VWalk.pickT _ _ _ rfl (want_none rfl) (opd_dep 7 58 2 rfl rfl rfl rfl) (opd_dep 9 60 0 rfl rfl rfl rfl) ?_
  refine VWalk.move _ rfl (want_none rfl) (opd_dep 10 61 0 rfl rfl rfl rfl) ?_
  refine VWalk.skip (want_ft 11 62 0 rfl (by kernel_rfl) rfl rfl rfl rfl) ?_
  refine VWalk.skip (want_ft 11 62 1 rfl (by kernel_rfl) rfl rfl rfl rfl) ?_
  refine VWalk.pickF _ _ _ rfl (want_none rfl) (opd_dep 11 62 2 rfl rfl rfl rfl) (opd_const _) ?_
  refine VWalk.move _ rfl (want_none rfl) (opd_dep 14 65 0 rfl rfl rfl rfl) ?_
  refine VWalk.move _ rfl (want_ff 15 66 0 rfl (by kernel_rfl) rfl rfl rfl rfl) (opd_frame 14 rfl (by kernel_rfl)) ?_
  refine VWalk.eqT' _ _ _ _ rfl (want_ff 15 66 1 rfl (by kernel_rfl) rfl rfl rfl rfl) (opd_dep 16 67 0 rfl rfl rfl rfl) (opd_const _) (by decide) ?_
  refine VWalk.move _ rfl (want_ff 15 66 2 rfl (by kernel_rfl) rfl rfl rfl rfl) (opd_dep 17 68 0 rfl rfl rfl rfl) ?_
  refine VWalk.skip (want_ft 18 69 0 rfl (by kernel_rfl) rfl rfl rfl rfl) ?_
  refine VWalk.skip (want_ft 18 69 1 rfl (by kernel_rfl) rfl rfl rfl rfl) ?_
  refine VWalk.skip (want_ft 18 69 2 rfl (by kernel_rfl) rfl rfl rfl rfl) ?_
  refine VWalk.skip (want_ft 18 69 3 rfl (by kernel_rfl) rfl rfl rfl rfl) ?_
  refine VWalk.skip (want_ft 18 69 4 rfl (by kernel_rfl) rfl rfl rfl rfl) ?_
  refine VWalk.skip (want_ft 18 69 5 rfl (by kernel_rfl) rfl rfl rfl rfl) ?_
  refine VWalk.pickF _ _ _ rfl (want_ff 15 66 9 rfl (by kernel_rfl) rfl rfl rfl rfl) (opd_dep 18 69 6 rfl rfl rfl rfl) (opd_const _) ?_
  refine VWalk.pickF _ _ _ rfl (want_none rfl) (opd_dep 15 66 10 rfl rfl rfl rfl) (opd_dep 25 76 0 rfl rfl rfl rfl) ?_
  refine VWalk.move _ rfl (want_none rfl) (opd_dep 26 77 0 rfl rfl rfl rfl) ?_
  refine VWalk.move _ rfl (want_ff 27 78 0 rfl (by kernel_rfl) rfl rfl rfl rfl) (opd_fr 1 rfl hb (ext_drew _) (by kernel_rfl)) ?_
  refine VWalk.lenB 23 5 _ rfl Try.underlying23 (want_ff 27 78 1 rfl (by kernel_rfl) rfl rfl rfl rfl) (opd_dep 28 79 0 rfl rfl rfl rfl) ?_
  refine VWalk.eqT' _ _ _ _ rfl (want_ff 27 78 2 rfl (by kernel_rfl) rfl rfl rfl rfl) (opd_dep 29 80 0 rfl rfl rfl rfl) (opd_const _) (by omega) ?_
  refine VWalk.move _ rfl (want_ff 27 78 3 rfl (by kernel_rfl) rfl rfl rfl rfl) (opd_dep 30 81 0 rfl rfl rfl rfl) ?_
  refine VWalk.skip (want_ft 31 82 0 rfl (by kernel_rfl) rfl rfl rfl rfl) ?_
  refine VWalk.skip (want_ft 31 82 1 rfl (by kernel_rfl) rfl rfl rfl rfl) ?_
  refine VWalk.pickF _ _ _ rfl (want_ff 27 78 6 rfl (by kernel_rfl) rfl rfl rfl rfl) (opd_dep 31 82 2 rfl rfl rfl rfl) (opd_const _) ?_
  refine VWalk.pickF _ _ _ rfl (want_none rfl) (opd_dep 27 78 7 rfl rfl rfl rfl) (opd_dep 34 85 0 rfl rfl rfl rfl) ?_
  refine ⟨rfl, fun W5 hE5 => ?_⟩
  refine VFin.any fun v5_0 hv5_0 => ?_
  refine VFin.eq ?_  -- 1
  refine VFin.eq ?_  -- 2
  refine VFin.eq ?_  -- 3
  refine VFin.eq ?_  -- 4
  refine VFin.eq ?_  -- 5
  refine VFin.eq ?_  -- 6
  refine VFin.eq ?_  -- 7
  refine VFin.eq ?_  -- 8
  refine VFin.eq ?_  -- 9
  refine VFin.eq ?_  -- 10
  refine VFin.eq ?_  -- 11
  refine VFin.eq ?_  -- 12
  refine VFin.eq ?_  -- 13
  refine VFin.eq ?_  -- 14
  refine VFin.eq ?_  -- 15
  refine VFin.eq ?_  -- 16
  refine VFin.eq ?_  -- 17
  refine VFin.eq ?_  -- 18
  refine VFin.eq ?_  -- 19
  refine VFin.eq ?_  -- 20
  refine VFin.eq ?_  -- 21
  refine VFin.eq ?_  -- 22
  refine VFin.eq ?_  -- 23
  refine VFin.eq ?_  -- 24
  refine VFin.eq ?_  -- 25
  refine VFin.eq ?_  -- 26
  refine VFin.eq ?_  -- 27
  refine VFin.any fun v5_28 hv5_28 => ?_
  refine VFin.eq ?_  -- 29
  refine VFin.eq ?_  -- 30
  refine VFin.eq ?_  -- 31
  refine VFin.eq ?_  -- 32
  refine VFin.eq ?_  -- 33
  refine VFin.eq ?_  -- 34
  refine VFin.eq ?_  -- 35
  refine VFin.nil ?_
  simp only [Act.put, List.setIfInBounds_toArray, List.set_cons_zero, List.set_cons_succ]
  clear hv5_0 hv5_28
  have hb := VP.st _ _ _ _ hb ((ext_drew _).tr hE5)
  have hl := VP.st _ _ _ _ hl ((ext_drew _).tr hE5)
  have hmm := VP.st _ _ _ _ hmm ((ext_drew _).tr hE5)
  have hq4 := VP.st _ _ _ _ hq4 ((ext_drew _).tr hE5)
  have hv4_4 := VP.st _ _ _ _ hv4_4 ((ext_drew _).tr hE5)
  have hE := hE.tr ((ext_drew _).tr hE5)
  clear hbp hbn
  rotate_left
  have hbp : (0 : Int) < (bt.length : Int) := by have := List.length_pos_iff.2 hbn; omega
  go_upto_region 5 with (fail)
  refine vregion 36 [] (by kernel_rfl) (by kernel_rfl) (fun _ _ _ _ _ h => h) ?_
  refine VWalk.move _ rfl (want_none rfl) (opd_fr 1 rfl hb (ext_drew _) (by kernel_rfl)) ?_
  refine VWalk.lenB 23 5 _ rfl Try.underlying23 (want_none rfl) (opd_dep 0 51 0 rfl rfl rfl rfl) ?_
  refine VWalk.gtrT _ _ _ _ rfl (want_none rfl) (opd_dep 1 52 0 rfl rfl rfl rfl) (opd_const _) (by omega) ?_
  refine VWalk.move _ rfl (want_none rfl) (opd_dep 2 53 0 rfl rfl rfl rfl) ?_
  refine VWalk.move _ rfl (want_tt 3 54 0 rfl (by kernel_rfl) rfl rfl rfl rfl) (opd_frame 14 rfl (by kernel_rfl)) ?_
  refine VWalk.neT' _ _ _ _ rfl (want_tt 3 54 1 rfl (by kernel_rfl) rfl rfl rfl rfl) (opd_dep 4 55 0 rfl rfl rfl rfl) (opd_const _) (by decide) ?_
  refine VWalk.pickT _ _ _ rfl (want_none rfl) (opd_dep 3 54 2 rfl rfl rfl rfl) (opd_dep 5 56 0 rfl rfl rfl rfl) ?_
  refine VWalk.move _ rfl (want_none rfl) (opd_dep 6 57 0 rfl rfl rfl rfl) ?_
  refine VWalk.move _ rfl (want_tt 7 58 0 rfl (by kernel_rfl) rfl rfl rfl rfl) (opd_frame 14 rfl (by kernel_rfl)) ?_
  refine VWalk.neT' _ _ _ _ rfl (want_tt 7 58 1 rfl (by kernel_rfl) rfl rfl rfl rfl) (opd_dep 8 59 0 rfl rfl rfl rfl) (opd_const _) (by decide) ?_
  refine VWalk.pickT _ _ _ rfl (want_none rfl) (opd_dep 7 58 2 rfl rfl rfl rfl) (opd_dep 9 60 0 rfl rfl rfl rfl) ?_
  refine VWalk.move _ rfl (want_none rfl) (opd_dep 10 61 0 rfl rfl rfl rfl) ?_
  refine VWalk.move _ rfl (want_tt 11 62 0 rfl (by kernel_rfl) rfl rfl rfl rfl) (opd_frame 14 rfl (by kernel_rfl)) ?_
  refine VWalk.neT _ _ _ _ rfl (want_tt 11 62 1 rfl (by kernel_rfl) rfl rfl rfl rfl) (opd_dep 12 63 0 rfl rfl rfl rfl) (opd_const _) (by decide) ?_
  refine VWalk.pickT _ _ _ rfl (want_none rfl) (opd_dep 11 62 2 rfl rfl rfl rfl) (opd_dep 13 64 0 rfl rfl rfl rfl) ?_
  refine VWalk.move _ rfl (want_none rfl) (opd_dep 14 65 0 rfl rfl rfl rfl) ?_
  refine VWalk.move _ rfl (want_ff 15 66 0 rfl (by kernel_rfl) rfl rfl rfl rfl) (opd_frame 14 rfl (by kernel_rfl)) ?_
  refine VWalk.eqT' _ _ _ _ rfl (want_ff 15 66 1 rfl (by kernel_rfl) rfl rfl rfl rfl) (opd_dep 16 67 0 rfl rfl rfl rfl) (opd_const _) (by decide) ?_
  refine VWalk.move _ rfl (want_ff 15 66 2 rfl (by kernel_rfl) rfl rfl rfl rfl) (opd_dep 17 68 0 rfl rfl rfl rfl) ?_
  refine VWalk.skip (want_ft 18 69 0 rfl (by kernel_rfl) rfl rfl rfl rfl) ?_
  refine VWalk.skip (want_ft 18 69 1 rfl (by kernel_rfl) rfl rfl rfl rfl) ?_
  refine VWalk.skip (want_ft 18 69 2 rfl (by kernel_rfl) rfl rfl rfl rfl) ?_
  refine VWalk.skip (want_ft 18 69 3 rfl (by kernel_rfl) rfl rfl rfl rfl) ?_
  refine VWalk.skip (want_ft 18 69 4 rfl (by kernel_rfl) rfl rfl rfl rfl) ?_
  refine VWalk.skip (want_ft 18 69 5 rfl (by kernel_rfl) rfl rfl rfl rfl) ?_
  refine VWalk.pickF _ _ _ rfl (want_ff 15 66 9 rfl (by kernel_rfl) rfl rfl rfl rfl) (opd_dep 18 69 6 rfl rfl rfl rfl) (opd_const _) ?_
  refine VWalk.pickF _ _ _ rfl (want_none rfl) (opd_dep 15 66 10 rfl rfl rfl rfl) (opd_dep 25 76 0 rfl rfl rfl rfl) ?_
  refine VWalk.move _ rfl (want_none rfl) (opd_dep 26 77 0 rfl rfl rfl rfl) ?_
  refine VWalk.move _ rfl (want_ff 27 78 0 rfl (by kernel_rfl) rfl rfl rfl rfl) (opd_fr 1 rfl hb (ext_drew _) (by kernel_rfl)) ?_
  refine VWalk.lenB 23 5 _ rfl Try.underlying23 (want_ff 27 78 1 rfl (by kernel_rfl) rfl rfl rfl rfl) (opd_dep 28 79 0 rfl rfl rfl rfl) ?_
  refine VWalk.eqT' _ _ _ _ rfl (want_ff 27 78 2 rfl (by kernel_rfl) rfl rfl rfl rfl) (opd_dep 29 80 0 rfl rfl rfl rfl) (opd_const _) (by omega) ?_
  refine VWalk.move _ rfl (want_ff 27 78 3 rfl (by kernel_rfl) rfl rfl rfl rfl) (opd_dep 30 81 0 rfl rfl rfl rfl) ?_
  refine VWalk.skip (want_ft 31 82 0 rfl (by kernel_rfl) rfl rfl rfl rfl) ?_
  refine VWalk.skip (want_ft 31 82 1 rfl (by kernel_rfl) rfl rfl rfl rfl) ?_
  refine VWalk.pickF _ _ _ rfl (want_ff 27 78 6 rfl (by kernel_rfl) rfl rfl rfl rfl) (opd_dep 31 82 2 rfl rfl rfl rfl) (opd_const _) ?_
  refine VWalk.pickF _ _ _ rfl (want_none rfl) (opd_dep 27 78 7 rfl rfl rfl rfl) (opd_dep 34 85 0 rfl rfl rfl rfl) ?_
  refine ⟨rfl, fun W5 hE5 => ?_⟩
  refine VFin.any fun v5_0 hv5_0 => ?_
  refine VFin.eq ?_  -- 1
  refine VFin.eq ?_  -- 2
  refine VFin.eq ?_  -- 3
  refine VFin.eq ?_  -- 4
  refine VFin.eq ?_  -- 5
  refine VFin.eq ?_  -- 6
  refine VFin.eq ?_  -- 7
  refine VFin.eq ?_  -- 8
  refine VFin.eq ?_  -- 9
  refine VFin.eq ?_  -- 10
  refine VFin.eq ?_  -- 11
  refine VFin.eq ?_  -- 12
  refine VFin.eq ?_  -- 13
  refine VFin.eq ?_  -- 14
  refine VFin.eq ?_  -- 15
  refine VFin.eq ?_  -- 16
  refine VFin.eq ?_  -- 17
  refine VFin.eq ?_  -- 18
  refine VFin.eq ?_  -- 19
  refine VFin.eq ?_  -- 20
  refine VFin.eq ?_  -- 21
  refine VFin.eq ?_  -- 22
  refine VFin.eq ?_  -- 23
  refine VFin.eq ?_  -- 24
  refine VFin.eq ?_  -- 25
  refine VFin.eq ?_  -- 26
  refine VFin.eq ?_  -- 27
  refine VFin.any fun v5_28 hv5_28 => ?_
  refine VFin.eq ?_  -- 29
  refine VFin.eq ?_  -- 30
  refine VFin.eq ?_  -- 31
  refine VFin.eq ?_  -- 32
  refine VFin.eq ?_  -- 33
  refine VFin.eq ?_  -- 34
  refine VFin.eq ?_  -- 35
  refine VFin.nil ?_
  simp only [Act.put, List.setIfInBounds_toArray, List.set_cons_zero, List.set_cons_succ]
  clear hv5_0 hv5_28
  have hb := VP.st _ _ _ _ hb ((ext_drew _).tr hE5)
  have hl := VP.st _ _ _ _ hl ((ext_drew _).tr hE5)
  have hmm := VP.st _ _ _ _ hmm ((ext_drew _).tr hE5)
  have hq4 := VP.st _ _ _ _ hq4 ((ext_drew _).tr hE5)
  have hv4_4 := VP.st _ _ _ _ hv4_4 ((ext_drew _).tr hE5)
  have hE := hE.tr ((ext_drew _).tr hE5)
  clear hbp hbn
  rotate_left
  have hbp : (0 : Int) < (bt.length : Int) := by have := List.length_pos_iff.2 hbn; omega
  have hpb := fun W0 u v W hX hu hv => c_pput (w0 := W0) false ws (by omega) (by omega) u v W hX hu hv
  rw [hwp] at hpb
  clear hwp hwl
  go_upto_region 5 with (fail)
  refine vregion 36 [] (by kernel_rfl) (by kernel_rfl) (fun _ _ _ _ _ h => h) ?_
  refine VWalk.move _ rfl (want_none rfl) (opd_fr 1 rfl hb (ext_drew _) (by kernel_rfl)) ?_
  refine VWalk.lenB 23 5 _ rfl Try.underlying23 (want_none rfl) (opd_dep 0 51 0 rfl rfl rfl rfl) ?_
  refine VWalk.gtrT _ _ _ _ rfl (want_none rfl) (opd_dep 1 52 0 rfl rfl rfl rfl) (opd_const _) (by omega) ?_
  refine VWalk.move _ rfl (want_none rfl) (opd_dep 2 53 0 rfl rfl rfl rfl) ?_
  refine VWalk.move _ rfl (want_tt 3 54 0 rfl (by kernel_rfl) rfl rfl rfl rfl) (opd_frame 14 rfl (by kernel_rfl)) ?_
  refine VWalk.neT _ _ _ _ rfl (want_tt 3 54 1 rfl (by kernel_rfl) rfl rfl rfl rfl) (opd_dep 4 55 0 rfl rfl rfl rfl) (opd_const _) (by decide) ?_
  refine VWalk.pickT _ _ _ rfl (want_none rfl) (opd_dep 3 54 2 rfl rfl rfl rfl) (opd_dep 5 56 0 rfl rfl rfl rfl) ?_
  refine VWalk.move _ rfl (want_none rfl) (opd_dep 6 57 0 rfl rfl rfl rfl) ?_
  refine VWalk.skip (want_ft 7 58 0 rfl (by kernel_rfl) rfl rfl rfl rfl) ?_
  refine VWalk.skip (want_ft 7 58 1 rfl (by kernel_rfl) rfl rfl rfl rfl) ?_
  refine VWalk.pickF _ _ _ rfl (want_none rfl) (opd_dep 7 58 2 rfl rfl rfl rfl) (opd_const _) ?_
  refine VWalk.move _ rfl (want_none rfl) (opd_dep 10 61 0 rfl rfl rfl rfl) ?_
  refine VWalk.skip (want_ft 11 62 0 rfl (by kernel_rfl) rfl rfl rfl rfl) ?_
  refine VWalk.skip (want_ft 11 62 1 rfl (by kernel_rfl) rfl rfl rfl rfl) ?_
  refine VWalk.pickF _ _ _ rfl (want_none rfl) (opd_dep 11 62 2 rfl rfl rfl rfl) (opd_const _) ?_
  refine VWalk.move _ rfl (want_none rfl) (opd_dep 14 65 0 rfl rfl rfl rfl) ?_
  refine VWalk.move _ rfl (want_ff 15 66 0 rfl (by kernel_rfl) rfl rfl rfl rfl) (opd_frame 14 rfl (by kernel_rfl)) ?_
  refine VWalk.eqT _ _ _ _ rfl (want_ff 15 66 1 rfl (by kernel_rfl) rfl rfl rfl rfl) (opd_dep 16 67 0 rfl rfl rfl rfl) (opd_const _) (by decide) ?_
  refine VWalk.move _ rfl (want_ff 15 66 2 rfl (by kernel_rfl) rfl rfl rfl rfl) (opd_dep 17 68 0 rfl rfl rfl rfl) ?_
  refine VWalk.move _ rfl (want_tt 18 69 0 rfl (by kernel_rfl) rfl rfl rfl rfl) (opd_fr 13 rfl hv4_4 (ext_drew _) (by kernel_rfl)) ?_
  refine VWalk.call2 15 _ _ _ rfl (enters_of Try.func15 (by kernel_rfl) rfl) (want_tt 18 69 1 rfl (by kernel_rfl) rfl rfl rfl rfl) (opd_const _) (opd_dep 19 70 0 rfl rfl rfl rfl) (fun u v W hX hu hv => hpb _ u v W hX hu hv) ?_
  refine VWalk.string 23 9 5 _ rfl Try.underlying23 Try.underlying5 Try.underlying9 (want_tt 18 69 2 rfl (by kernel_rfl) rfl rfl rfl rfl) (opd_dep 20 71 0 rfl rfl rfl rfl) ?_
  refine VWalk.move _ rfl (want_tt 18 69 3 rfl (by kernel_rfl) rfl rfl rfl rfl) (opd_fr 11 rfl hq4 (ext_drew _) (by kernel_rfl)) ?_
  refine VWalk.string 23 9 5 _ rfl Try.underlying23 Try.underlying5 Try.underlying9 (want_tt 18 69 4 rfl (by kernel_rfl) rfl rfl rfl rfl) (opd_dep 22 73 0 rfl rfl rfl rfl) ?_
  refine VWalk.neTs _ _ _ _ rfl (want_tt 18 69 5 rfl (by kernel_rfl) rfl rfl rfl rfl) (opd_dep 21 72 2 rfl rfl rfl rfl) (opd_dep 23 74 0 rfl rfl rfl rfl) rfl ?_
  refine VWalk.pickT _ _ _ rfl (want_ff 15 66 9 rfl (by kernel_rfl) rfl rfl rfl rfl) (opd_dep 18 69 6 rfl rfl rfl rfl) (opd_dep 24 75 0 rfl rfl rfl rfl) ?_
  refine VWalk.pickF _ _ _ rfl (want_none rfl) (opd_dep 15 66 10 rfl rfl rfl rfl) (opd_dep 25 76 0 rfl rfl rfl rfl) ?_
  refine VWalk.move _ rfl (want_none rfl) (opd_dep 26 77 0 rfl rfl rfl rfl) ?_
  refine VWalk.move _ rfl (want_ff 27 78 0 rfl (by kernel_rfl) rfl rfl rfl rfl) (opd_fr 1 rfl hb (ext_drew _) (by kernel_rfl)) ?_
  refine VWalk.lenB 23 5 _ rfl Try.underlying23 (want_ff 27 78 1 rfl (by kernel_rfl) rfl rfl rfl rfl) (opd_dep 28 79 0 rfl rfl rfl rfl) ?_
  refine VWalk.eqT' _ _ _ _ rfl (want_ff 27 78 2 rfl (by kernel_rfl) rfl rfl rfl rfl) (opd_dep 29 80 0 rfl rfl rfl rfl) (opd_const _) (by omega) ?_
  refine VWalk.move _ rfl (want_ff 27 78 3 rfl (by kernel_rfl) rfl rfl rfl rfl) (opd_dep 30 81 0 rfl rfl rfl rfl) ?_
  refine VWalk.skip (want_ft 31 82 0 rfl (by kernel_rfl) rfl rfl rfl rfl) ?_
  refine VWalk.skip (want_ft 31 82 1 rfl (by kernel_rfl) rfl rfl rfl rfl) ?_
  refine VWalk.pickF _ _ _ rfl (want_ff 27 78 6 rfl (by kernel_rfl) rfl rfl rfl rfl) (opd_dep 31 82 2 rfl rfl rfl rfl) (opd_const _) ?_
  refine VWalk.pickF _ _ _ rfl (want_none rfl) (opd_dep 27 78 7 rfl rfl rfl rfl) (opd_dep 34 85 0 rfl rfl rfl rfl) ?_
  refine ⟨rfl, fun W5 hE5 => ?_⟩
  refine VFin.any fun v5_0 hv5_0 => ?_
  refine VFin.eq ?_  -- 1
  refine VFin.eq ?_  -- 2
  refine VFin.eq ?_  -- 3
  refine VFin.eq ?_  -- 4
  refine VFin.eq ?_  -- 5
  refine VFin.eq ?_  -- 6
  refine VFin.eq ?_  -- 7
  refine VFin.eq ?_  -- 8
  refine VFin.eq ?_  -- 9
  refine VFin.eq ?_  -- 10
  refine VFin.eq ?_  -- 11
  refine VFin.eq ?_  -- 12
  refine VFin.eq ?_  -- 13
  refine VFin.eq ?_  -- 14
  refine VFin.eq ?_  -- 15
  refine VFin.eq ?_  -- 16
  refine VFin.eq ?_  -- 17
  refine VFin.eq ?_  -- 18
  refine VFin.any fun v5_19 hv5_19 => ?_
  refine VFin.any fun v5_20 hv5_20 => ?_
  refine VFin.eq ?_  -- 21
  refine VFin.any fun v5_22 hv5_22 => ?_
  refine VFin.eq ?_  -- 23
  refine VFin.eq ?_  -- 24
  refine VFin.eq ?_  -- 25
  refine VFin.eq ?_  -- 26
  refine VFin.eq ?_  -- 27
  refine VFin.any fun v5_28 hv5_28 => ?_
  refine VFin.eq ?_  -- 29
  refine VFin.eq ?_  -- 30
  refine VFin.eq ?_  -- 31
  refine VFin.eq ?_  -- 32
  refine VFin.eq ?_  -- 33
  refine VFin.eq ?_  -- 34
  refine VFin.eq ?_  -- 35
  refine VFin.nil ?_
  simp only [Act.put, List.setIfInBounds_toArray, List.set_cons_zero, List.set_cons_succ]
  clear hv5_0 hv5_19 hv5_20 hv5_22 hv5_28
  have hb := VP.st _ _ _ _ hb ((ext_drew _).tr hE5)
  have hl := VP.st _ _ _ _ hl ((ext_drew _).tr hE5)
  have hmm := VP.st _ _ _ _ hmm ((ext_drew _).tr hE5)
  have hq4 := VP.st _ _ _ _ hq4 ((ext_drew _).tr hE5)
  have hv4_4 := VP.st _ _ _ _ hv4_4 ((ext_drew _).tr hE5)
  have hE := hE.tr ((ext_drew _).tr hE5)
  clear hbp hbn hpb
  rotate_left
  all_goals
    clear htp hq4
    go_wp2_with fail
    refine (hput _ hl).mono ?_
    rintro _ w7 ⟨u, rfl, hE7, hO7⟩
    have hq7 := OwnB.bytes hO7
    rw [hpb] at hq7
    have hpl : (bd ++ SumM.putB (SumM.ofB bd)).length = bd.length + 4 := by rw [List.length_append, SumM.putB_length]
    obtain ⟨Ap, cp, hu7, hpa, hpc, -⟩ := VBytes.form hq7
    generalize SumM.putB (SumM.ofB bd) = sb at *
    obtain ⟨n, hn⟩ : ∃ n, bd.length + 4 = n := ⟨_, rfl⟩
    rw [hpl, hn] at hu7 hpa
    subst hu7
    have hE := hE.tr hE7
    have hmm := VP.st _ _ _ _ hmm hE7
    have hup := VBytes.upto hq7 bd.length (by rw [hpl]; omega)
    rw [List.take_left] at hup
    obtain ⟨b1, b2⟩ := hbl
    obtain ⟨k, k1, k2, hkq⟩ := clampM bd.length ii b2
    obtain ⟨mi, hmi⟩ : ∃ m, (if ii < 1 then 1 else ii) = m := ⟨_, rfl⟩
    rw [hmi] at hkq
    have Hmi := hide hmi
    have Hkq := hide hkq
    have hn10 : ¬ (n : Int) < 10 := by omega
    have hn4 : (n : Int) - 4 = (bd.length : Int) := by omega
    obtain ⟨m, hm0⟩ : ∃ m, bd.length - k = m := ⟨_, rfl⟩
    have hmk : (bd.length : Int) - (k : Int) = (m : Int) := by omega
    have hm1 : 6 ≤ m := by omega
    have hm2 : m < bd.length := by omega
    have htl := hless m hm1 hm2
    have hup2 := VBytes.upto hup m (by omega)
    obtain ⟨f9, ws9, e9, hm9, he9⟩ : ∃ f ws e, takeP (summedP (bd ++ mo)) = (f, ws, e) ∧ e = if mo = [] then 0 else 43 := by
      by_cases h : mo = []
      · exact ⟨_, _, _, by rw [hmore, if_pos h], by rw [if_pos h]⟩
      · exact ⟨_, _, _, by rw [hmore, if_neg h], by rw [if_neg h]⟩
    have hsl : ∀ x : List UInt8, (summedP x).length = x.length + 4 := fun x => by unfold summedP; rw [List.length_append, SumM.putB_length]
    have htk9 := fun W v hv => c_pktake (w0 := W) (summedP (bd ++ mo)) f9 ws9 e9 hm9 (by rw [hsl, List.length_append]; omega) v W (Ext.rf W) hv
    have htk10 := fun W v hv => c_pktake (w0 := W) (summedP (bd.take m)) false [] 12 htl (by rw [hsl, List.length_take]; omega) v W (Ext.rf W) hv
    have hsm9 := fun W v hv => rsummed_own (bd ++ mo) v W hv (by rw [List.length_append]; omega)
    have hsm10 := fun W v hv => rsummed_own (bd.take m) v W hv (by rw [List.length_take]; omega)
    have h64 : bd.length ≤ cp ∧ m ≤ cp ∧ (bd.length : Int) ≤ cp ∧ (m : Int) ≤ cp := by omega
    obtain ⟨c1, c2, c3, c4⟩ := h64
    have He9 := hide he9
    clear he9
    have Hb1 := hide b1
    have Hb2 := hide b2
    have Hc := hide (⟨hpa, hpc, hf1, hf2, hmo⟩ : _ ∧ _ ∧ _ ∧ _ ∧ _)
    clear hput hmi hkq hsl hm9 htl hmore hless hpb hq7 hpl hO7 hE7 hn
    go_upto_region 11 with (fail)
    refine vregion0 5 (by kernel_rfl) ?_
    refine VWalk.move _ rfl (want_none rfl) (opd_frame 4 rfl (by kernel_rfl)) ?_
    refine VWalk.det2 (r := .int .i64 mi) (Operand.tmp 96) (Operand.const (Value.int IntKind.i64 1)) (want_none rfl) (opd_dep 0 96 0 rfl rfl rfl rfl) (opd_const _) (fun ρ w hE h1 h2 => by simp [h1, h2, go_sem]; exact Hmi.out) ?_
    refine VWalk.move _ rfl (want_none rfl) (opd_frame 16 rfl (by kernel_rfl)) ?_
    refine VWalk.sub64 _ _ _ _ rfl (want_none rfl) (opd_dep 2 98 0 rfl rfl rfl rfl) (opd_const _) (by omega) ?_
    refine VWalk.det2 (r := .int .i64 (k : Int)) (Operand.tmp 97) (Operand.tmp 99) (want_none rfl) (opd_dep 1 97 2 rfl rfl rfl rfl) (opd_dep 3 99 0 rfl rfl rfl rfl) (fun ρ w hE h1 h2 => by simp [h1, h2, go_sem]; exact Hkq.out) ?_
    refine ⟨rfl, fun W11 hE11 => ?_⟩
    refine VFin.eq ?_  -- 0
    refine VFin.eq ?_  -- 1
    refine VFin.eq ?_  -- 2
    refine VFin.eq ?_  -- 3
    refine VFin.eq ?_  -- 4
    refine VFin.nil ?_
    simp only [Act.put, List.setIfInBounds_toArray, List.set_cons_zero, List.set_cons_succ]
    have hE := hE.tr hE11
    have hmm := VP.st _ _ _ _ hmm hE11
    have hup := VP.st _ _ _ _ hup hE11
    have hup2 := VP.st _ _ _ _ hup2 hE11
    clear hE11 Hmi Hkq k1 k2 hm0
    go_wp2_with (at_builtin; first | (refine wpList_append_bytes rfl _ _ 23 rfl W11.heap.size 5 i0 (.int .u8 0) Try.underlying23 hi hz0 hz1 hz2 rfl _ _ [] bd rfl (OwnB.made W11 W11.heap.size 5 (Nat.le_refl _)) rfl (VP.st _ _ _ _ hup (ext_alloc _ _)) (by have := Hb1.out; simp; omega) (ext_alloc _ _).size ?_; intro v8 w8 hown8 hgrow8 hat8; rw [List.nil_append] at hown8; have hE8 : Ext W11 w8 := below_ng (Ext.rf W11) hgrow8 (fun k hk => by cases hk; exact Nat.le_refl _); have Hge8 := hide (OwnB.ge hown8); have hmm8 := VP.st _ _ _ _ hmm hE8; obtain ⟨A8, c8, e8⟩ := OwnB.form hown8; subst e8; have HO8 := hide hown8; clear hown8 hgrow8 hat8 hup hmm) | (refine wpList_append_bytes rfl _ _ 23 rfl W11.heap.size 5 i0 (.int .u8 0) Try.underlying23 hi hz0 hz1 hz2 rfl _ _ bd mo rfl HO8.out rfl hmm8 (by have := Hb1.out; omega) hE8.size ?_; intro v9 w9 hown9 hgrow9 hat9))
    have hE9 : Ext W11 w9 := hE8.grown hgrow9 hE8.size (fun j hj => by have := Hge8.out j hj; omega)
    have hq9 := OwnB.bytes hown9
    have hE := hE.tr hE9
    have hup2 := VP.st _ _ _ _ hup2 hE9
    obtain ⟨A9, c9, e9'⟩ := OwnB.form hown9
    subst e9'
    clear HO8 Hge8 hown9 hgrow9 hat9 hE8 hE9 hmm8
    go_wp2_with fail
    refine (hsm9 _ _ hq9).mono ?_
    rintro _ w10 ⟨u, rfl, hE10, hO10⟩
    have hq10 := OwnB.bytes hO10
    obtain ⟨A10, c10, rfl⟩ := OwnB.form hO10
    have hE := hE.tr hE10
    have hup2 := VP.st _ _ _ _ hup2 hE10
    clear hO10 hE10 hq9 hsm9
    go_wp2_with fail
    refine (htk9 _ _ hq10).mono ?_
    rintro _ w11 ⟨u, rfl, hE11, hu⟩
    obtain ⟨_, m1, _, rfl, rfl, hm1v, rfl⟩ := VTup.inv3 hu
    obtain ⟨Am, cm, rfl, -⟩ := VParts.form hm1v
    have hE := hE.tr hE11
    have hup2 := VP.st _ _ _ _ hup2 hE11
    clear hm1v hE11 hq10 htk9 hu
    go_wp2_with fail
    refine (hsm10 _ _ hup2).mono ?_
    rintro _ w12 ⟨u, rfl, hE12, hO12⟩
    have hq12 := OwnB.bytes hO12
    obtain ⟨A12, c12, rfl⟩ := OwnB.form hO12
    have hE := hE.tr hE12
    clear hO12 hE12 hup2 hsm10
    go_wp2_with fail
    refine (htk10 _ _ hq12).mono ?_
    rintro _ w13 ⟨u, rfl, hE13, hu⟩
    obtain ⟨_, m2, _, rfl, rfl, hm2v, rfl⟩ := VTup.inv3 hu
    obtain ⟨Am2, cm2, rfl, -⟩ := VParts.form hm2v
    have hE := hE.tr hE13
    clear hm2v hE13 hq12 htk10 hu hmk hn4 hn10
    have he9 := He9.out
    clear He9
    by_cases hmo2 : mo = []
    · rw [if_pos hmo2] at he9
      have hz : mo.length = 0 := by rw [hmo2]; rfl
      have hz2 : ¬ (0 : Int) < (mo.length : Int) := by omega
      have hz3 : (mo.length : Int) = 0 := by omega
      subst he9
      go_wp2_with fail
      refine (hwk _).mono ?_
      rintro _ w14 ⟨u, rfl, hE14, rfl⟩
      go_wp2
      go_ret
      exact Ret.mk (hE.tr hE14) rfl
    · rw [if_neg hmo2] at he9
      have hz := List.length_pos_iff.2 hmo2
      have hz2 : (0 : Int) < (mo.length : Int) := by omega
      subst he9
      go_wp2_with fail
      refine (hwk _).mono ?_
      rintro _ w14 ⟨u, rfl, hE14, rfl⟩
      go_wp2
      go_ret
      exact Ret.mk (hE.tr hE14) rfl
end Go.Proofs.Ytggjkhldknppkaa
