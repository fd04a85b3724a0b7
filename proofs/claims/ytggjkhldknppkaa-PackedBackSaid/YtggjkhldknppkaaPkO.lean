/- PackedBack, walked. -/
import Derived.Test.YtggjkhldknppkaaPkL
namespace Go.Proofs.Ytggjkhldknppkaa
open Go.RowKit PakM DigM
theorem take_err (b : List UInt8) (h : (takeP b).2.2 ≠ 0) : (takeP b).1 = false ∧ (takeP b).2.1 = [] := by
  unfold takeP at h ⊢
  split
  · exact ⟨rfl, rfl⟩
  · rename_i h1
    rw [if_neg h1] at h
    split
    · exact ⟨rfl, rfl⟩
    · rename_i h2
      rw [if_neg h2] at h
      cases hw : wordsF (takeN (midP b)).1 (takeN (midP b)).2.1 with
      | none => exact ⟨rfl, rfl⟩
      | some r =>
        rw [hw] at h
        dsimp only at h ⊢
        split
        · exact ⟨rfl, rfl⟩
        · rename_i h3
          rw [if_neg h3] at h
          exact absurd rfl h
theorem sizeW_ge (ws : List (List UInt8)) : ws.length + ws.flatten.length ≤ sizeW ws := by
  induction ws with
  | nil => simp [sizeW]
  | cons w ws ih =>
    have := putN_pos w.length
    unfold sizeW at ih ⊢
    simp only [List.length_cons, List.flatten_cons, List.length_append, List.map_cons, List.sum_cons]
    omega
set_option maxRecDepth 100000 in
set_option maxHeartbeats 8000000 in
theorem packedBack_any (fold : Bool) (ls : List (List UInt8)) (b : List UInt8) (vl vb : Value) (w : World) (hL : VParts ls vl w) (hB : VBytes b vb w) : Calls Try.prog 4 #[.bool fold, vl, vb] w (Ret w (VEq (.bool true))) := by
  have hwk := wakes_any
  have hg1 := fun W hv => great_any ls vl W hv
  unfold VGreat at hg1
  have hL0 := hL
  have hB0 := hB
  obtain ⟨A, c, rfl, hc1, hc2, -⟩ := VParts.form hL
  obtain ⟨D, d, rfl, hd1, hd2, -⟩ := VBytes.form hB
  unfold maxLen at hc2 hd2
  clear hL hB
  go_enter Try.func4, Try.ntmps4
  go_wp2_with fail
  refine (hg1 _ hL0).mono ?_
  rintro e w1 ⟨u, rfl, hE, rfl⟩
  obtain ⟨g1, hq1⟩ : ∃ g, greatB ls = g := ⟨_, rfl⟩
  rw [hq1]
  clear hg1
  cases g1
  case true =>
    clear hL0 hB0 hq1
    go_wp2_with fail
    refine (hwk _).mono ?_
    rintro e w3 ⟨u, rfl, hE3, rfl⟩
    go_wp2
    go_ret
    exact Ret.mk (hE.tr hE3) rfl
  by_cases hlen : b.length ≤ 3000
  case neg =>
    clear hL0 hB0 hq1
    go_wp2_with fail
    refine (hwk _).mono ?_
    rintro e w3 ⟨u, rfl, hE3, rfl⟩
    go_wp2
    go_ret
    exact Ret.mk (hE.tr hE3) rfl
  obtain ⟨l1, l2⟩ := greatB_false hq1
  clear hq1
  have hl := VP.st _ _ _ _ hL0 hE
  have hb := VP.st _ _ _ _ hB0 hE
  have hl80 : ls.length ≤ 10000 := by omega
  have hlf : ls.flatten.length ≤ 30000 := by omega
  have hbl : b.length ≤ 1000000 := by omega
  have hm : ∀ b ∈ ls, b.length ≤ most := fun b hb => by
    obtain ⟨j, hj, rfl⟩ := List.getElem_of_mem hb
    have := flat_at hj
    unfold most; omega
  have htk := fun v W hv => pktake_any b v W hv hbl
  have hsz := fun v W hv => psize_any ls v W hv hl80 hlf
  have hpl : 9 + (putN ls.length).length + sizeW ls = (putP fold ls).length := by rw [put_len]; omega
  have hpl2 : (putP fold ls).length ≤ 1000000 := by
    have h1 := putN_most (show ls.length ≤ most by unfold most; omega)
    have h2 := sizeW_le ls hl80 hlf hm ls.length
    rw [List.take_length] at h2
    omega
  rw [hpl] at hsz
  have hpp := fun W0 u v W hX hu hv => c_pput (w0 := W0) fold ls hl80 hlf u v W hX hu hv
  have htp := fun W0 v W hX hv => c_pktake (w0 := W0) (putP fold ls) fold ls 0 (take_put fold ls (by unfold most; omega) hm) hpl2 v W hX hv
  generalize putP fold ls = pp at *
  have hback : (takeP b).2.2 = 0 → putP (takeP b).1 (takeP b).2.1 = b ∧ (takeP b).2.1.length ≤ 10000 ∧ (takeP b).2.1.flatten.length ≤ 30000 := fun h => by
    have h1 := (put_take b (takeP b).1 (takeP b).2.1 (by rw [← h])).1
    have h2 := put_len (takeP b).1 (takeP b).2.1
    have h3 := sizeW_ge (takeP b).2.1
    rw [h1] at h2
    exact ⟨h1, by omega, by omega⟩
  have herr := take_err b
  obtain ⟨⟨x, p, e⟩, htq⟩ : ∃ t, takeP b = t := ⟨_, rfl⟩
  rw [htq] at htk hback herr
  dsimp only at htk hback herr
  clear htq hpl hL0 hB0 hl80 hlf hm hpl2
  go_upto_region 3 with (fail)
  refine vregion0 3 (by kernel_rfl) ?_
  refine VWalk.move _ rfl (want_none rfl) (opd_frame 0 rfl (by kernel_rfl)) ?_
  refine VWalk.move _ rfl (want_none rfl) (opd_fr 1 rfl hl (Ext.rf _) (by kernel_rfl)) ?_
  refine VWalk.call2 15 _ _ _ rfl (enters_of Try.func15 (by kernel_rfl) rfl) (want_none rfl) (opd_dep 0 22 1 rfl rfl rfl rfl) (opd_dep 1 23 0 rfl rfl rfl rfl) (fun u v W hX hu hv => hpp _ u v W hX hu hv) ?_
  refine ⟨rfl, fun W3 hE3 => ?_⟩
  refine VFin.eq ?_  -- 0
  refine VFin.any fun v3_1 hv3_1 => ?_
  refine VFin.any fun v3_2 hv3_2 => ?_
  refine VFin.nil ?_
  simp only [Act.put, List.setIfInBounds_toArray, List.set_cons_zero, List.set_cons_succ]
  clear hv3_1
  have hl := VP.st _ _ _ _ hl hE3
  have hb := VP.st _ _ _ _ hb hE3
  have hE := hE.tr hE3
  go_upto_region 4 with (fail)
  refine vregion0 6 (by kernel_rfl) ?_
  refine VWalk.move _ rfl (want_none rfl) (opd_fr 7 rfl hv3_2 (Ext.rf _) (by kernel_rfl)) ?_
  refine VWalk.call1 10 _ _ rfl (enters_of Try.func10 (by kernel_rfl) rfl) (want_none rfl) (opd_dep 0 26 0 rfl rfl rfl rfl) (fun v W hX hv => htp _ v W hX hv) ?_
  refine VWalk.move _ rfl (want_none rfl) (opd_dep 1 27 0 rfl rfl rfl rfl) ?_
  refine VWalk.extract _ 0 rfl rfl (want_none rfl) (opd_dep 2 25 0 rfl rfl rfl rfl) ?_
  refine VWalk.extract _ 1 rfl rfl (want_none rfl) (opd_dep 2 25 1 rfl rfl rfl rfl) ?_
  refine VWalk.extract _ 2 rfl rfl (want_none rfl) (opd_dep 2 25 2 rfl rfl rfl rfl) ?_
  refine ⟨rfl, fun W4 hE4 => ?_⟩
  refine VFin.any fun v4_0 hv4_0 => ?_
  refine VFin.any fun v4_1 hv4_1 => ?_
  refine VFin.any fun v4_2 hv4_2 => ?_
  refine VFin.eq ?_  -- 3
  refine VFin.any fun v4_4 hv4_4 => ?_
  refine VFin.eq ?_  -- 5
  refine VFin.nil ?_
  simp only [Act.put, List.setIfInBounds_toArray, List.set_cons_zero, List.set_cons_succ]
  clear hv4_0 hv4_1 hv4_2
  have hl := VP.st _ _ _ _ hl hE4
  have hb := VP.st _ _ _ _ hb hE4
  have hv3_2 := VP.st _ _ _ _ hv3_2 hE4
  have hE := hE.tr hE4
  go_upto_region 5 with (fail)
  refine vregion0 20 (by kernel_rfl) ?_
  refine VWalk.move _ rfl (want_none rfl) (opd_frame 10 rfl (by kernel_rfl)) ?_
  refine VWalk.neT _ _ _ _ rfl (want_none rfl) (opd_dep 0 31 0 rfl rfl rfl rfl) (opd_const _) rfl ?_
  refine VWalk.move _ rfl (want_none rfl) (opd_dep 1 32 0 rfl rfl rfl rfl) ?_
  refine VWalk.move _ rfl (want_ff 2 33 0 rfl (by kernel_rfl) rfl rfl rfl rfl) (opd_frame 8 rfl (by kernel_rfl)) ?_
  refine VWalk.move _ rfl (want_ff 2 33 1 rfl (by kernel_rfl) rfl rfl rfl rfl) (opd_frame 0 rfl (by kernel_rfl)) ?_
  refine VWalk.neTb _ _ _ _ rfl (want_ff 2 33 2 rfl (by kernel_rfl) rfl rfl rfl rfl) (opd_dep 3 34 1 rfl rfl rfl rfl) (opd_dep 4 35 0 rfl rfl rfl rfl) Try.underlying4 rfl ?_
  refine VWalk.pickF _ _ _ rfl (want_none rfl) (opd_dep 2 33 3 rfl rfl rfl rfl) (opd_dep 5 36 0 rfl rfl rfl rfl) ?_
  refine VWalk.move _ rfl (want_none rfl) (opd_dep 6 37 0 rfl rfl rfl rfl) ?_
  refine VWalk.move _ rfl (want_ff 7 38 0 rfl (by kernel_rfl) rfl rfl rfl rfl) (opd_fr 1 rfl hl (Ext.rf _) (by kernel_rfl)) ?_
  refine VWalk.move _ rfl (want_ff 7 38 1 rfl (by kernel_rfl) rfl rfl rfl rfl) (opd_fr 9 rfl hv4_4 (Ext.rf _) (by kernel_rfl)) ?_
  refine VWalk.call2 14 _ _ _ rfl (enters_of Try.func14 (by kernel_rfl) rfl) (want_ff 7 38 2 rfl (by kernel_rfl) rfl rfl rfl rfl) (opd_dep 8 39 1 rfl rfl rfl rfl) (opd_dep 9 40 0 rfl rfl rfl rfl) (fun u v W hX hu hv => rpksame_any ls ls u v W hu hv) ?_
  refine VWalk.headT (by simp) ?_
  refine VWalk.notB _ _ rfl (want_ff 7 38 3 rfl (by kernel_rfl) rfl rfl rfl rfl) (opd_dep 10 41 0 rfl rfl rfl rfl) rfl ?_
  refine VWalk.pickF _ _ _ rfl (want_none rfl) (opd_dep 7 38 4 rfl rfl rfl rfl) (opd_dep 11 42 0 rfl rfl rfl rfl) ?_
  refine VWalk.move _ rfl (want_none rfl) (opd_dep 12 43 0 rfl rfl rfl rfl) ?_
  refine VWalk.move _ rfl (want_ff 13 44 0 rfl (by kernel_rfl) rfl rfl rfl rfl) (opd_fr 1 rfl hl (Ext.rf _) (by kernel_rfl)) ?_
  refine VWalk.call1 17 _ _ rfl (enters_of Try.func17 (by kernel_rfl) rfl) (want_ff 13 44 1 rfl (by kernel_rfl) rfl rfl rfl rfl) (opd_dep 14 45 0 rfl rfl rfl rfl) (fun v W hX hv => hsz v W hv) ?_
  refine VWalk.move _ rfl (want_ff 13 44 2 rfl (by kernel_rfl) rfl rfl rfl rfl) (opd_fr 7 rfl hv3_2 (Ext.rf _) (by kernel_rfl)) ?_
  refine VWalk.lenB 23 5 _ rfl Try.underlying23 (want_ff 13 44 3 rfl (by kernel_rfl) rfl rfl rfl rfl) (opd_dep 16 47 0 rfl rfl rfl rfl) ?_
  refine VWalk.neT _ _ _ _ rfl (want_ff 13 44 4 rfl (by kernel_rfl) rfl rfl rfl rfl) (opd_dep 15 46 2 rfl rfl rfl rfl) (opd_dep 17 48 0 rfl rfl rfl rfl) rfl ?_
  refine VWalk.pickF _ _ _ rfl (want_none rfl) (opd_dep 13 44 5 rfl rfl rfl rfl) (opd_dep 18 49 0 rfl rfl rfl rfl) ?_
  refine ⟨rfl, fun W5 hE5 => ?_⟩
  refine VFin.eq ?_  -- 0
  refine VFin.eq ?_  -- 1
  refine VFin.eq ?_  -- 2
  refine VFin.eq ?_  -- 3
  refine VFin.eq ?_  -- 4
  refine VFin.eq ?_  -- 5
  refine VFin.eq ?_  -- 6
  refine VFin.eq ?_  -- 7
  refine VFin.any fun v5_8 hv5_8 => ?_
  refine VFin.any fun v5_9 hv5_9 => ?_
  refine VFin.eq ?_  -- 10
  refine VFin.eq ?_  -- 11
  refine VFin.eq ?_  -- 12
  refine VFin.eq ?_  -- 13
  refine VFin.any fun v5_14 hv5_14 => ?_
  refine VFin.eq ?_  -- 15
  refine VFin.any fun v5_16 hv5_16 => ?_
  refine VFin.eq ?_  -- 17
  refine VFin.eq ?_  -- 18
  refine VFin.eq ?_  -- 19
  refine VFin.nil ?_
  simp only [Act.put, List.setIfInBounds_toArray, List.set_cons_zero, List.set_cons_succ]
  clear hv5_8 hv5_9 hv5_14 hv5_16
  have hl := VP.st _ _ _ _ hl hE5
  have hb := VP.st _ _ _ _ hb hE5
  have hv3_2 := VP.st _ _ _ _ hv3_2 hE5
  have hv4_4 := VP.st _ _ _ _ hv4_4 hE5
  have hE := hE.tr hE5
  go_upto_region 7 with (fail)
  refine vregion0 6 (by kernel_rfl) ?_
  refine VWalk.move _ rfl (want_none rfl) (opd_fr 2 rfl hb (Ext.rf _) (by kernel_rfl)) ?_
  refine VWalk.call1 10 _ _ rfl (enters_of Try.func10 (by kernel_rfl) rfl) (want_none rfl) (opd_dep 0 52 0 rfl rfl rfl rfl) (fun v W hX hv => htk v W hv) ?_
  refine VWalk.move _ rfl (want_none rfl) (opd_dep 1 53 0 rfl rfl rfl rfl) ?_
  refine VWalk.extract _ 0 rfl rfl (want_none rfl) (opd_dep 2 51 0 rfl rfl rfl rfl) ?_
  refine VWalk.extract _ 1 rfl rfl (want_none rfl) (opd_dep 2 51 1 rfl rfl rfl rfl) ?_
  refine VWalk.extract _ 2 rfl rfl (want_none rfl) (opd_dep 2 51 2 rfl rfl rfl rfl) ?_
  refine ⟨rfl, fun W7 hE7 => ?_⟩
  refine VFin.any fun v7_0 hv7_0 => ?_
  refine VFin.any fun v7_1 hv7_1 => ?_
  refine VFin.any fun v7_2 hv7_2 => ?_
  refine VFin.eq ?_  -- 3
  refine VFin.any fun v7_4 hv7_4 => ?_
  refine VFin.eq ?_  -- 5
  refine VFin.nil ?_
  simp only [Act.put, List.setIfInBounds_toArray, List.set_cons_zero, List.set_cons_succ]
  clear hv7_0 hv7_1 hv7_2
  have hl := VP.st _ _ _ _ hl hE7
  have hb := VP.st _ _ _ _ hb hE7
  have hv3_2 := VP.st _ _ _ _ hv3_2 hE7
  have hv4_4 := VP.st _ _ _ _ hv4_4 hE7
  have hE := hE.tr hE7
  by_cases he : e = 0
  · subst he
    obtain ⟨hk1, hk2, hk3⟩ := hback rfl
    have hpb := fun W0 u v W hX hu hv => c_pput (w0 := W0) x p hk2 hk3 u v W hX hu hv
    rw [hk1] at hpb
    clear hk1 hk2 hk3 hback herr
    go_upto_region 10 with (fail)
    refine law_end (r := .bool true) (by assumption) 10 [] 6 78 _ (by kernel_rfl) (by kernel_rfl) (fun _ _ _ _ _ h => h) rfl rfl rfl rfl rfl (by kernel_rfl) rfl 9 rfl rfl ?_
    refine VWalk.move _ rfl (want_none rfl) (opd_frame 11 rfl (by kernel_rfl)) ?_
    refine VWalk.move _ rfl (want_none rfl) (opd_fr 12 rfl hv7_4 (ext_drew _) (by kernel_rfl)) ?_
    refine VWalk.call2 15 _ _ _ rfl (enters_of Try.func15 (by kernel_rfl) rfl) (want_none rfl) (opd_dep 0 69 1 rfl rfl rfl rfl) (opd_dep 1 70 0 rfl rfl rfl rfl) (fun u v W hX hu hv => hpb _ u v W hX hu hv) ?_
    refine VWalk.string 23 9 5 _ rfl Try.underlying23 Try.underlying5 Try.underlying9 (want_none rfl) (opd_dep 2 71 0 rfl rfl rfl rfl) ?_
    refine VWalk.move _ rfl (want_none rfl) (opd_fr 2 rfl hb (ext_drew _) (by kernel_rfl)) ?_
    refine VWalk.string 23 9 5 _ rfl Try.underlying23 Try.underlying5 Try.underlying9 (want_none rfl) (opd_dep 4 73 0 rfl rfl rfl rfl) ?_
    refine VWalk.eqTs _ _ _ _ rfl (want_none rfl) (opd_dep 3 72 2 rfl rfl rfl rfl) (opd_dep 5 74 0 rfl rfl rfl rfl) rfl ?_
    refine VWalk.move _ rfl (want_none rfl) (opd_dep 6 75 0 rfl rfl rfl rfl) ?_
    refine VWalk.call0 9 _ rfl (enters_of Try.func9 (by kernel_rfl) rfl) (want_tt 7 76 0 rfl (by kernel_rfl) rfl rfl rfl rfl) (fun W _ => hwk W) ?_
    refine VWalk.pickT _ _ _ rfl (want_none rfl) (opd_dep 7 76 1 rfl rfl rfl rfl) (opd_dep 8 77 0 rfl rfl rfl rfl) ?_
    refine ⟨rfl, rfl, rfl, fun W10 hE10 => ?_⟩
    exact Ret.mk (hE.tr ((ext_drew _).tr hE10)) rfl
  · obtain ⟨rfl, rfl⟩ := herr he
    have he' : (e == 0) = false := by rw [beq_eq_false_iff_ne]; exact he
    clear hback herr he
    obtain ⟨An, cn, en, -⟩ := VParts.form hv7_4
    subst en
    go_wp2_with fail
    refine (hwk _).mono ?_
    rintro e w9 ⟨u, rfl, hE9, rfl⟩
    go_wp2
    go_ret
    exact Ret.mk (hE.tr hE9) rfl
end Go.Proofs.Ytggjkhldknppkaa
