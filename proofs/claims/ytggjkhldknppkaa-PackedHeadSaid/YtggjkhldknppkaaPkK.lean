/- Packed words, taken: the document's way. -/
import Derived.Test.YtggjkhldknppkaaPkJ
namespace Go.Proofs.Ytggjkhldknppkaa
open Go.RowKit PakM DigM
theorem VOwn.from {base : Nat} {e1 : TypeId} {bs : List UInt8} {A : Option Addr} {n c : Nat} {w : World} (h : VOwn base e1 bs (.slice A n c) w) (lo : Nat) (hlo : lo ≤ bs.length) : VOwn base e1 (bs.drop lo) (.slice (if c = lo then A else A.map (·.add lo)) (bs.length - lo) (c - lo)) w := by
  obtain ⟨h1, h2⟩ := h
  obtain ⟨A', c', e, -, -, hcut⟩ := slice_form h1
  cases e
  have h3 := hcut lo bs.length hlo (Nat.le_refl _)
  rw [List.take_length] at h3
  refine ⟨h3, fun g hg => h2 g ?_⟩
  cases A with
  | none => simp [Value.ownBlock] at hg
  | some a =>
    have hb : (a.add lo).block = a.block := by unfold Addr.add; split <;> rfl
    by_cases hc : c = lo
    · rw [if_pos hc] at hg; simpa [Value.ownBlock] using hg
    · rw [if_neg hc] at hg
      simp only [Option.map_some, Value.ownBlock, Option.some.injEq] at hg ⊢
      rw [← hg, hb]
theorem VBytes.upto {bs : List UInt8} {A : Option Addr} {n c : Nat} {w : World} (h : VBytes bs (.slice A n c) w) (hi : Nat) (hhi : hi ≤ bs.length) : VBytes (bs.take hi) (.slice A hi c) w := by
  obtain ⟨A', c', e, -, -, hcut⟩ := slice_form h
  cases e
  have h3 := hcut 0 hi (by omega) hhi
  rw [List.drop_zero] at h3
  have : A.map (·.add 0) = A := by
    cases A with
    | none => rfl
    | some a => simp [Addr.add]
  rw [this] at h3
  simpa using h3
set_option maxRecDepth 100000 in
set_option maxHeartbeats 4000000 in
theorem rptake_any (b : List UInt8) (v : Value) (w : World) (hB : VBytes b v w) (hlen : b.length ≤ 1000000) : Calls Try.prog 11 #[v] w (Ret w (VTup [VEq (.bool (takeP b).1), VParts (takeP b).2.1, VEq (.int .i64 (takeP b).2.2)])) := by
  have hhd := fun W hv => rhead_any b v W hv hlen
  obtain ⟨i0, hi, hz0, hz1, hz2⟩ := info_parts Dg.Try.infoB
  obtain ⟨i1, hi1, hz3, hz4, hz5⟩ := info_parts Pk.infoSl
  have hB0 := hB
  obtain ⟨A, c, rfl, hc1, hc2, hcut⟩ := slice_form hB
  unfold maxLen at hc2
  by_cases hh : (headP b).2 = 0
  case neg =>
    have htp : takeP b = (false, [], (headP b).2) := by unfold takeP; rw [if_pos hh]
    rw [htp]
    obtain ⟨⟨fl, er⟩, hp⟩ : ∃ x, headP b = x := ⟨_, rfl⟩
    rw [hp] at hhd hh ⊢
    dsimp only at hhd hh ⊢
    have he : (er == 0) = false := by rw [beq_eq_false_iff_ne]; exact hh
    clear htp hp hh hcut hB
    go_enter Try.func11, Try.ntmps11
    go_wp2_with fail
    refine (hhd _ hB0).mono ?_
    rintro e w1 ⟨u, rfl, hE1, hu⟩
    obtain ⟨_, _, rfl, rfl, rfl⟩ := VTup.inv2 hu
    clear hhd hu
    go_wp2
    exact bodyPost_ret (v := .tuple #[.bool false, .slice none 0 0, .int .i64 er]) (by simp [results, Try.results11, go_sem]) rfl (Ret.mk hE1 (VTup.three rfl (nil_parts _) rfl))
  have h10 : 10 ≤ b.length := by
    unfold headP at hh
    by_cases h : b.length < 10
    · rw [if_pos h] at hh; cases hh
    · omega
  obtain ⟨bb, off, rfl⟩ : ∃ bb off, A = some ⟨bb, off, none⟩ := by
    obtain ⟨A', c', e, -, -, hx⟩ := VBytes.form hB0
    cases e
    obtain ⟨bb, off, h, _⟩ := hx (by omega)
    exact ⟨bb, off, h⟩
  have hc5 : ¬ c = 5 := by omega
  have hmid := hcut 5 (b.length - 4) (by omega) (by omega)
  rw [if_neg hc5] at hmid
  simp only [Option.map_some, addr_add] at hmid
  change VBytes (midP b) _ w at hmid
  have hml : (midP b).length ≤ 1000000 := by unfold midP; rw [List.length_drop, List.length_take]; omega
  have hnum := fun v W hv => Dg.rtake_own (midP b) v W hv hml
  rw [hh] at hhd
  have hcases := take_cases b hh
  obtain ⟨fl, hfl⟩ : ∃ f, (headP b).1 = f := ⟨_, rfl⟩
  rw [hfl] at hhd hcases
  have htn : (takeN (midP b)).2.2 ≠ 0 → takeP b = (false, [], 12) := fun h => by unfold takeP; rw [if_neg (fun h => h hh), if_pos h]
  have hmany := fun h => (takeN_only (bs := midP b) h).1
  have hrl : (takeN (midP b)).2.2 = 0 → (takeN (midP b)).2.1.length ≤ 1000000 := fun h => Nat.le_trans (Nat.le_of_lt (Dg.takeF_len 0 0 _ h)) hml
  obtain ⟨⟨many, rb, e0⟩, htk⟩ : ∃ x, takeN (midP b) = x := ⟨_, rfl⟩
  obtain ⟨tp, htq⟩ : ∃ t, takeP b = t := ⟨_, rfl⟩
  rw [htk] at hnum hcases htn hmany hrl
  rw [htq] at hcases htn ⊢
  dsimp only at hnum hcases htn hmany hrl
  clear hcut hB hfl hh htk htq
  have Hcs := hide hcases
  have Htn := hide htn
  have Hmany := hide hmany
  have Hrl := hide hrl
  clear hcases htn hmany hrl
  by_cases hz : e0 = 0
  case neg =>
    have hz' : (e0 == 0) = false := by rw [beq_eq_false_iff_ne]; exact hz
    obtain rfl := Htn.out hz
    clear hz Hcs Htn Hmany Hrl
    go_enter Try.func11, Try.ntmps11
    go_wp2_with fail
    refine (hhd _ hB0).mono ?_
    rintro e w1 ⟨u, rfl, hE1, hu⟩
    obtain ⟨_, _, rfl, rfl, rfl⟩ := VTup.inv2 hu
    have hnum := hnum _ _ (VP.st _ _ _ _ hmid hE1)
    clear hhd hu hmid
    go_wp2_with fail
    refine hnum.mono ?_
    rintro e w2 ⟨u, rfl, hE2, x, rfl, hx⟩
    obtain ⟨Ax, cx, rfl⟩ := OwnB.form hx
    clear hnum
    go_wp2
    exact bodyPost_ret (v := .tuple #[.bool false, .slice none 0 0, .int .i64 12]) (by simp [results, Try.results11, go_sem]) rfl (Ret.mk (hE1.tr hE2) (VTup.three rfl (nil_parts _) rfl))
  subst hz
  have hmany2 : many ≤ 2147483647 := Hmany.out rfl
  have hrl := Hrl.out rfl
  have Hcs2 := hide (Hcs.out rfl)
  clear Hcs Htn Hmany Hrl
  go_enter Try.func11, Try.ntmps11
  go_wp2_with fail
  refine (hhd _ hB0).mono ?_
  rintro e w1 ⟨u, rfl, hE1, hu⟩
  obtain ⟨_, _, rfl, rfl, rfl⟩ := VTup.inv2 hu
  have hnum := hnum _ _ (VP.st _ _ _ _ hmid hE1)
  clear hhd hu hmid
  go_wp2_with fail
  refine hnum.mono ?_
  rintro e w2 ⟨u, rfl, hE2, x, rfl, hx⟩
  have hxo := VOwn.low (OwnB.vown hx) hE1.size
  clear hnum hx
  have HE := hide (hE1.tr hE2)
  clear hE1 hE2
  go_wp2
  go_loopw [8, 10, 11] (fun u o i wr => ∃ k : Nat, k ≤ many ∧ i = .int .i64 (k : Int) ∧ Hid (∀ j, j < k → goodB (rests rb j) = true) ∧ Hid (VOwn w.heap.size 5 (rests rb k) u wr) ∧ Hid (OwnP wr w.heap.size 23 5 o (wordsUp rb k)) ∧ Hid (Below w.heap.size w wr)) (fun _ _ i _ => many - (intOf i).toNat)
  case atStart => exact ⟨0, by omega, rfl, hide (fun j h => by omega), hxo, OwnP.nil _ _ _ _, HE⟩
  case round =>
    clear HE hxo
    obtain ⟨k, hk, rfl, HG, HR, HO, HE⟩ := hrel
    have hEr : Ext w wr := HE.out
    have hR := HR.out
    have hrk := rests_len rb k HG.out
    by_cases hlt : k < many
    · have hnx := Dg.rtake_own (rests rb k) _ wr hR.1 (by omega)
      have hgi := @goodB_iff (rests rb k)
      have hnl : (takeN (rests rb k)).2.2 = 0 → (takeN (rests rb k)).2.1.length < (rests rb k).length := fun h => Dg.takeF_len 0 0 _ h
      have hst : oneW (rests rb k) = (takeN (rests rb k)).2.1.take (takeN (rests rb k)).1 ∧ rests rb (k + 1) = (takeN (rests rb k)).2.1.drop (takeN (rests rb k)).1 := ⟨rfl, rfl⟩
      have hbad : goodB (rests rb k) = false → wordsF many rb = none := fun h => wordsF_no rb k many HG.out h hlt
      obtain ⟨⟨n0, r0, e1⟩, htk⟩ : ∃ x, takeN (rests rb k) = x := ⟨_, rfl⟩
      rw [htk] at hnx hgi hnl hst
      dsimp only at hnx hgi hnl hst
      have Hgi := hide hgi
      have Hst := hide hst
      have Hbad := hide hbad
      have Hnl := hide hnl
      clear htk hgi hst hbad hnl hR
      obtain ⟨Au, cu, eu, -⟩ := VBytes.form HR.out.1
      subst eu
      by_cases hz : e1 = 0
      case neg =>
        have hz' : (e1 == 0) = false := by rw [beq_eq_false_iff_ne]; exact hz
        have hz2 : (e1 != 0) = true := by rw [bne_iff_ne]; exact hz
        have hgd : goodB (rests rb k) = false := by
          cases hg : goodB (rests rb k)
          · rfl
          · exact absurd (Hgi.out.1 hg).1 hz
        obtain rfl := Hcs2.out.1 (Hbad.out hgd)
        clear hz hgd Hgi Hst Hbad Hnl Hcs2
        go_wp2_with fail
        refine hnx.mono ?_
        rintro e w3 ⟨u, rfl, hE3, x, rfl, hx⟩
        obtain ⟨Ax, cx, rfl⟩ := OwnB.form hx
        clear hnx
        go_wp2
        exact bodyPost_ret (v := .tuple #[.bool false, .slice none 0 0, .int .i64 12]) (by simp [results, Try.results11, go_sem]) rfl (Ret.mk (hEr.tr hE3) (VTup.three rfl (nil_parts _) rfl))
      subst hz
      have hr0 := Hnl.out rfl
      by_cases hn : n0 ≤ r0.length
      case neg =>
        have hn' : (r0.length : Int) < (n0 : Int) := by omega
        have hgd : goodB (rests rb k) = false := by
          cases hg : goodB (rests rb k)
          · rfl
          · exact absurd (Hgi.out.1 hg).2 hn
        obtain rfl := Hcs2.out.1 (Hbad.out hgd)
        clear hn hgd Hgi Hst Hbad Hnl Hcs2
        go_wp2_with fail
        refine hnx.mono ?_
        rintro e w3 ⟨u, rfl, hE3, x, rfl, hx⟩
        obtain ⟨Ax, cx, rfl⟩ := OwnB.form hx
        clear hnx
        go_wp2
        exact bodyPost_ret (v := .tuple #[.bool false, .slice none 0 0, .int .i64 12]) (by simp [results, Try.results11, go_sem]) rfl (Ret.mk (hEr.tr hE3) (VTup.three rfl (nil_parts _) rfl))
      have HG2 : Hid (∀ j, j < k + 1 → goodB (rests rb j) = true) := fun j hj => by
        by_cases hjk : j < k
        · exact HG.out j hjk
        · obtain rfl : j = k := by omega
          exact Hgi.out.2 ⟨rfl, hn⟩
      have Hup := hide (wordsUp_succ rb k)
      have hst := Hst.out
      rw [hst.1] at Hup
      have Hst2 := hide hst.2
      have hwul := wordsUp_length rb k
      have Hwul := hide hwul
      clear hst Hst Hgi Hbad Hnl HG hwul
      go_wp2_with fail
      refine hnx.mono ?_
      rintro e w3 ⟨u, rfl, hE3, x, rfl, hx⟩
      have hEw := hEr.tr hE3
      have hxo := VOwn.low (OwnB.vown hx) hEr.size
      obtain ⟨Ax, cx, rfl⟩ := OwnB.form hx
      have hup := VBytes.upto hxo.1 n0 hn
      have hfrom := VOwn.from hxo n0 hn
      have Hfrom := hide hfrom
      obtain ⟨xs, ho1, ho2, ho3⟩ := OwnP.st HO.out hE3
      have hup2 : VBytes (r0.take n0) (.slice Ax n0 cx) w3 := hup
      have hln : (r0.take n0).length = n0 := by rw [List.length_take]; omega
      have Hln := hide hln
      obtain ⟨Ac, cc, hcv⟩ := slice_form hxo.1
      have hcx : cx ≤ maxLen ∧ r0.length ≤ cx := by
        cases hcv.1
        exact ⟨hcv.2.2.1, hcv.2.1⟩
      unfold maxLen at hcx
      clear hnx hx hfrom hln hcv HO HR hup
      rw [Hwul.out] at ho1
      by_cases hcn : cx = n0
      · have hrl0 : r0.length = n0 := by omega
        have Hrl0 := hide hrl0
        clear hrl0
        subst hcn
        go_wp2_with (at_builtin; first | (refine wpList_append_bytes rfl _ _ 23 rfl w3.heap.size 5 i0 (.int .u8 0) Try.underlying23 hi hz0 hz1 hz2 rfl _ _ [] (r0.take cx) rfl (OwnB.made w3 w3.heap.size 5 (Nat.le_refl _)) rfl (VP.st _ _ _ _ hup2 (ext_alloc _ _)) (by rw [Hln.out]; simp; omega) (ext_alloc _ _).size ?_; intro v4 w4 hown4 hgrow4 hat4; rw [List.nil_append] at hown4; have hE4 : Ext w3 w4 := below_ng (Ext.rf w3) hgrow4 (fun k hk => by cases hk; exact Nat.le_refl _); have hv4 := VOwn.low (OwnB.vown hown4) hEw.size; obtain ⟨A4, c4, e4⟩ := OwnB.form hown4; rw [Hln.out] at e4; subst e4) | (refine wpList_append_src rfl _ _ 22 rfl w.heap.size 23 i1 (.slice none 0 0) 1 24 Try.underlying22 hi1 hz3 hz4 hz5 rfl (by omega) _ _ k 1 xs [.slice A4 cx c4] rfl (own_st (own_st ho1 hE4) (ext_alloc _ _)) rfl rfl (Src.new _ _ _ _) (fun y hy => by rw [List.mem_singleton] at hy; subst hy; rfl) (by omega) (Nat.le_trans hEw.size (hE4.tr (ext_alloc _ _)).size) ?_; intro v5 w5 hown5 hgrow5 hat5))
        have hX4 := hE4.tr (ext_alloc w4 (.cells #[.slice A4 cx c4] 23))
        have ho1' := own_st ho1 hX4
        have hge := fun k => own_ge ho1' k
        have hown5' := hown5
        have ho1q := ho1'
        rw [← Hwul.out] at ho1q hown5'
        have hsn := OwnP.snoc (by decide) ho1q ho2 (fun i p q => VP.st _ _ _ _ (ho3 i p q) hX4) (VP.st _ _ _ _ hv4 (ext_alloc _ _)) hown5' hgrow5
        rw [← Hup.out] at hsn
        have hEX := hEw.tr hX4
        have hE5 : Ext w w5 := hEX.grown hgrow5 hEX.size (fun j hj => by have := hge j hj; omega)
        have HRR : Hid (∀ u, u = Value.slice (if cx = cx then Ax else Ax.map (·.add cx)) (r0.length - cx) (cx - cx) → VOwn w.heap.size 5 (rests rb (k + 1)) u w5) := fun u hu => by
          have hF := Hfrom.out
          first | rw [if_pos trivial] at hF | rw [if_pos rfl] at hF
          rw [hu, Hst2.out, if_pos rfl]
          exact VOwn.apart (VP.st _ _ _ _ hF hX4) ho1' (by decide) hgrow5
        have HSN := hide hsn
        have HE5 := hide hE5
        clear hX4 ho1' hge hown5' ho1q hsn hEX hE5 hown5 hgrow5 hat5 hown4 hgrow4 hat4 hE4 hv4 ho1 ho2 ho3 hup2 hEw
        go_wp2
        exact ⟨⟨k + 1, by omega, by go_num, HG2, HRR.out _ (by simp [Hrl0.out]), HSN, HE5⟩, by simp [intOf]; omega⟩
      · skip
        go_wp2_with (at_builtin; first | (refine wpList_append_bytes rfl _ _ 23 rfl w3.heap.size 5 i0 (.int .u8 0) Try.underlying23 hi hz0 hz1 hz2 rfl _ _ [] (r0.take n0) rfl (OwnB.made w3 w3.heap.size 5 (Nat.le_refl _)) rfl (VP.st _ _ _ _ hup2 (ext_alloc _ _)) (by rw [Hln.out]; simp; omega) (ext_alloc _ _).size ?_; intro v4 w4 hown4 hgrow4 hat4; rw [List.nil_append] at hown4; have hE4 : Ext w3 w4 := below_ng (Ext.rf w3) hgrow4 (fun k hk => by cases hk; exact Nat.le_refl _); have hv4 := VOwn.low (OwnB.vown hown4) hEw.size; obtain ⟨A4, c4, e4⟩ := OwnB.form hown4; rw [Hln.out] at e4; subst e4) | (refine wpList_append_src rfl _ _ 22 rfl w.heap.size 23 i1 (.slice none 0 0) 1 24 Try.underlying22 hi1 hz3 hz4 hz5 rfl (by omega) _ _ k 1 xs [.slice A4 n0 c4] rfl (own_st (own_st ho1 hE4) (ext_alloc _ _)) rfl rfl (Src.new _ _ _ _) (fun y hy => by rw [List.mem_singleton] at hy; subst hy; rfl) (by omega) (Nat.le_trans hEw.size (hE4.tr (ext_alloc _ _)).size) ?_; intro v5 w5 hown5 hgrow5 hat5))
        have hX4 := hE4.tr (ext_alloc w4 (.cells #[.slice A4 n0 c4] 23))
        have ho1' := own_st ho1 hX4
        have hge := fun k => own_ge ho1' k
        have hown5' := hown5
        have ho1q := ho1'
        rw [← Hwul.out] at ho1q hown5'
        have hsn := OwnP.snoc (by decide) ho1q ho2 (fun i p q => VP.st _ _ _ _ (ho3 i p q) hX4) (VP.st _ _ _ _ hv4 (ext_alloc _ _)) hown5' hgrow5
        rw [← Hup.out] at hsn
        have hEX := hEw.tr hX4
        have hE5 : Ext w w5 := hEX.grown hgrow5 hEX.size (fun j hj => by have := hge j hj; omega)
        have HRR : Hid (∀ u, u = Value.slice (if cx = n0 then Ax else Ax.map (·.add n0)) (r0.length - n0) (cx - n0) → VOwn w.heap.size 5 (rests rb (k + 1)) u w5) := fun u hu => by
          rw [hu, Hst2.out]
          exact VOwn.apart (VP.st _ _ _ _ Hfrom.out hX4) ho1' (by decide) hgrow5
        have HSN := hide hsn
        have HE5 := hide hE5
        clear hX4 ho1' hge hown5' ho1q hsn hEX hE5 hown5 hgrow5 hat5 hown4 hgrow4 hat4 hE4 hv4 ho1 ho2 ho3 hup2 hEw
        go_wp2
        exact ⟨⟨k + 1, by omega, by go_num, HG2, HRR.out _ (by simp [hcn]), HSN, HE5⟩, by simp [intOf]; omega⟩
    · obtain rfl : k = many := by omega
      have hwf := wordsF_up rb k HG.out
      have hcs := Hcs2.out.2 _ _ hwf
      have hul := wordsUp_length rb k
      have hP := OwnP.parts HO.out
      obtain ⟨Ao, co, eo⟩ := OwnP.form HO.out
      subst eo
      obtain ⟨Au, cu, eu, -⟩ := VBytes.form hR.1
      subst eu
      by_cases hr : rests rb k = []
      · obtain rfl := hcs.2 hr
        have hl0 : ¬ ((0 : Int) < ((rests rb k).length : Int)) := by rw [hr]; simp
        have HP := hide hP
        clear hcs hr hP hR HR HO hwf hul Hcs2 hnum
        go_wp2
        refine bodyPost_ret (v := .tuple #[.bool fl, _, .int .i64 0]) (by simp [results, Try.results11, go_sem]) rfl (Ret.mk hEr (VTup.three rfl HP.out rfl))
      · obtain rfl := hcs.1 hr
        have hl0 : (0 : Int) < ((rests rb k).length : Int) := by
          have := List.length_pos_iff.2 hr
          omega
        clear hcs hr hP hR HR HO hwf hul Hcs2 hnum
        go_wp2
        exact bodyPost_ret (v := .tuple #[.bool false, .slice none 0 0, .int .i64 43]) (by simp [results, Try.results11, go_sem]) rfl (Ret.mk hEr (VTup.three rfl (nil_parts _) rfl))
end Go.Proofs.Ytggjkhldknppkaa
