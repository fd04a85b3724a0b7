/- Packed words by the document: body, the sum behind it, Put. -/
import Derived.Test.YtggjkhldknppkaaPkD
namespace Go.Proofs.Ytggjkhldknppkaa
open Go.RowKit PakM DigM
set_option maxRecDepth 100000 in
set_option maxHeartbeats 4000000 in
theorem rsummed_own (b : List UInt8) (v : Value) (w : World) (hB : VBytes b v w) (hlen : b.length ≤ 100000) : Calls Try.prog 19 #[v] w (RetP w fun r w' => OwnB w' w.heap.size 5 r (summedP b)) := by
  obtain ⟨i0, hi, hz0, hz1, hz2⟩ := info_parts Dg.Try.infoB
  have hB0 := hB
  obtain ⟨A, c, rfl, hc1, hc2, -⟩ := VBytes.form hB
  unfold maxLen at hc2
  obtain ⟨s0, hs0⟩ : ∃ s, SumM.ofB b = s := ⟨_, rfl⟩
  obtain ⟨sb, hsb0⟩ : ∃ s, SumM.putB s0 = s := ⟨_, rfl⟩
  have hres : summedP b = b ++ sb := by rw [← hsb0, ← hs0]; rfl
  have hsb := ofB_bound b
  have hsl : sb.length = 4 := by rw [← hsb0]; exact SumM.putB_length _
  have hput := fun W => Sm.rput_any s0 (by rw [← hs0]; exact hsb.1) (by rw [← hs0]; exact hsb.2) W
  rw [hsb0] at hput
  have hof := fun v W h => rof1_any b v W h
  rw [hs0] at hof
  rw [hres]
  have Hsl := hide hsl
  clear hres hsb hs0 hsb0 hB hsl
  go_enter Try.func19, Try.ntmps19
  go_wp2_with (at_builtin; refine wpList_append_bytes rfl _ _ 23 rfl w.heap.size 5 i0 (.int .u8 0) Try.underlying23 hi hz0 hz1 hz2 rfl _ _ [] b rfl (OwnB.made w w.heap.size 5 (Nat.le_refl _)) rfl (VP.st _ _ _ _ hB0 (ext_alloc _ _)) (by simp; omega) (ext_alloc _ _).size ?_; intro v3 w3 hown3 hgrow3 hat3)
  rw [List.nil_append] at hown3
  have hE3 : Ext w w3 := below_ng (Ext.rf w) hgrow3 (fun k hk => by cases hk; exact Nat.le_refl _)
  have hB3 := VP.st _ _ _ _ hB0 hE3
  have hge := OwnB.ge hown3
  obtain ⟨Au, cu, rfl⟩ := OwnB.form hown3
  have hof := hof _ _ (parts_new hB3 23)
  have HO := hide hown3
  clear hown3 hgrow3 hat3 hB3 hB0
  go_wp2_with fail
  refine hof.mono ?_
  rintro e w7 ⟨u, rfl, hE7, rfl⟩
  clear hof
  go_wp2_with fail
  refine (hput _).mono ?_
  rintro e w8 ⟨s, rfl, hE8, hs⟩
  have hX8 : Ext w3 w8 := (ext_alloc _ _).tr (hE7.tr hE8)
  have hO8 := OwnB.st HO.out hX8
  have hE8' := hE3.tr hX8
  obtain ⟨As, cs, rfl, -⟩ := VBytes.form hs
  clear hE7 hE8 hX8 HO
  go_wp2_with (at_builtin; refine wpList_append_bytes rfl _ _ 23 rfl w.heap.size 5 i0 (.int .u8 0) Try.underlying23 hi hz0 hz1 hz2 rfl _ _ b sb rfl hO8 rfl hs (by have := Hsl.out; omega) hE8'.size ?_; intro v9 w9 hown9 hgrow9 hat9)
  have hE9 : Ext w w9 := hE8'.grown hgrow9 hE8'.size (fun j hj => by have := hge j hj; omega)
  go_ret
  exact RetP.mk hE9 hown9
set_option maxRecDepth 100000 in
set_option maxHeartbeats 4000000 in
theorem rbody_own (fold : Bool) (ws : List (List UInt8)) (v : Value) (w : World) (hP : VParts ws v w) (h0 : ws.length ≤ 10000) (h1 : ws.flatten.length ≤ 30000) : Calls Try.prog 31 #[.bool fold, v] w (RetP w fun r w' => OwnB w' w.heap.size 5 r (bodyP fold ws)) := by
  have hm : ∀ b ∈ ws, b.length ≤ most := fun b hb => by
    obtain ⟨j, hj, rfl⟩ := List.getElem_of_mem hb
    have := flat_at hj
    unfold most; omega
  have hn : ws.length ≤ most := by unfold most; omega
  have hnl := putN_most hn
  obtain ⟨i0, hi, hz0, hz1, hz2⟩ := info_parts Dg.Try.infoB
  have hP0 := hP
  obtain ⟨A, c, rfl, hc1, hc2, hx⟩ := VParts.form hP
  unfold maxLen at hc2
  obtain ⟨fb, hfb⟩ : ∃ fb, flagB fold = fb := ⟨_, rfl⟩
  obtain ⟨ao, hao⟩ : ∃ al, magicB ++ [fb] ++ putN ws.length ++ wordsB ws = al := ⟨_, rfl⟩
  have hres : bodyP fold ws = ao := by rw [← hao, ← hfb]; rfl
  rw [hres]
  have hrp := fun W => Dg.rput_yes ws.length hn W
  have Hao := hide hao
  have Hm := hide hm
  clear hm hao hres
  cases fold
  all_goals
    go_enter Try.func31, Try.ntmps31
    go_upto_region 1 with (fail)
    refine vregion0 2 (by kernel_rfl) ?_
    refine VWalk.litB [84, 83, 76, 49] 23 5 4 _ rfl rfl (by decide) (by decide) rfl Try.underlying23 (by kernel_rfl) (by kernel_rfl) (want_none rfl) ?_
    refine VWalk.markR 23 5 _ rfl Try.underlying23 Try.underlying5 (want_none rfl) (opd_dep 0 11 0 rfl rfl rfl rfl) ?_
    refine ⟨rfl, fun W1 hE1 => ?_⟩
    refine VFin.any fun v1_0 hv1_0 => ?_
    refine VFin.any fun v1_1 hv1_1 => ?_
    refine VFin.nil ?_
    simp only [Act.put, List.setIfInBounds_toArray, List.set_cons_zero, List.set_cons_succ]
    clear hv1_0
    have hP := VP.st _ _ _ _ hP hE1
    have hE := hE1
    have hrow := hv1_1
    obtain ⟨gA, csA, tA, mA, rfl, -⟩ := hv1_1
    clear hP
    go_wp2_with (at_builtin; first | (refine wpList_append_full rfl _ _ 23 rfl 5 i0 (.int .u8 0) Try.underlying23 hi hz0 hz1 hz2 rfl _ _ _ [84, 83, 76, 49] [0] rfl (VP.st _ _ _ _ hrow (ext_alloc _ _)) rfl (one_byte _ _ (by decide) _ _) (by simp) (by simp) ?_; intro v3 w3 hown hgrow) | (refine wpList_append_full rfl _ _ 23 rfl 5 i0 (.int .u8 0) Try.underlying23 hi hz0 hz1 hz2 rfl _ _ _ [84, 83, 76, 49] [1] rfl (VP.st _ _ _ _ hrow (ext_alloc _ _)) rfl (one_byte _ _ (by decide) _ _) (by simp) (by simp) ?_; intro v3 w3 hown hgrow))
    have hE3 : Ext w w3 := below_ng hE hgrow (fun k hk => by cases hk)
    have hown : OwnB w3 w.heap.size 5 v3 (magicB ++ [fb]) := by
      rw [← hfb]
      exact OwnB.low hown (Nat.le_trans hE.size (by simp))
    have hal : (magicB ++ [fb]).length = 5 := rfl
    have Hal := hide hal
    have HO := hide hown
    have hge3 := OwnB.ge hown
    clear hfb hrow hgrow hE hal hown
    go_wp2_with fail
    refine (hrp _).mono ?_
    rintro e w4 ⟨u, rfl, hE4, hu⟩
    obtain ⟨x, y, rfl, hxb, rfl⟩ := VTup.inv2 hu
    obtain ⟨Ax, cx, rfl, -⟩ := VBytes.form hxb
    have hO4 := OwnB.st HO.out hE4
    have hE4' := hE3.tr hE4
    clear hu hrp hE3 hE4 HO
    go_wp2_with (at_builtin; refine wpList_append_bytes rfl _ _ 23 rfl w.heap.size 5 i0 (.int .u8 0) Try.underlying23 hi hz0 hz1 hz2 rfl _ _ (magicB ++ [fb]) (putN ws.length) rfl hO4 rfl hxb (by rw [Hal.out]; omega) hE4'.size ?_; intro v5 w5 hown hgrow hat)
    have hE5 : Ext w w5 := hE4'.grown hgrow hE4'.size (fun j hj => by have := hge3 j hj; omega)
    have HO : Hid (OwnB w5 w.heap.size 5 v5 (magicB ++ [fb] ++ putN ws.length ++ wordsB (ws.take 0))) := by
      rw [List.take_zero]
      show OwnB w5 w.heap.size 5 v5 (magicB ++ [fb] ++ putN ws.length ++ [])
      rw [List.append_nil]
      exact hown
    have HE := hide hE5
    clear hown hgrow hE5 hE4' hge3 hat hO4 hxb
    go_wp2
    go_loopw [5, 8] (fun u i wr => ∃ k : Nat, k ≤ ws.length ∧ i = .int .i64 (k : Int) ∧ Hid (OwnB wr w.heap.size 5 u (magicB ++ [fb] ++ putN ws.length ++ wordsB (ws.take k))) ∧ Hid (Below w.heap.size w wr)) (fun _ i _ => ws.length - (intOf i).toNat)
    case atStart => exact ⟨0, by omega, rfl, HO, HE⟩
    case round =>
      clear HO HE
      obtain ⟨k, hk, rfl, HO, HE⟩ := hrel
      have hEr : Ext w wr := HE.out
      by_cases hlt : k < ws.length
      · obtain ⟨b, off, rfl, hb9, hcell⟩ := hx (by omega)
        obtain ⟨z, hz1', hz2'⟩ := hcell k hlt
        have hz3 := (hEr.cell (p := ⟨b, off + k, none⟩) hb9).trans hz1'
        obtain ⟨A9, c9, rfl, -⟩ := VBytes.form hz2'
        have hwl := flat_at hlt
        have hlen := words_len_take ws h0 h1 Hm.out k
        have Hsn := hide (wordsB_snoc ws k hlt)
        have hal : (magicB ++ [fb] ++ putN ws.length ++ wordsB (ws.take k)).length ≤ 80010 := by
          simp only [List.length_append, List.length_singleton]
          rw [show magicB.length = 4 from rfl]
          omega
        have hkm := Hm.out _ (List.getElem_mem hlt)
        have hpn := putN_most hkm
        have hge := OwnB.ge HO.out
        have hO := HO.out
        obtain ⟨al, hal2⟩ : ∃ al, magicB ++ [fb] ++ putN ws.length ++ wordsB (ws.take k) = al := ⟨_, rfl⟩
        have Hal2 := hide hal2
        rw [hal2] at hO hal
        have hrp := fun W => Dg.rput_yes ws[k].length hkm W
        have HO := hide hO
        clear hcell hz1' hO hal2 HE hx
        go_wp2_with fail
        refine (hrp _).mono ?_
        rintro e w6 ⟨u, rfl, hE6, hu⟩
        obtain ⟨x, y, rfl, hxb, rfl⟩ := VTup.inv2 hu
        obtain ⟨Ax, cx, rfl, -⟩ := VBytes.form hxb
        have hO6 := OwnB.st HO.out hE6
        have hE6' := hEr.tr hE6
        clear hu hrp hE6 HO
        go_upto_region 12 with (at_builtin; refine wpList_append_bytes rfl _ _ 23 rfl w.heap.size 5 i0 (.int .u8 0) Try.underlying23 hi hz0 hz1 hz2 rfl _ _ al (putN ws[k].length) rfl hO6 rfl hxb (by omega) hE6'.size ?_; intro v7 w7 hown7 hgrow7 hat7)
        have hE7 : Ext w w7 := hE6'.grown hgrow7 hE6'.size (fun j hj => by have := hge j hj; omega)
        have hw7 := VP.st _ _ _ _ hz2' hE7
        have hz7 := (hE7.cell (p := ⟨b, off + k, none⟩) hb9).trans (show w.cell? ⟨b, off + k, none⟩ = _ from (hEr.cell (p := ⟨b, off + k, none⟩) hb9).symm.trans hz3)
        have hge7 := OwnB.ge hown7
        clear hgrow7 hat7 hO6 hxb hz3
        go_wp2_with (at_builtin; refine wpList_append_bytes rfl _ _ 23 rfl w.heap.size 5 i0 (.int .u8 0) Try.underlying23 hi hz0 hz1 hz2 rfl _ _ (al ++ putN ws[k].length) ws[k] rfl hown7 rfl hw7 (by rw [List.length_append]; omega) hE7.size ?_; intro v8 w8 hown8 hgrow8 hat8)
        have hE8 : Ext w w8 := hE7.grown hgrow8 hE7.size (fun j hj => by have := hge7 j hj; omega)
        have HO8 : Hid (OwnB w8 w.heap.size 5 v8 (magicB ++ [fb] ++ putN ws.length ++ wordsB (ws.take (k + 1)))) := by
          show OwnB w8 w.heap.size 5 v8 (magicB ++ [fb] ++ putN ws.length ++ wordsB (ws.take (k + 1)))
          rw [Hsn.out, ← List.append_assoc, ← List.append_assoc, Hal2.out]
          exact hown8
        have HE8 := hide hE8
        clear hown8 hgrow8 hat8 hE8 hE7 hw7 hown7 hz7
        go_wp2
        exact ⟨⟨k + 1, by omega, by go_num, HO8, HE8⟩, by simp [intOf]; omega⟩
      · obtain rfl : k = ws.length := by omega
        have hO := HO.out
        rw [List.take_length, Hao.out] at hO
        clear HO hx
        go_wp2
        go_ret
        exact RetP.mk HE.out hO
set_option maxRecDepth 100000 in
theorem rpput_own (fold : Bool) (ws : List (List UInt8)) (v : Value) (w : World) (hP : VParts ws v w) (h0 : ws.length ≤ 10000) (h1 : ws.flatten.length ≤ 30000) : Calls Try.prog 16 #[.bool fold, v] w (RetP w fun r w' => OwnB w' w.heap.size 5 r (putP fold ws)) := by
  have hm : ∀ b ∈ ws, b.length ≤ most := fun b hb => by
    obtain ⟨j, hj, rfl⟩ := List.getElem_of_mem hb
    have := flat_at hj
    unfold most; omega
  have hnl := putN_most (show ws.length ≤ most by unfold most; omega)
  have hbl : (bodyP fold ws).length ≤ 100000 := by
    have hlen := words_len_take ws h0 h1 hm ws.length
    rw [List.take_length] at hlen
    unfold bodyP
    simp only [List.length_append, List.length_singleton]
    rw [show magicB.length = 4 from rfl]
    omega
  have hbody := rbody_own fold ws v w hP h0 h1
  have hsum := fun v W hv => rsummed_own (bodyP fold ws) v W hv hbl
  have hres : summedP (bodyP fold ws) = putP fold ws := rfl
  rw [hres] at hsum
  obtain ⟨A, c, rfl, -⟩ := VParts.form hP
  clear hres hP
  go_enter Try.func16, Try.ntmps16
  go_wp2_with fail
  refine hbody.mono ?_
  rintro e w1 ⟨u, rfl, hE1, hO⟩
  have hsum := hsum _ _ (OwnB.bytes hO)
  clear hbody hO
  go_wp2_with fail
  refine hsum.mono ?_
  rintro e w2 ⟨u2, rfl, hE2, hO2⟩
  clear hsum
  go_wp2
  go_ret
  exact RetP.mk (hE1.tr hE2) (OwnB.low hO2 hE1.size)
end Go.Proofs.Ytggjkhldknppkaa
