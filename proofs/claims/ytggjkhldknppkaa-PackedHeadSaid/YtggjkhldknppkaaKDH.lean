/- The document's own Take and Takes. -/
import Derived.Test.YtggjkhldknppkaaKDG
namespace Go.Proofs.Ytggjkhldknppkaa.Dg
open Go.RowKit DigM

theorem takeF_step (k nn : Nat) (c : UInt8) (cs : List UInt8) : takeF k nn (c :: cs) = if 5 ≤ k ∨ most < nn + c.toNat % 128 * 128 ^ k then (0, [], 11) else if 128 ≤ c.toNat then takeF (k + 1) (nn + c.toNat % 128 * 128 ^ k) cs else if c.toNat = 0 ∧ 0 < k then (0, [], 12) else (nn + c.toNat % 128 * 128 ^ k, cs, 0) := by
  conv => lhs; unfold takeF
theorem seven_lt5 (q i : Nat) (hq : q < 128) (h : i ≤ 5) : q * 128 ^ i < 4398046511104 := by
  have h1 : q ≤ 127 := by omega
  have h2 : 128 ^ i ≤ 128 ^ 5 := Nat.pow_le_pow_right (by omega) h
  have := Nat.mul_le_mul h1 h2
  omega
set_option maxRecDepth 100000 in
set_option maxHeartbeats 2000000 in
theorem rtake_own (bs : List UInt8) (v : Value) (w : World) (hB : VBytes bs v w) (hlen : bs.length ≤ 1000000) : Calls Try.prog 25 #[v] w (RetP w (fun r w' => ∃ u, r = .tuple #[.int .i64 ((takeN bs).1 : Int), u, .int .i64 (takeN bs).2.2] ∧ OwnB w' w.heap.size 5 u (takeN bs).2.1)) := by
  obtain ⟨i0, hi, hz0, hz1, hz2⟩ := info_parts Try.infoB
  have hB0 := hide hB
  obtain ⟨A, c, rfl, hc1, hc2, hx⟩ := VBytes.form hB
  clear hB
  unfold maxLen at hc2
  go_enter Try.func25, Try.ntmps25
  go_wp2
  go_loopw [5, 6, 7] (fun n wt i wr => ∃ k nn W : Nat, k ≤ bs.length ∧ i = .int .i64 (k : Int) ∧ n = .int .i64 (nn : Int) ∧ wt = .int .i64 (W : Int) ∧ W ≤ 34359738368 ∧ Hid (W = 128 ^ k) ∧ k ≤ 5 ∧ nn ≤ 34359738368 ∧ Hid (nn < 128 ^ k) ∧ Hid (takeF k nn (bs.drop k) = takeN bs) ∧ Below w.heap.size w wr)
    (fun _ _ i _ => bs.length - (intOf i).toNat)
  case atStart => exact ⟨0, 0, 1, by omega, rfl, rfl, rfl, by omega, rfl, by omega, by omega, by show 0 < 1; omega, rfl, Below.refl _ _⟩
  case round =>
    obtain ⟨k, nn, W, hk, rfl, rfl, rfl, hW, HW, hk5, hnn, Hnn, Ht, hE⟩ := hrel
    by_cases hlt : k < bs.length
    · obtain ⟨b, off, rfl, hb, hcell⟩ := hx (by omega)
      have hx3 := (hE.cell (p := ⟨b, off + k, none⟩) hb).trans (hcell k hlt)
      have hBe := hide (VP.st _ _ _ _ hB0.out hE)
      have htk := Ht.out
      rw [List.drop_eq_getElem_cons hlt, takeF_step] at htk
      have hq := UInt8.toNat_lt bs[k]
      obtain ⟨z, hz⟩ : ∃ z, z = bs[k].toNat % 128 * 128 ^ k := ⟨_, rfl⟩
      have hz5 := seven_lt5 (bs[k].toNat % 128) k (by omega) hk5
      have Hnx := hide (seven_next Hnn.out (show bs[k].toNat % 128 < 128 by omega))
      rw [← hz] at htk hz5 Hnx
      have hzz : ((bs[k].toNat : Int) % 128) * (W : Int) = (z : Int) := by rw [hz, HW.out]; push_cast; rfl
      have HWn : Hid (W * 128 = 128 ^ (k + 1)) := by show _ = _; rw [HW.out, Nat.pow_succ]
      have Htk := hide htk
      clear hcell hx htk hz Ht
      generalize bs[k].toNat = q at *
      have htk := Htk.out
      clear Htk
      by_cases h5 : 5 ≤ k
      · obtain rfl : k = 5 := by omega
        rw [if_pos (.inl h5)] at htk
        have H := hide htk
        clear htk
        go_wp2
        rw [← H.out]
        exact bodyPost_ret (v := .tuple #[.int .i64 0, .slice none 0 0, .int .i64 11]) (by simp [results, Try.results25, go_sem]) rfl (RetP.mk hE ⟨_, rfl, OwnB.nil _ _ _⟩)
      have h5b : ((k : Int) == 5) = false := by rw [beq_eq_false_iff_ne]; omega
      have hWb : W * 128 ≤ 34359738368 := by
        rw [HWn.out]
        exact Nat.le_trans (Nat.pow_le_pow_right (by omega) (show k + 1 ≤ 5 by omega)) (by decide)
      by_cases hm : most < nn + z
      · rw [if_pos (.inr hm)] at htk
        have H := hide htk
        clear htk
        have hm2 : (2147483647 : Int) < (nn : Int) + (z : Int) := by unfold most at hm; omega
        clear hm
        go_wp2
        rw [← H.out]
        exact bodyPost_ret (v := .tuple #[.int .i64 0, .slice none 0 0, .int .i64 11]) (by simp [results, Try.results25, go_sem]) rfl (RetP.mk hE ⟨_, rfl, OwnB.nil _ _ _⟩)
      rw [if_neg (by omega)] at htk
      have hm2 : ¬ (2147483647 : Int) < (nn : Int) + (z : Int) := by unfold most at hm; omega
      clear hm
      by_cases hh : 128 ≤ q
      · rw [if_pos hh] at htk
        have H := hide htk
        have hq0 : ((q : Int) == 0) = false := by rw [beq_eq_false_iff_ne]; omega
        clear htk
        by_cases hk0 : 0 < k
        all_goals
          go_wp2
          refine ⟨⟨k + 1, nn + z, W * 128, by omega, by go_num, by go_num, by go_num, hWb, HWn, by omega, by omega, Hnx, H, hE⟩, by simp [intOf]; omega⟩
      rw [if_neg hh] at htk
      by_cases h0 : q = 0
      · subst h0
        by_cases hk0 : 0 < k
        · rw [if_pos ⟨rfl, hk0⟩] at htk
          have H := hide htk
          clear htk
          go_wp2
          rw [← H.out]
          exact bodyPost_ret (v := .tuple #[.int .i64 0, .slice none 0 0, .int .i64 12]) (by simp [results, Try.results25, go_sem]) rfl (RetP.mk hE ⟨_, rfl, OwnB.nil _ _ _⟩)
        · rw [if_neg (fun h => hk0 h.2)] at htk
          obtain rfl : z = 0 := by have := hzz; simp at this; omega
          have H := hide htk
          clear hzz
          clear htk
          obtain ⟨A5, n5, c5, e5, -, -, -, hcut⟩ := VBytes.cut hBe.out
          cases e5
          have Hsrc := hide (hcut (k + 1) bs.length (by omega) (Nat.le_refl _))
          rw [List.take_length] at Hsrc
          clear hcut
          have hX0 : Ext wr (wr.alloc (.cells #[] 5)) := ext_alloc _ _
          have hX1 := hE.trans (hX0.mono hE.size)
          by_cases hck : c = k + 1
          all_goals
            first | (have Hs2 := Hsrc.out; rw [if_pos hck] at Hs2; subst hck; simp only [Nat.sub_self] at Hs2; rw [show bs.length - (k + 1) = 0 by omega] at Hs2) | (have Hs2 := Hsrc.out; rw [if_neg hck, Option.map_some, addr_add] at Hs2)
            have Hs3 := hide Hs2
            clear Hs2 Hsrc
            go_wp2_with (at_builtin; refine wpList_append_bytes rfl _ _ 23 rfl wr.heap.size 5 i0 (.int .u8 0) Try.underlying23 hi hz0 hz1 hz2 rfl (.slice (some ⟨wr.heap.size, 0, none⟩) 0 0) _ [] (bs.drop (k + 1)) rfl (OwnB.made wr _ _ (Nat.le_refl _)) rfl (VP.st _ _ _ _ Hs3.out (ext_alloc _ _)) (by simp; omega) (by simp) ?_; intro v' w' hown hgrow hat)
            rw [List.nil_append] at hown
            rw [← H.out]
            exact bodyPost_ret (v := .tuple #[.int .i64 (nn : Int), v', .int .i64 0]) (by simp [results, Try.results25, go_sem]) rfl (RetP.mk (hX1.grown hgrow hX1.size (fun k hk => by cases hk; exact hE.size)) ⟨v', rfl, hown.low hE.size⟩)
      · rw [if_neg (fun h => h0 h.1)] at htk
        have H := hide htk
        have hq0 : ((q : Int) == 0) = false := by rw [beq_eq_false_iff_ne]; omega
        have hq128 : (q : Int) < 128 := by omega
        clear htk
        by_cases hk0 : 0 < k
        all_goals
          obtain ⟨A5, n5, c5, e5, -, -, -, hcut⟩ := VBytes.cut hBe.out
          cases e5
          have Hsrc := hide (hcut (k + 1) bs.length (by omega) (Nat.le_refl _))
          rw [List.take_length] at Hsrc
          clear hcut
          have hX0 : Ext wr (wr.alloc (.cells #[] 5)) := ext_alloc _ _
          have hX1 := hE.trans (hX0.mono hE.size)
          by_cases hck : c = k + 1
          all_goals
            first | (have Hs2 := Hsrc.out; rw [if_pos hck] at Hs2; subst hck; simp only [Nat.sub_self] at Hs2; rw [show bs.length - (k + 1) = 0 by omega] at Hs2) | (have Hs2 := Hsrc.out; rw [if_neg hck, Option.map_some, addr_add] at Hs2)
            have Hs3 := hide Hs2
            clear Hs2 Hsrc
            go_wp2_with (at_builtin; refine wpList_append_bytes rfl _ _ 23 rfl wr.heap.size 5 i0 (.int .u8 0) Try.underlying23 hi hz0 hz1 hz2 rfl (.slice (some ⟨wr.heap.size, 0, none⟩) 0 0) _ [] (bs.drop (k + 1)) rfl (OwnB.made wr _ _ (Nat.le_refl _)) rfl (VP.st _ _ _ _ Hs3.out (ext_alloc _ _)) (by simp; omega) (by simp) ?_; intro v' w' hown hgrow hat)
            rw [List.nil_append] at hown
            rw [← H.out]
            exact bodyPost_ret (v := .tuple #[.int .i64 ((nn : Int) + (z : Int)), v', .int .i64 0]) (by simp [results, Try.results25, go_sem]) rfl (RetP.mk (hX1.grown hgrow hX1.size (fun k hk => by cases hk; exact hE.size)) ⟨v', by rw [show (((nn + z, bs.drop (k + 1), 0) : Nat × List UInt8 × Int).1 : Int) = (nn : Int) + (z : Int) from Int.natCast_add nn z], hown.low hE.size⟩)
    · obtain rfl : k = bs.length := by omega
      have h1 := Ht.out
      rw [List.drop_length] at h1
      have H : Hid (((0, [], 10) : Nat × List UInt8 × Int) = takeN bs) := h1
      clear h1
      go_wp2
      rw [← H.out]
      exact bodyPost_ret (v := .tuple #[.int .i64 0, .slice none 0 0, .int .i64 10]) (by simp [results, Try.results25, go_sem]) rfl (RetP.mk hE ⟨_, rfl, OwnB.nil _ _ _⟩)
theorem rtake_any (bs : List UInt8) (v : Value) (w : World) (hB : VBytes bs v w) (hlen : bs.length ≤ 1000000) : Calls Try.prog 25 #[v] w (Ret w (VTup [VEq (.int .i64 ((takeN bs).1 : Int)), VBytes (takeN bs).2.1, VEq (.int .i64 (takeN bs).2.2)])) :=
  (rtake_own bs v w hB hlen).mono fun _ _ ⟨r, h1, h2, u, h3, h4⟩ => ⟨r, h1, h2, by rw [h3]; exact VTup.three rfl h4.bytes rfl⟩
end Go.Proofs.Ytggjkhldknppkaa.Dg
