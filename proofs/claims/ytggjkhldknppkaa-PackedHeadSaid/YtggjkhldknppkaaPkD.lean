/- Packed words: how many bytes they have. -/
import Derived.Test.YtggjkhldknppkaaPkC
namespace Go.Proofs.Ytggjkhldknppkaa
open Go.RowKit PakM DigM
theorem sizeW_snoc (ws : List (List UInt8)) (k : Nat) (h : k < ws.length) : sizeW (ws.take (k + 1)) = sizeW (ws.take k) + ((putN ws[k].length).length + ws[k].length) := by
  unfold sizeW
  rw [List.take_succ_eq_append_getElem h, List.map_append, List.sum_append]
  simp
theorem sizeW_le (ws : List (List UInt8)) (h0 : ws.length ≤ 10000) (h1 : ws.flatten.length ≤ 30000) (hm : ∀ w ∈ ws, w.length ≤ most) (k : Nat) : sizeW (ws.take k) ≤ 80000 := by
  rw [← wordsB_len]; exact words_len_take ws h0 h1 hm k
theorem size1 (n : Nat) (h : n ≤ most) : (puts [(n : Int)]).1.length = (putN n).length := by
  rw [Dg.puts_one, if_pos (mayB_iff.2 ⟨by omega, by unfold most at h; omega⟩), Int.toNat_natCast]
set_option maxRecDepth 100000 in
set_option maxHeartbeats 4000000 in
theorem psize_any (ws : List (List UInt8)) (v : Value) (w : World) (hP : VParts ws v w) (h0 : ws.length ≤ 10000) (h1 : ws.flatten.length ≤ 30000) : Calls Try.prog 17 #[v] w (Ret w (VEq (.int .i64 ((9 + (putN ws.length).length + sizeW ws : Nat) : Int)))) := by
  have hm : ∀ b ∈ ws, b.length ≤ most := fun b hb => by
    obtain ⟨j, hj, rfl⟩ := List.getElem_of_mem hb
    have := flat_at hj
    unfold most; omega
  have hn : ws.length ≤ most := by unfold most; omega
  have hnl := putN_most hn
  obtain ⟨A, c, rfl, hc1, hc2, hx⟩ := VParts.form hP
  unfold maxLen at hc2
  have hds := fun W => Dg.dsize_any [(ws.length : Int)] _ _ (Dg.ints_one (ws.length : Int) 3 W) (by simp)
  rw [size1 _ hn] at hds
  obtain ⟨pn, hpn⟩ : ∃ n, (putN ws.length).length = n := ⟨_, rfl⟩
  obtain ⟨r, hr⟩ : ∃ r, 9 + (putN ws.length).length + sizeW ws = r := ⟨_, rfl⟩
  rw [hpn] at hds hr hnl
  rw [hpn, hr]
  have Hr := hide hr
  have Hm := hide hm
  clear hpn hm hr hP
  go_enter Try.func17, Try.ntmps17
  go_wp2_with fail
  refine (hds _).mono ?_
  rintro e w1 ⟨u, rfl, hE1, rfl⟩
  have HE := hide ((ext_alloc _ _).tr hE1)
  clear hds hE1
  go_wp2
  go_loopw [3, 14] (fun s i wr => ∃ k : Nat, k ≤ ws.length ∧ i = .int .i64 (k : Int) ∧ s = .int .i64 ((9 + pn + sizeW (ws.take k) : Nat) : Int) ∧ Hid (Below w.heap.size w wr)) (fun _ i _ => ws.length - (intOf i).toNat)
  case atStart => exact ⟨0, by omega, rfl, by rw [List.take_zero]; show Value.int _ _ = .int .i64 ((9 + pn + 0 : Nat) : Int); rw [show (5 : Int) + (pn : Int) + 4 = ((9 + pn + 0 : Nat) : Int) by omega], HE⟩
  case round =>
    clear HE
    obtain ⟨k, hk, rfl, rfl, HE⟩ := hrel
    have hEr : Ext w wr := HE.out
    have hsz := sizeW_le ws h0 h1 Hm.out k
    by_cases hlt : k < ws.length
    · obtain ⟨b, off, rfl, hb9, hcell⟩ := hx (by omega)
      obtain ⟨z, hz1', hz2'⟩ := hcell k hlt
      have hz3 := (hEr.cell (p := ⟨b, off + k, none⟩) hb9).trans hz1'
      obtain ⟨A9, c9, rfl, -⟩ := VBytes.form hz2'
      have hwl := flat_at hlt
      have Hsn := hide (sizeW_snoc ws k hlt)
      have hkm := Hm.out _ (List.getElem_mem hlt)
      have hpk := putN_most hkm
      have hds := fun W => Dg.dsize_any [(ws[k].length : Int)] _ _ (Dg.ints_one (ws[k].length : Int) 3 W) (by simp)
      rw [size1 _ hkm] at hds
      clear hcell hz1' hz2' hx
      go_wp2_with fail
      refine (hds _).mono ?_
      rintro e w2 ⟨u, rfl, hE2, rfl⟩
      have HE2 := hide (hEr.tr ((ext_alloc _ _).tr hE2))
      clear hds hE2 hz3 HE
      go_wp2
      exact ⟨⟨k + 1, by omega, by go_num, by rw [Hsn.out]; go_num, HE2⟩, by simp [intOf]; omega⟩
    · obtain rfl : k = ws.length := by omega
      have HR : Hid (9 + pn + sizeW (ws.take ws.length) = r) := by rw [List.take_length]; exact Hr
      go_wp2
      go_ret
      exact Ret.mk HE.out (by show Value.int _ _ = _; rw [HR.out])
end Go.Proofs.Ytggjkhldknppkaa
