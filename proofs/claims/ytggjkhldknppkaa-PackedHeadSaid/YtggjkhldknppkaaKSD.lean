/- Take of sums, both; and what is too great to be asked. -/
import Derived.Test.YtggjkhldknppkaaKSC
import Derived.Test.YtggjkhldknppkaaY
namespace Go.Proofs.Ytggjkhldknppkaa.Sm
open Go.RowKit SumM

theorem Try.infoB : (Try.prog.info? 5).map (fun i => (i.zero, i.size, i.bytes)) = some (some (.int .u8 0), 1, 1) := by kernel_rfl

set_option maxHeartbeats 1000000 in
theorem take_short (bs : List UInt8) (v : Value) (w : World) (hP : VBytes bs v w) (h : bs.length < 4) : Calls Try.prog 26 #[v] w (Ret w (VTup [VEq (.int .u32 (takeV bs)), VBytes (bs.drop 4), VEq (.int .i64 (takeE bs))])) := by
  obtain ⟨A, c, rfl, h1, h2, hx⟩ := VBytes.form hP
  unfold maxLen at h2
  clear hx hP
  have H1 : Hid (takeV bs = 0) := by show takeV bs = 0; simp [takeV, h]
  have H2 : Hid (takeE bs = 10) := by show takeE bs = 10; simp [takeE, h]
  have H3 : Hid (bs.drop 4 = []) := by show bs.drop 4 = []; exact List.drop_eq_nil_of_le (by omega)
  go_enter Try.func26, Try.ntmps26
  go_wp2
  go_ret3
  refine Ret.mk (Ext.rf _) (VTup.three (by rw [H1.out]; rfl) ?_ (by rw [H2.out]; rfl))
  rw [H3.out]; exact VBytes.of (bs := []) (Nat.le_refl _) (by decide) (fun h => by simp at h)

theorem ofInt_u32 (a : Nat) (ha : a < 4294967296) : (BitVec.ofInt 32 (a : Int)).toNat = a := by
  rw [BitVec.ofInt_natCast, BitVec.toNat_ofNat]; exact Nat.mod_eq_of_lt (by omega)
theorem u32_or_nat (a b : Nat) (ha : a < 4294967296) (hb : b < 4294967296) : bits .or .u32 (a : Int) (b : Int) = ((a ||| b : Nat) : Int) := by
  have hx : a ||| b < 2 ^ 32 := Nat.or_lt_two_pow (by omega) (by omega)
  show IntKind.u32.wrap ((BitVec.ofInt 32 (a : Int) ||| BitVec.ofInt 32 (b : Int)).toNat : Int) = _
  rw [BitVec.toNat_or, ofInt_u32 a ha, ofInt_u32 b hb, IntKind.wrap_u32]
  omega
theorem or_low (n c : Nat) (hc : c < 256) : n * 256 ||| c = n * 256 + c := by
  have := Nat.shiftLeft_add_eq_or_of_lt (i := 8) (b := c) (by omega) n
  rw [Nat.shiftLeft_eq] at this
  exact this.symm
theorem fold_lt (bs : List UInt8) : ∀ n : Nat, bs.foldl (fun n (c : UInt8) => n * 256 + c.toNat) n < (n + 1) * 256 ^ bs.length := by
  induction bs with
  | nil => intro n; simp
  | cons c bs ih =>
    intro n
    have := ih (n * 256 + c.toNat)
    have hc := UInt8.toNat_lt c
    rw [List.foldl_cons, List.length_cons, Nat.pow_succ]
    refine Nat.lt_of_lt_of_le this ?_
    rw [Nat.mul_comm (256 ^ bs.length) 256, ← Nat.mul_assoc]
    exact Nat.mul_le_mul_right _ (by omega)

set_option maxHeartbeats 1000000 in
set_option maxRecDepth 100000 in
theorem take_long (bs : List UInt8) (v : Value) (w : World) (hP : VBytes bs v w) (h : 4 ≤ bs.length) (hlen : bs.length ≤ 1000000) : Calls Try.prog 26 #[v] w (Ret w (VTup [VEq (.int .u32 (takeV bs)), VBytes (bs.drop 4), VEq (.int .i64 (takeE bs))])) := by
  obtain ⟨A, c, rfl, h1, h2, hx⟩ := VBytes.form hP
  unfold maxLen at h2
  obtain ⟨b, off, rfl, hb, hcell⟩ := hx (by omega)
  go_enter Try.func26, Try.ntmps26
  go_wp2
  go_loopw [2, 13] (fun n i wr => ∃ k : Nat, k ≤ 4 ∧ i = .int .i64 k ∧ n = .int .u32 (((bs.take k).foldl (fun n (c : UInt8) => n * 256 + c.toNat) 0 : Nat) : Int) ∧ wr = w)
    (fun _ i _ => 4 - (intOf i).toNat)
  case atStart => exact ⟨0, by omega, rfl, rfl, rfl⟩
  case round =>
    obtain ⟨k, hk, rfl, rfl, rfl⟩ := hrel
    by_cases hlt : k < 4
    · have hck := hcell k (by omega)
      have hts := take_snoc bs k (by omega)
      have hlt2 := fold_lt (bs.take k) 0
      have h256 : 256 ^ (bs.take k).length ≤ 256 ^ 3 := Nat.pow_le_pow_right (by omega) (by rw [List.length_take]; omega)
      have hby := UInt8.toNat_lt bs[k]
      have Hs : Hid ((bs.take (k + 1)).foldl (fun n (c : UInt8) => n * 256 + c.toNat) 0 = (bs.take k).foldl (fun n (c : UInt8) => n * 256 + c.toNat) 0 * 256 + bs[k].toNat) := by
        show _ = _
        rw [hts, List.foldl_append]; rfl
      clear hts
      generalize hn : (bs.take k).foldl (fun n (c : UInt8) => n * 256 + c.toNat) 0 = n at *
      have hn2 : n < 16777216 := by omega
      clear hn hlt2 h256
      go_wp2
      refine ⟨⟨k + 1, by omega, by go_num, ?_, trivial⟩, by simp [intOf]; omega⟩
      rw [Hs.out]
      refine int_eq ?_
      rw [show ((n : Int) * 256) = ((n * 256 : Nat) : Int) by omega, u32_or_nat _ _ (by omega) (by omega), or_low _ _ (by omega)]
    · obtain rfl : k = 4 := by omega
      have H1 : Hid (takeV bs = (((bs.take 4).foldl (fun n (c : UInt8) => n * 256 + c.toNat) 0 : Nat) : Int)) := by show takeV bs = _; simp [takeV, show ¬ bs.length < 4 by omega]
      have H2 : Hid (takeE bs = 0) := by show takeE bs = 0; simp [takeE, show ¬ bs.length < 4 by omega]
      obtain ⟨A, n, c', e0, e1, e2, e3, hcut⟩ := VBytes.cut hP
      cases e0
      have hd := hcut 4 bs.length (by omega) (by omega)
      rw [List.take_length] at hd
      have Hd := hide hd
      clear hcut hd hP hcell
      obtain ⟨i0, hi, hz0, hz1, hz2⟩ := info_parts Try.infoB
      go_wp2_with (at_builtin; refine wpList_append_bytes rfl _ _ 23 rfl wr.heap.size 5 i0 (.int .u8 0) Try.underlying23 hi hz0 hz1 hz2 rfl (.slice none 0 0) _ [] (bs.drop 4) rfl (OwnB.nil _ _ _) rfl Hd.out (by simp; omega) (Nat.le_refl _) ?_; intro v' w' hown hgrow hat)
      all_goals
        go_ret3
        exact Ret.mk (ext_of_grown hgrow rfl) (VTup.three (by rw [H1.out]; rfl) hown.bytes (by rw [H2.out]; rfl))
theorem take_any (bs : List UInt8) (v : Value) (w : World) (hP : VBytes bs v w) (hlen : bs.length ≤ 1000000) : Calls Try.prog 26 #[v] w (Ret w (VTup [VEq (.int .u32 (takeV bs)), VBytes (bs.drop 4), VEq (.int .i64 (takeE bs))])) := by
  by_cases h : bs.length < 4
  · exact take_short bs v w hP h
  · exact take_long bs v w hP (by omega) hlen

theorem takeV_eq (bs : List UInt8) (h : 4 ≤ bs.length) : takeV bs = ((bs[0].toNat * 16777216 + bs[1].toNat * 65536 + bs[2].toNat * 256 + bs[3].toNat : Nat) : Int) := by
  match bs, h with
  | a :: b :: c :: d :: r, _ =>
    simp only [takeV, List.length_cons, show ¬ (r.length + 1 + 1 + 1 + 1 < 4) by omega, if_false, List.take_succ_cons, List.take_zero, List.foldl_cons, List.foldl_nil, List.getElem_cons_zero, List.getElem_cons_succ]
    omega

set_option maxRecDepth 100000 in
set_option maxHeartbeats 1000000 in
theorem rtake_any (bs : List UInt8) (v : Value) (w : World) (hP : VBytes bs v w) (hlen : bs.length ≤ 1000000) : Calls Try.prog 28 #[v] w (Ret w (VTup [VEq (.int .u32 (takeV bs)), VBytes (bs.drop 4), VEq (.int .i64 (takeE bs))])) := by
  obtain ⟨A, c, rfl, h1, h2, hx⟩ := VBytes.form hP
  unfold maxLen at h2
  by_cases h : bs.length < 4
  · clear hx hP
    have H1 : Hid (takeV bs = 0) := by show takeV bs = 0; simp [takeV, h]
    have H2 : Hid (takeE bs = 10) := by show takeE bs = 10; simp [takeE, h]
    have H3 : Hid (bs.drop 4 = []) := by show bs.drop 4 = []; exact List.drop_eq_nil_of_le (by omega)
    go_enter Try.func28, Try.ntmps28
    go_wp2
    go_ret3
    refine Ret.mk (Ext.rf _) (VTup.three (by rw [H1.out]; rfl) ?_ (by rw [H2.out]; rfl))
    rw [H3.out]; exact VBytes.of (bs := []) (Nat.le_refl _) (by decide) (fun h => by simp at h)
  · obtain ⟨b, off, rfl, hb, hcell⟩ := hx (by omega)
    have h0 := hcell 0 (by omega)
    have c1 := hcell 1 (by omega)
    have c2 := hcell 2 (by omega)
    have c3 := hcell 3 (by omega)
    have H1 := hide (takeV_eq bs (by omega))
    have H2 : Hid (takeE bs = 0) := by show takeE bs = 0; simp [takeE, h]
    have b0 := UInt8.toNat_lt bs[0]
    have b1 := UInt8.toNat_lt bs[1]
    have b2 := UInt8.toNat_lt bs[2]
    have b3 := UInt8.toNat_lt bs[3]
    have l0 : (0 : Int) < (bs.length : Int) := by omega
    have l1 : (1 : Int) < (bs.length : Int) := by omega
    have l2 : (2 : Int) < (bs.length : Int) := by omega
    have l3 : (3 : Int) < (bs.length : Int) := by omega
    rw [Nat.add_zero] at h0
    obtain ⟨A, n, c', e0, e1, e2, e3, hcut⟩ := VBytes.cut hP
    cases e0
    have hd := hcut 4 bs.length (by omega) (by omega)
    rw [List.take_length] at hd
    have Hd := hide hd
    clear hcut hd hP hcell hx
    obtain ⟨i0, hi, hz0, hz1, hz2⟩ := info_parts Try.infoB
    go_enter Try.func28, Try.ntmps28
    go_wp2_with fail
    go_quiet (fail)
    go_wp2_with (at_builtin; refine wpList_append_bytes rfl _ _ 23 rfl w.heap.size 5 i0 (.int .u8 0) Try.underlying23 hi hz0 hz1 hz2 rfl (.slice (some ⟨w.heap.size, 0, none⟩) 0 0) _ [] (bs.drop 4) rfl (OwnB.made (w.drewN nq) _ _ (Nat.le_refl _)) rfl ((VBytes (bs.drop 4)).st _ _ _ Hd.out ((ext_drewN w nq).tr (ext_alloc _ _))) (by simp; omega) (by simp) ?_; intro v' w' hown hgrow hat)
    all_goals
      go_ret3
      refine Ret.mk ?_ (VTup.three (by rw [H1.out]; exact int_eq (by omega)) hown.bytes (by rw [H2.out]; rfl))
      exact ((ext_drewN w nq).tr (ext_alloc _ _)).grown hgrow (by simp) (fun k hk => by cases hk; exact Nat.le_refl _)
end Go.Proofs.Ytggjkhldknppkaa.Sm
