/- Put, Size; and the document's own Put, Puts, Size, Ints. -/
import Derived.Test.YtggjkhldknppkaaKDC
namespace Go.Proofs.Ytggjkhldknppkaa.Dg
open Go.RowKit DigM

theorem puts_one (n : Int) : puts [n] = if mayB n then (putN n.toNat, 0) else ([], 2) := by
  unfold puts
  simp [putsF]
theorem ints_one (n : Int) (t : TypeId) (w : World) : VInts [n] (.slice (some ⟨w.heap.size, 0, none⟩) 1 1) (w.alloc (.cells #[.int .i64 n] t)) :=
  ⟨_, 1, rfl, Nat.le_refl _, by decide, fun _ => ⟨_, 0, rfl, by simp, fun j F hj => by
    cases j with
    | zero => cases hj; exact ⟨_, (Box.new w t #[.int .i64 n]).at_ 0 rfl, rfl⟩
    | succ j => simp at hj⟩⟩
set_option maxRecDepth 100000 in
theorem put_any (n : Int) (w : World) : Calls Try.prog 44 #[.int .i64 n] w (Ret w (VTup [VBytes (puts [n]).1, VEq (.int .i64 (puts [n]).2)])) := by
  go_enter Try.func44, Try.ntmps44
  go_wp2_with fail
  refine (puts_any [n] _ _ (ints_one n _ w) (by simp)).mono ?_
  rintro e w2 ⟨u, rfl, hE2, hu⟩
  obtain ⟨a, b, rfl, h1, h2⟩ := VTup.inv2 hu
  go_wp2
  go_ret2
  exact tup_two ((ext_alloc _ _).tr hE2) h1 h2

/-- How many bytes: the sum. -/
theorem putsF_sum (ns : List Int) (k : Nat) (h : k < ns.length) : (putsF (ns.take (k + 1))).length = (putsF (ns.take k)).length + (putN ns[k].toNat).length := by
  rw [putsF_take ns k h, List.length_append]
set_option maxRecDepth 100000 in
set_option maxHeartbeats 1000000 in
theorem dsize_any (ns : List Int) (v : Value) (w : World) (hN : VInts ns v w) (hlen : ns.length ≤ 100000) : Calls Try.prog 32 #[v] w (Ret w (VEq (.int .i64 ((puts ns).1.length : Nat)))) := by
  obtain ⟨A, c, rfl, hc1, hc2, hx⟩ := VInts.form hN
  clear hN
  unfold maxLen at hc2
  go_enter Try.func32, Try.ntmps32
  go_wp2
  go_loopw [3, 8] (fun s i wr => ∃ k t : Nat, k ≤ ns.length ∧ i = .int .i64 k ∧ s = .int .i64 (t : Int) ∧ Hid ((putsF (ns.take k)).length = t) ∧ Hid ((ns.take k).all mayB = true) ∧ Below w.heap.size w wr)
    (fun _ i _ => ns.length - (intOf i).toNat)
  case atStart => exact ⟨0, 0, by omega, rfl, rfl, rfl, rfl, Below.refl _ _⟩
  case round =>
    obtain ⟨k, t, hk, rfl, rfl, Ho, Ha, hE⟩ := hrel
    by_cases hlt : k < ns.length
    · obtain ⟨b, off, rfl, hb, hcell⟩ := hx (by omega)
      have hx3 := (hE.cell (p := ⟨b, off + k, none⟩) hb).trans (hcell k hlt)
      have Hno := hide (@puts_no ns k hlt)
      have Hpt := hide (putsF_sum ns k hlt)
      have Hat := hide (all_take (p := mayB) ns k hlt)
      have hfl := putsF_len _ Ha.out
      rw [List.length_take, Ho.out] at hfl
      clear hcell hx
      generalize ns[k] = x at *
      go_wp2_with fail
      refine (may_any x wr).mono ?_
      rintro e w2 ⟨u, rfl, hE2, rfl⟩
      have hE3 := hE.trans (hE2.mono hE.size)
      cases hq : mayB x
      · have h1 := hide (Hno.out hq)
        clear hq
        go_wp2
        go_ret
        rw [h1.out]
        exact Ret.mk hE3 rfl
      · have hm := mayB_iff.1 hq
        rw [hq, Bool.and_true] at Hat
        clear hq
        obtain ⟨m, rfl⟩ : ∃ m : Nat, x = (m : Int) := ⟨x.toNat, by omega⟩
        rw [Int.toNat_natCast] at Hpt
        have hl5 := putN_most (n := m) (by unfold most; omega)
        go_wp2_with fail
        refine (size_any m (by unfold most; omega) w2).mono ?_
        rintro e w3 ⟨v', rfl, hE4, rfl⟩
        have hE5 := hE3.trans (hE4.mono hE3.size)
        go_wp2
        refine ⟨⟨k + 1, t + (putN m).length, by omega, by go_num, by go_num, ?_, ?_, hE5⟩, by simp [intOf]; omega⟩
        · show _ = _; rw [Hpt.out, Ho.out]
        · show _ = _; rw [Hat.out]; exact Ha.out
    · obtain rfl : k = ns.length := by omega
      have Hp : Hid (puts ns = (putsF ns, 0)) := by
        have := Ha.out
        rw [List.take_length] at this
        show _ = _
        unfold puts; rw [if_pos this]
      go_wp2
      go_ret
      rw [Hp.out]
      have := Ho.out
      rw [List.take_length] at this
      exact Ret.mk hE (congrArg (fun n : Nat => Value.int .i64 (n : Int)) this.symm)

/-- n's bytes behind those that stand there: what is left to do. -/
theorem putN_eat {n : Nat} (h : 128 ≤ n) (pre : List UInt8) : pre ++ putN n = (pre ++ [UInt8.ofNat (128 + n % 128)]) ++ putN (n / 128) := by
  rw [putN_hi h, List.append_assoc]; rfl
set_option maxRecDepth 100000 in
set_option maxHeartbeats 1000000 in
theorem rput_yes (n : Nat) (hn : n ≤ most) (w : World) : Calls Try.prog 45 #[.int .i64 (n : Int)] w (Ret w (VTup [VBytes (putN n), VEq (.int .i64 0)])) := by
  obtain ⟨i0, hi, hz0, hz1, hz2⟩ := info_parts Try.infoB
  have hl5 := putN_most hn
  unfold most at hn
  go_enter Try.func45, Try.ntmps45
  go_wp2
  go_loopw [4, 0] (fun l m wr => ∃ (q : Nat) (pre : List UInt8), m = .int .i64 (q : Int) ∧ q ≤ n ∧ pre.length ≤ 5 ∧ Hid (pre ++ putN q = putN n) ∧ Hid (OwnB wr w.heap.size 5 l pre) ∧ Below w.heap.size w wr)
    (fun _ m _ => (intOf m).toNat)
  case atStart => exact ⟨n, [], rfl, Nat.le_refl _, by simp, rfl, OwnB.nil _ _ _, Below.refl _ _⟩
  case round =>
    obtain ⟨q, pre, rfl, hq, hpl, He, Ho, hE⟩ := hrel
    obtain ⟨A2, c2, hv2⟩ := OwnB.form Ho.out
    subst hv2
    by_cases hlt : 128 ≤ q
    · have Hs := hide (putN_eat hlt pre)
      have hpp := putN_pos (q / 128)
      have hll : pre.length + 1 ≤ 5 := by
        have := congrArg List.length (Hs.out.symm.trans He.out)
        simp only [List.length_append, List.length_singleton] at this
        omega
      have Hbyte : Hid ((128 + (q : Int) % 128) % 256 = ((UInt8.ofNat (128 + q % 128)).toNat : Int)) := by show _ = _; rw [UInt8.toNat_ofNat']; omega
      clear hpp
      go_wp2_with (at_builtin; refine wpList_append_bytes rfl _ _ 23 rfl w.heap.size 5 i0 (.int .u8 0) Try.underlying23 hi hz0 hz1 hz2 rfl _ _ pre [UInt8.ofNat (128 + q % 128)] rfl (OwnB.st Ho.out (ext_alloc _ _)) rfl (one_byte _ _ (by first | exact Hbyte.out | (rw [UInt8.toNat_ofNat']; omega)) _ _) (by simp; omega) (by have := hE.size; simp; omega) ?_; intro v' w' hown hgrow hat)
      refine ⟨⟨q / 128, pre ++ [UInt8.ofNat (128 + q % 128)], by go_num, by omega, by simp; omega, ?_, hide hown, below_ng hE hgrow (fun j hj => OwnB.ge Ho.out j hj)⟩, by simp [intOf]; omega⟩
      show _ = _; rw [← Hs.out]; exact He.out
    · have Hs : Hid (putN n = pre ++ [UInt8.ofNat q]) := by show _ = _; rw [← He.out, putN_lo (by omega)]
      have Hbyte : Hid ((q : Int) % 256 = ((UInt8.ofNat q).toNat : Int)) := by show _ = _; rw [UInt8.toNat_ofNat']; omega
      go_wp2_with (at_builtin; refine wpList_append_bytes rfl _ _ 23 rfl w.heap.size 5 i0 (.int .u8 0) Try.underlying23 hi hz0 hz1 hz2 rfl _ _ pre [UInt8.ofNat q] rfl (OwnB.st Ho.out (ext_alloc _ _)) rfl (one_byte _ _ (by first | exact Hbyte.out | (rw [UInt8.toNat_ofNat']; omega)) _ _) (by simp; omega) (by have := hE.size; simp; omega) ?_; intro v' w' hown hgrow hat)
      go_ret2
      rw [Hs.out]
      exact tup_two (below_ng hE hgrow (fun j hj => OwnB.ge Ho.out j hj)) hown.bytes rfl
theorem rput_any (n : Int) (w : World) : Calls Try.prog 45 #[.int .i64 n] w (Ret w (VTup [VBytes (puts [n]).1, VEq (.int .i64 (puts [n]).2)])) := by
  rw [puts_one]
  by_cases h1 : 0 ≤ n
  · by_cases h2 : n ≤ 2147483647
    · rw [if_pos (mayB_iff.2 ⟨h1, h2⟩)]
      obtain ⟨m, rfl⟩ : ∃ m : Nat, n = (m : Int) := ⟨n.toNat, by omega⟩
      rw [Int.toNat_natCast]
      exact rput_yes m (by unfold most; omega) w
    · rw [if_neg (fun h => h2 (mayB_iff.1 h).2)]
      go_enter Try.func45, Try.ntmps45
      go_wp2
      go_ret2
      exact tup_two (Ext.rf _) (nil_bytes _) rfl
  · rw [if_neg (fun h => h1 (mayB_iff.1 h).1)]
    go_enter Try.func45, Try.ntmps45
    go_wp2
    go_ret2
    exact tup_two (Ext.rf _) (nil_bytes _) rfl
end Go.Proofs.Ytggjkhldknppkaa.Dg
