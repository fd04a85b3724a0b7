/- may, size, write. -/
import Derived.Test.YtggjkhldknppkaaDigMath
import Derived.Test.YtggjkhldknppkaaY
import Derived.Test.YtggjkhldknppkaaB
import Derived.Test.YtggjkhldknppkaaProg
import Derived.WalkSpells
import Derived.WalkLawsBesides
import Derived.Deep.Cut
namespace Go.Proofs.Ytggjkhldknppkaa.Dg
open Go.RowKit DigM
theorem Try.infoB : (Try.prog.info? 5).map (fun i => (i.zero, i.size, i.bytes)) = some (some (.int .u8 0), 1, 1) := by kernel_rfl

theorem Try.infoI : (Try.prog.info? 3).map (fun i => (i.zero, i.size, i.bytes)) = some (some (.int .i64 0), 1, 8) := by kernel_rfl
set_option maxHeartbeats 1000000 in
theorem may_any (n : Int) (w : World) : Calls Try.prog 46 #[.int .i64 n] w (Ret w (VEq (.bool (mayB n)))) := by
  unfold mayB
  by_cases h1 : 0 ≤ n
  · by_cases h2 : n ≤ 2147483647
    · rw [decide_eq_true h1, decide_eq_true h2]
      go_enter Try.func46, Try.ntmps46
      go_wp2
      go_ret
      exact Ret.mk (Ext.rf _) rfl
    · rw [decide_eq_true h1, decide_eq_false h2]
      go_enter Try.func46, Try.ntmps46
      go_wp2
      go_ret
      exact Ret.mk (Ext.rf _) rfl
  · rw [decide_eq_false h1, Bool.false_and]
    go_enter Try.func46, Try.ntmps46
    go_wp2
    go_ret
    exact Ret.mk (Ext.rf _) rfl
set_option maxHeartbeats 1000000 in
theorem size_any (n : Nat) (h : n ≤ most) (w : World) : Calls Try.prog 47 #[.int .i64 (n : Int)] w (Ret w (VEq (.int .i64 ((putN n).length : Nat)))) := by
  have hl := putN_most h
  unfold most at h
  go_enter Try.func47, Try.ntmps47
  go_wp2
  go_loop [0, 3] (fun m k => ∃ j q : Nat, j < (putN n).length ∧ m = .int .i64 (q : Int) ∧ k = .int .i64 ((j : Nat) + 1 : Int) ∧ Hid (n / 128 ^ (j + 1) = q)) (fun m _ => (intOf m).toNat)
  case atStart => exact ⟨0, n / 128, putN_pos n, by go_num, rfl, by show _ = _; rw [Nat.pow_one]⟩
  case round =>
    obtain ⟨j, q, hj, rfl, rfl, Hq⟩ := hrel
    have he := putN_end hj
    rw [Hq.out] at he
    have hs := div_step n (j + 1)
    rw [Hq.out] at hs
    by_cases hz : q = 0
    · subst hz
      have hlen := he.1 rfl
      clear he hs
      go_wp2
      go_ret
      exact Ret.mk (Ext.rf _) (congrArg (Value.int .i64) (by omega))
    · have hlen : j + 1 ≠ (putN n).length := fun e => hz (he.2 e)
      have Hs := hide hs
      clear he hs
      go_wp2
      go_round
      case rel => exact ⟨j + 1, q / 128, by omega, by go_num, by go_num, Hs⟩
      case measure => simp [intOf]; omega

/-- The byte of a number's seven bits, as the walk spells it. -/
theorem lo_byte (n : Nat) (h : n < 128) : (Value.int .u8 (n : Int)) = byteV (UInt8.ofNat n) := by
  unfold byteV; rw [UInt8.toNat_ofNat', Nat.mod_eq_of_lt (by omega)]
/-- Two steps of growth, the second one at the row of the first, or at one that is new. -/
theorem grown_step {w a b : World} {row r2 : Option Nat} (h : w.grownBy a row) (g : a.grownBy b r2) (hr : r2 = row ∨ ∃ k, r2 = some k ∧ w.heap.size ≤ k) : w.grownBy b row :=
  ⟨g.os.trans h.os, g.tape.trans h.tape, g.output.trans h.output, Nat.le_trans h.size g.size, fun k hk hne => (g.block k (Nat.lt_of_lt_of_le hk h.size) (by
    rcases hr with rfl | ⟨j, rfl, hj⟩
    · exact hne
    · intro e; cases e; omega)).trans (h.block k hk hne)⟩
theorem grown_ext {w w' : World} (h : Ext w w') (row : Option Nat) : w.grownBy w' row := ⟨h.os, h.tape, h.output, h.size, fun k hk _ => h.block k hk⟩
set_option maxRecDepth 100000 in
set_option maxHeartbeats 1000000 in
theorem write_any (base : Nat) (al : List UInt8) (n : Nat) (h : n ≤ most) (v : Value) (w : World) (hO : OwnB w base 5 v al) (hbase : base ≤ w.heap.size) (hlen : al.length ≤ 900000) :
    Calls Try.prog 57 #[v, .int .i64 (n : Int)] w (fun e w' => ∃ v', e = .returned v' ∧ OwnB w' base 5 v' (al ++ putN n) ∧ w.grownBy w' v.ownBlock) := by
  have hl := putN_most h
  have hp := putN_pos n
  obtain ⟨i0, hi, hz0, hz1, hz2⟩ := info_parts Try.infoB
  unfold most at h
  obtain ⟨A, c, hv⟩ := OwnB.form hO
  obtain ⟨row, hrow⟩ : ∃ r, r = v.ownBlock := ⟨_, rfl⟩
  rw [← hrow]
  subst hv
  have HO := hide hO
  have Hrow := hide hrow
  clear hO hrow
  go_enter Try.func57, Try.ntmps57
  go_wp2_with fail
  refine (size_any n (by unfold most; omega) _).mono ?_
  rintro e w1 ⟨u, rfl, hE1, rfl⟩
  go_wp2
  go_loopw [0, 1, 8] (fun v m i wr => ∃ j q : Nat, j < (putN n).length ∧ i = .int .i64 (j : Int) ∧ m = .int .i64 (q : Int) ∧ Hid (n / 128 ^ j = q) ∧ Hid (OwnB wr base 5 v (al ++ (putN n).take j)) ∧ Hid (w.grownBy wr row) ∧ Hid (v.ownBlock = row ∨ ∃ k, v.ownBlock = some k ∧ w.heap.size ≤ k))
    (fun _ _ i _ => 5 - (intOf i).toNat)
  case atStart => exact ⟨0, n, hp, rfl, rfl, by show _ = _; simp, hide (by rw [List.take_zero, List.append_nil]; exact OwnB.st HO.out hE1), hide (grown_ext hE1 _), .inl Hrow.out.symm⟩
  case round =>
    obtain ⟨j, q, hj, rfl, rfl, Hq, HOj, Hg, Hb⟩ := hrel
    have hjl : al.length + ((putN n).take j).length ≤ 900005 := by rw [List.length_take]; omega
    have hqn : q ≤ n := by rw [← Hq.out]; exact Nat.div_le_self _ _
    have hga : w.heap.size ≤ wr.heap.size := Hg.out.size
    obtain ⟨A2, c2, hv2⟩ := OwnB.form HOj.out
    by_cases hlt : j + 1 < (putN n).length
    · have hlt2 : (j : Int) < ((putN n).length : Int) - 1 := by omega
      have Hbyte := hide (hi_byte q (by omega))
      have Hs := hide (div_step n j)
      have Ht := hide (putN_take_succ hlt)
      subst hv2
      go_wp2_with (at_builtin; refine wpList_append_bytes rfl _ _ 23 rfl base 5 i0 (.int .u8 0) Try.underlying23 hi hz0 hz1 hz2 rfl _ _ (al ++ (putN n).take j) [UInt8.ofNat (128 + q % 128)] rfl (OwnB.st HOj.out (ext_alloc _ _)) rfl (one_byte _ _ Hbyte.out _ _) (by simp; omega) (by simp; omega) ?_; intro v' w' hown hgrow hat)
      rw [List.append_assoc] at hown
      refine ⟨⟨j + 1, q / 128, hlt, by go_num, by go_num, ?_, ?_, ?_, ?_⟩, by simp [intOf]; omega⟩
      · show _ = _; rw [Hs.out, Hq.out]
      · show OwnB _ _ _ _ _; rw [Ht.out, Hq.out]; exact hown
      · exact grown_step (grown_step Hg.out (grown_ext (ext_alloc _ _) row) (.inl rfl)) hgrow Hb.out
      · show _ ∨ _
        rcases hat with h | h
        · rw [h]; exact Hb.out
        · exact .inr ⟨_, h, by simp; omega⟩
    · have he : j + 1 = (putN n).length := by omega
      have hlt2 : ¬ (j : Int) < ((putN n).length : Int) - 1 := by omega
      have hq := putN_lo_of he
      rw [Hq.out] at hq
      have Hbyte : Hid ((q : Int) % 256 = ((UInt8.ofNat q).toNat : Int)) := by show _ = _; rw [UInt8.toNat_ofNat']; omega
      have Ht := hide (putN_take_all he)
      clear he
      subst hv2
      go_wp2_with (at_builtin; refine wpList_append_bytes rfl _ _ 23 rfl base 5 i0 (.int .u8 0) Try.underlying23 hi hz0 hz1 hz2 rfl _ _ (al ++ (putN n).take j) [UInt8.ofNat q] rfl (OwnB.st HOj.out (ext_alloc _ _)) rfl (one_byte _ _ (by first | exact Hbyte.out | (rw [UInt8.toNat_ofNat']; omega)) _ _) (by simp; omega) (by simp; omega) ?_; intro v' w' hown hgrow hat)
      rw [List.append_assoc] at hown
      go_ret
      refine ⟨_, rfl, ?_, grown_step (grown_step Hg.out (grown_ext (ext_alloc _ _) row) (.inl rfl)) hgrow Hb.out⟩
      rw [Ht.out, Hq.out]; exact hown
end Go.Proofs.Ytggjkhldknppkaa.Dg
