/- What is too great to be asked: more than 80 parts, or more than 3000 bytes. -/
import Derived.Test.YtfbamdkalamliaaX
import Derived.Test.YtfbamdkalamliaaProg
import Derived.WalkSpells
import Derived.WalkLawsBesides
namespace Go.Proofs.Ytfbamdkalamliaa
open Go.RowKit

def msum (l : List (List UInt8)) : Nat := (l.map fun b => min b.length 4000).sum
theorem msum_snoc (l : List (List UInt8)) (k : Nat) (h : k < l.length) : msum (l.take (k + 1)) = msum (l.take k) + min l[k].length 4000 := by
  unfold msum; rw [List.take_succ_eq_append_getElem h, List.map_append, List.sum_append]; simp
theorem msum_flat : ∀ l : List (List UInt8), msum l ≤ 3000 → l.flatten.length ≤ 3000
  | [], _ => by simp
  | b :: l, h => by
    have h1 : msum (b :: l) = min b.length 4000 + msum l := by simp [msum]
    have h2 := msum_flat l (by omega)
    have h3 : msum l = l.flatten.length := msum_exact l (by omega)
    rw [List.flatten_cons, List.length_append]; omega
where
  msum_exact : ∀ l : List (List UInt8), msum l ≤ 3000 → msum l = l.flatten.length
  | [], _ => by simp [msum]
  | b :: l, h => by
    have h1 : msum (b :: l) = min b.length 4000 + msum l := by simp [msum]
    have h2 := msum_exact l (by omega)
    rw [List.flatten_cons, List.length_append]; omega
/-- Too many parts, or too many bytes? -/
def greatB (ps : List (List UInt8)) : Bool := decide (80 < ps.length) || decide (3000 < msum ps)
theorem greatB_false {ps : List (List UInt8)} (h : greatB ps = false) : ps.length ≤ 80 ∧ ps.flatten.length ≤ 3000 := by
  unfold greatB at h
  simp only [Bool.or_eq_false_iff, decide_eq_false_iff_not, Nat.not_lt] at h
  exact ⟨h.1, msum_flat ps h.2⟩
def VGreat (ps : List (List UInt8)) : VP := VEq (.bool (greatB ps))
theorem msum_take (l : List (List UInt8)) (k : Nat) : msum (l.take k) ≤ msum l := by
  have h1 : msum l = msum (l.take k ++ l.drop k) := by rw [List.take_append_drop]
  have h2 : msum (l.take k ++ l.drop k) = msum (l.take k) + msum (l.drop k) := by unfold msum; rw [List.map_append, List.sum_append]
  omega
theorem greatB_of (ps : List (List UInt8)) (k n : Nat) (hk : k ≤ ps.length) (hn : n = msum (ps.take k)) (hx : ¬ (k < ps.length ∧ k ≤ 80 ∧ n ≤ 3000)) : greatB ps = (decide (80 < ps.length) || decide (3000 < n)) := by
  unfold greatB
  have h1 := msum_take ps k
  by_cases h2 : 80 < ps.length
  · simp [h2]
  · by_cases h3 : 3000 < n
    · simp [h3, show 3000 < msum ps by omega]
    · have : k = ps.length := by omega
      subst this
      rw [List.take_length] at hn
      rw [hn]
theorem int_eq' {k : IntKind} {a b : Int} (h : a = b) : Value.int k a = .int k b := by rw [h]
theorem min_int (a : Nat) : (if (a : Int) < 4000 then (a : Int) else 4000) = ((min a 4000 : Nat) : Int) := by
  split <;> omega

set_option maxRecDepth 100000 in
set_option maxHeartbeats 1000000 in
theorem great_any (ps : List (List UInt8)) (v : Value) (w : World) (hP : VParts ps v w) : Calls Try.prog 21 #[v] w (Ret w (VGreat ps)) := by
  obtain ⟨A, c, rfl, hc1, hc2, hx⟩ := VParts.form hP
  clear hP
  unfold maxLen at hc2
  go_enter Try.func21, Try.ntmps21
  go_wp2
  go_loopw [3, 4] (fun n i wr => ∃ k m : Nat, k ≤ ps.length ∧ k ≤ 81 ∧ m ≤ 7000 ∧ i = .int .i64 k ∧ n = .int .i64 m ∧ Hid (m = msum (ps.take k)) ∧ wr = w)
    (fun _ i _ => ps.length - (intOf i).toNat)
  case atStart => exact ⟨0, 0, by omega, by omega, by omega, rfl, rfl, rfl, rfl⟩
  case round =>
    obtain ⟨k, m, hk, hk2, hm, rfl, rfl, Hm, rfl⟩ := hrel
    by_cases hall : k < ps.length ∧ k ≤ 80 ∧ m ≤ 3000
    · obtain ⟨h1, h2, h3⟩ := hall
      obtain ⟨b, off, rfl, hb, hcell⟩ := hx (by omega)
      obtain ⟨x, hx1, hx2⟩ := hcell k h1
      obtain ⟨A2, c2, rfl, hd1, hd2, _⟩ := VBytes.form hx2
      unfold maxLen at hd2
      have Hs := hide (msum_snoc ps k h1)
      clear hcell hx hx2
      generalize ps[k] = bs at *
      go_wp2
      refine ⟨⟨k + 1, m + min bs.length 4000, by omega, by omega, by omega, by go_num, ?_, ?_, ?_⟩, by simp [intOf]; omega⟩
      · exact int_eq' (by omega)
      · show _ = _; rw [Hs.out, ← Hm.out]
      · trivial
    · have H := hide hall
      by_cases h1 : k < ps.length
      · by_cases h2 : k ≤ 80
        · have h3 : 3000 < m := by omega
          clear hall
          go_wp2
          all_goals
            go_ret
            refine ⟨_, rfl, Ext.rf _, ?_⟩
            show _ = Value.bool _
            rw [greatB_of ps _ m (by omega) Hm.out H.out]
            refine congrArg Value.bool ?_
            first
              | (rw [Bool.eq_iff_iff]; simp only [Bool.or_eq_true, decide_eq_true_eq]; omega)
              | (simp; omega)
        · clear hall
          go_wp2
          all_goals
            go_ret
            refine ⟨_, rfl, Ext.rf _, ?_⟩
            show _ = Value.bool _
            rw [greatB_of ps _ m (by omega) Hm.out H.out]
            refine congrArg Value.bool ?_
            first
              | (rw [Bool.eq_iff_iff]; simp only [Bool.or_eq_true, decide_eq_true_eq]; omega)
              | (simp; omega)
      · have h1' : ¬ (k : Int) < (ps.length : Int) := by omega
        obtain rfl : k = ps.length := by omega
        clear hall
        go_wp2
        all_goals
          go_ret
          refine ⟨_, rfl, Ext.rf _, ?_⟩
          show _ = Value.bool _
          rw [greatB_of ps _ m (by omega) Hm.out H.out]
          refine congrArg Value.bool ?_
          first
            | (rw [Bool.eq_iff_iff]; simp only [Bool.or_eq_true, decide_eq_true_eq]; omega)
            | (simp; omega)
end Go.Proofs.Ytfbamdkalamliaa
