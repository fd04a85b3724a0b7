/- The document's own fold, joined and folded bytes. -/
import Derived.Test.YtfbamdkalamliaaLetMath
import Derived.Test.YtfbamdkalamliaaY
import Derived.Test.YtfbamdkalamliaaProg
import Derived.WalkSpells
import Derived.WalkLawsBesides
import Derived.Deep.Cut
namespace Go.Proofs.Ytfbamdkalamliaa
open Go.RowKit LetM
theorem foldC_no {c : UInt8} (h : ¬ (65 ≤ c.toNat ∧ c.toNat ≤ 90)) : (c.toNat : Int) = ((foldC c).toNat : Int) := by unfold foldC; rw [if_neg h]
theorem foldC_yes {c : UInt8} (h : 65 ≤ c.toNat ∧ c.toNat ≤ 90) : (c.toNat : Int) + 32 = ((foldC c).toNat : Int) := by
  unfold foldC; rw [if_pos h, UInt8.toNat_ofNat']; omega
set_option maxHeartbeats 1000000 in
theorem rfold_any (c : UInt8) (w : World) : Calls Try.prog 39 #[byteV c] w (Ret w (VEq (byteV (foldC c)))) := by
  have hc := UInt8.toNat_lt c
  have H1 := hide (@foldC_no c)
  have H2 := hide (@foldC_yes c)
  unfold byteV
  generalize hy : ((foldC c).toNat : Int) = y at *
  generalize c.toNat = x at *
  clear hy
  go_enter Try.func39, Try.ntmps39
  by_cases h1 : (65 : Int) ≤ x
  · by_cases h2 : (x : Int) ≤ 90
    · have e := H2.out (by omega)
      go_wp2
      go_ret
      exact Ret.mk (Ext.rf _) rfl
    · have e := H1.out (by omega)
      go_wp2
      go_ret
      exact Ret.mk (Ext.rf _) rfl
  · have e := H1.out (by omega)
    go_wp2
    go_ret
    exact Ret.mk (Ext.rf _) rfl
theorem byte_dec (x y : UInt8) : decide ((x.toNat : Int) = (y.toNat : Int)) = decide (x = y) := by
  rw [Bool.eq_iff_iff]
  simp only [decide_eq_true_eq]
  exact ⟨fun h => UInt8.toNat_inj.1 (by omega), fun h => by rw [h]⟩
theorem Try.infoB : (Try.prog.info? 5).map (fun i => (i.zero, i.size, i.bytes)) = some (some (.int .u8 0), 1, 1) := by kernel_rfl
theorem OneByte (x : UInt8) (t : TypeId) (w : World) : VBytes [x] (.slice (some ⟨w.heap.size, 0, none⟩) 1 1) (w.alloc (.cells #[.int .u8 (x.toNat : Int)] t)) :=
  VBytes.of (bs := [x]) (Nat.le_refl _) (by decide) fun _ => ⟨_, 0, rfl, by simp, fun j hj => by
    have hj0 : j = 0 := by simpa using hj
    subst hj0
    exact (Box.new w t #[.int .u8 (x.toNat : Int)]).at_ 0 rfl⟩
set_option maxRecDepth 100000 in
set_option maxHeartbeats 1000000 in
theorem rfolded_any (bs : List UInt8) (v : Value) (w : World) (hP : VBytes bs v w) (hlen : bs.length ≤ 1000000) : Calls Try.prog 28 #[v] w (RetP w (fun v w' => OwnB w' w.heap.size 5 v (folds bs))) := by
  obtain ⟨A, c, rfl, hc1, hc2, hx⟩ := VBytes.form hP
  obtain ⟨i0, hi, hz0, hz1, hz2⟩ := info_parts Try.infoB
  clear hP
  unfold maxLen at hc2
  go_enter Try.func28, Try.ntmps28
  go_wp2
  go_loopw [3, 4] (fun l i wr => ∃ k : Nat, k ≤ bs.length ∧ i = .int .i64 k ∧ Hid (OwnB wr w.heap.size 5 l (folds (bs.take k))) ∧ Below w.heap.size w wr)
    (fun _ i _ => bs.length - (intOf i).toNat)
  case atStart => exact ⟨0, by omega, rfl, OwnB.nil _ _ _, Below.refl _ _⟩
  case round =>
    obtain ⟨k, hk, rfl, Ho, hE⟩ := hrel
    by_cases hlt : k < bs.length
    · obtain ⟨b, off, rfl, hb, hcell⟩ := hx (by omega)
      have hx3 := (hE.cell (p := ⟨b, off + k, none⟩) hb).trans (hcell k hlt)
      have hfl : folds (bs.take (k + 1)) = folds (bs.take k) ++ [foldC bs[k]] := by unfold folds; rw [List.take_succ_eq_append_getElem hlt, List.map_append]; rfl
      have hle : (folds (bs.take k)).length = k := by rw [folds_length, List.length_take]; omega
      have Hfl := hide hfl
      clear hcell hx hfl
      generalize bs[k] = x at *
      go_wp2_with fail
      refine (rfold_any x wr).mono ?_
      rintro e w2 ⟨v, rfl, hE2, rfl⟩
      have hE3 := hE.trans (hE2.mono hE.size)
      have Ho := hide (OwnB.st Ho.out hE2)
      unfold byteV
      go_wp2_with (at_builtin; refine wpList_append_bytes rfl _ _ 26 rfl w.heap.size 5 i0 (.int .u8 0) Try.underlying26 hi hz0 hz1 hz2 rfl _ _ (folds (bs.take k)) [foldC x] rfl (OwnB.st Ho.out (ext_alloc _ _)) rfl (OneByte _ _ _) (by simp; omega) (Nat.le_trans hE3.size (by simp)) ?_; intro v' w' hown hgrow hat)
      have hE4 := hE3.trans ((ext_alloc w2 (.cells #[.int .u8 ((foldC x).toNat : Int)] 5)).mono hE3.size)
      refine ⟨⟨k + 1, by omega, by go_num, ?_, hE4.grown hgrow hE4.size (fun j hj => OwnB.ge Ho.out j hj)⟩, by simp [intOf]; omega⟩
      show OwnB _ _ _ _ _
      rw [Hfl.out]
      exact hown
    · obtain rfl : k = bs.length := by omega
      go_wp2
      go_ret
      refine RetP.mk hE ?_
      have := Ho.out
      rwa [List.take_length] at this
end Go.Proofs.Ytfbamdkalamliaa
