/- Letter's contracts, for the layers above it. -/
import Derived.Test.YtfbamdkalamliaaLC
import Derived.Test.YtfbamdkalamliaaRC
namespace Go.Proofs.Ytfbamdkalamliaa
open Go.RowKit LetM
set_option maxRecDepth 100000 in
set_option maxHeartbeats 1000000 in
theorem foldeds_any (bs : List UInt8) (v : Value) (w : World) (hP : VBytes bs v w) (hlen : bs.length ≤ 1000000) : Calls Try.prog 51 #[v] w (RetP w (fun v w' => OwnB w' w.heap.size 5 v (folds bs))) := by
  obtain ⟨A, c, rfl, hc1, hc2, hx⟩ := VBytes.form hP
  obtain ⟨i0, hi, hz0, hz1, hz2⟩ := info_parts Try.infoB
  clear hP
  unfold maxLen at hc2
  go_enter Try.func51, Try.ntmps51
  go_wp2
  go_loopw [3, 8] (fun l i wr => ∃ k : Nat, k ≤ bs.length ∧ i = .int .i64 k ∧ Hid (OwnB wr w.heap.size 5 l (folds (bs.take k))) ∧ Below w.heap.size w wr)
    (fun _ i _ => bs.length - (intOf i).toNat)
  case atStart => exact ⟨0, by omega, rfl, OwnB.nil _ _ _, Below.refl _ _⟩
  case round =>
    obtain ⟨k, hk, rfl, Ho, hE⟩ := hrel
    by_cases hlt : k < bs.length
    · obtain ⟨b, off, rfl, hb, hcell⟩ := hx (by omega)
      have hx3 := (hE.cell (p := ⟨b, off + k, none⟩) hb).trans (hcell k hlt)
      have hfl : folds (bs.take (k + 1)) = folds (bs.take k) ++ [foldC bs[k]] := by unfold folds; rw [List.take_succ_eq_append_getElem hlt, List.map_append]; rfl
      have hle : (folds (bs.take k)).length = k := by rw [folds_length, List.length_take]; omega
      have Hfl := hide hfl
      clear hcell hx hfl
      generalize bs[k] = x at *
      go_wp2_with fail
      refine (fold_any x wr).mono ?_
      rintro e w2 ⟨v, rfl, hE2, rfl⟩
      have hE3 := hE.trans (hE2.mono hE.size)
      have Ho := hide (OwnB.st Ho.out hE2)
      unfold byteV
      go_wp2_with (at_builtin; refine wpList_append_bytes rfl _ _ 26 rfl w.heap.size 5 i0 (.int .u8 0) Try.underlying26 hi hz0 hz1 hz2 rfl _ _ (folds (bs.take k)) [foldC x] rfl (OwnB.st Ho.out (ext_alloc _ _)) rfl (OneByte _ _ _) (by simp; omega) (Nat.le_trans hE3.size (by simp)) ?_; intro v' w' hown hgrow hat)
      have hE4 := hE3.trans ((ext_alloc w2 (.cells #[.int .u8 ((foldC x).toNat : Int)] 5)).mono hE3.size)
      refine ⟨⟨k + 1, by omega, by go_num, ?_, hE4.grown hgrow hE4.size (fun j hj => OwnB.ge Ho.out j hj)⟩, by simp [intOf]; omega⟩
      show OwnB _ _ _ _ _
      rw [Hfl.out]
      exact hown
    · obtain rfl : k = bs.length := by omega
      go_wp2
      go_ret
      refine RetP.mk hE ?_
      have := Ho.out
      rwa [List.take_length] at this
set_option maxRecDepth 100000 in
set_option maxHeartbeats 1000000 in
theorem which_any (fold : Bool) (text : List UInt8) (ws : List (List UInt8)) (u v : Value) (w : World) (hT : VBytes text u w) (hP : VParts ws v w) : Calls Try.prog 50 #[.bool fold, u, v] w (Ret w (VEq (.int .i64 (which fold text ws)))) := by
  obtain ⟨A, c, rfl, hc1, hc2, hx⟩ := VParts.form hP
  obtain ⟨B, d, rfl, -⟩ := VBytes.form hT
  clear hP
  unfold maxLen at hc2
  go_enter Try.func50, Try.ntmps50
  go_wp2
  go_loopw [11] (fun i wr => ∃ k : Nat, k ≤ ws.length ∧ i = .int .i64 k ∧ Hid (which fold text ws = whichFrom fold text k (ws.drop k)) ∧ Below w.heap.size w wr)
    (fun i _ => ws.length - (intOf i).toNat)
  case atStart => exact ⟨0, by omega, rfl, rfl, Below.refl _ _⟩
  case round =>
    obtain ⟨k, hk, rfl, Ho, hE⟩ := hrel
    by_cases hlt : k < ws.length
    · obtain ⟨b, off, rfl, hb, hcell⟩ := hx (by omega)
      obtain ⟨x, hx1, hx2⟩ := hcell k hlt
      have hx3 := (hE.cell (p := ⟨b, off + k, none⟩) hb).trans hx1
      have hx4 := VP.st _ _ _ _ hx2 hE
      have hT4 := VP.st _ _ _ _ hT hE
      obtain ⟨A2, c2, rfl, -⟩ := VBytes.form hx4
      have hst := which_step fold text ws k hlt Ho.out
      have Hst := hide hst
      have Hx := hide hx4
      clear hcell hx hx1 hx2 hx4 hst Ho
      generalize ws[k] = bs at *
      go_wp2_with fail
      refine (same_any fold bs text _ _ wr Hx.out hT4).mono ?_
      rintro e w2 ⟨v, rfl, hE2, rfl⟩
      rw [sameB_symm fold bs text]
      have hE3 := hE.trans (hE2.mono hE.size)
      cases hq : sameB fold text bs
      · have h2 := hide (Hst.out.2 hq)
        clear Hst hq
        go_wp2
        exact ⟨⟨k + 1, by omega, by go_num, h2, hE3⟩, by simp [intOf]; omega⟩
      · have h2 := hide (Hst.out.1 hq)
        clear Hst hq
        go_wp2
        go_ret
        exact Ret.mk hE3 (congrArg (Value.int .i64) h2.out.symm)
    · obtain rfl : k = ws.length := by omega
      have h2 : Hid (which fold text ws = -1) := by show which fold text ws = -1; rw [Ho.out, List.drop_length]; rfl
      go_wp2
      go_ret
      exact Ret.mk hE (congrArg (Value.int .i64) h2.out.symm)
section
variable {w0 : World}
theorem c_same (fold : Bool) (xs ys : List UInt8) : ∀ b u v w, Ext w0 w → VEq (.bool fold) b w → VBytes xs u w → VBytes ys v w → Calls Try.prog 59 #[b, u, v] w (Ret w (VEq (.bool (sameB fold xs ys)))) := fun b u v w _ hb hu hv => by
  rw [show b = _ from hb]; exact same_any fold xs ys u v w hu hv
theorem c_folded (bs : List UInt8) (h : bs.length ≤ 1000000) : ∀ v w, Ext w0 w → VBytes bs v w → Calls Try.prog 51 #[v] w (Ret w (VBytes (folds bs))) := fun v w _ hv =>
  (foldeds_any bs v w hv h).mono fun _ _ ⟨u, h1, h2, h3⟩ => ⟨u, h1, h2, OwnB.bytes h3⟩
theorem c_which (fold : Bool) (text : List UInt8) (ws : List (List UInt8)) : ∀ b u v w, Ext w0 w → VEq (.bool fold) b w → VBytes text u w → VParts ws v w → Calls Try.prog 50 #[b, u, v] w (Ret w (VEq (.int .i64 (which fold text ws)))) := fun b u v w _ hb hu hv => by
  rw [show b = _ from hb]; exact which_any fold text ws u v w hu hv
end
end Go.Proofs.Ytfbamdkalamliaa
