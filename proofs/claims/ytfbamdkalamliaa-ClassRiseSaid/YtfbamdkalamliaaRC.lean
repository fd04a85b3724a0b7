/- The document's own Which and Great, and contracts. -/
import Derived.Test.YtfbamdkalamliaaRB
import Derived.Test.YtfbamdkalamliaaLetG
namespace Go.Proofs.Ytfbamdkalamliaa
open Go.RowKit LetM
theorem which_step (fold : Bool) (text : List UInt8) (ws : List (List UInt8)) (k : Nat) (h : k < ws.length) (hw : which fold text ws = whichFrom fold text k (ws.drop k)) :
    (sameB fold text ws[k] = true → which fold text ws = (k : Int)) ∧ (sameB fold text ws[k] = false → which fold text ws = whichFrom fold text (k + 1) (ws.drop (k + 1))) := by
  rw [hw, List.drop_eq_getElem_cons h]
  unfold whichFrom
  exact ⟨fun h => if_pos h, fun h => by rw [if_neg (by rw [h]; decide)]; cases ws.drop (k + 1) <;> rfl⟩
set_option maxRecDepth 100000 in
set_option maxHeartbeats 1000000 in
theorem rwhich_any (fold : Bool) (text : List UInt8) (ws : List (List UInt8)) (u v : Value) (w : World) (hT : VBytes text u w) (hP : VParts ws v w) (htx : text.length ≤ 1000000) (hws : ∀ b ∈ ws, b.length ≤ 1000000) : Calls Try.prog 37 #[.bool fold, u, v] w (Ret w (VEq (.int .i64 (which fold text ws)))) := by
  obtain ⟨A, c, rfl, hc1, hc2, hx⟩ := VParts.form hP
  obtain ⟨B, d, rfl, -⟩ := VBytes.form hT
  clear hP
  unfold maxLen at hc2
  go_enter Try.func37, Try.ntmps37
  go_wp2
  go_loopw [7] (fun i wr => ∃ k : Nat, k ≤ ws.length ∧ i = .int .i64 k ∧ Hid (which fold text ws = whichFrom fold text k (ws.drop k)) ∧ Below w.heap.size w wr)
    (fun i _ => ws.length - (intOf i).toNat)
  case atStart => exact ⟨0, by omega, rfl, rfl, Below.refl _ _⟩
  case round =>
    obtain ⟨k, hk, rfl, Ho, hE⟩ := hrel
    by_cases hlt : k < ws.length
    · obtain ⟨b, off, rfl, hb, hcell⟩ := hx (by omega)
      obtain ⟨x, hx1, hx2⟩ := hcell k hlt
      have hx3 := (hE.cell (p := ⟨b, off + k, none⟩) hb).trans hx1
      have hx4 := VP.st _ _ _ _ hx2 hE
      have hT4 := VP.st _ _ _ _ hT hE
      obtain ⟨A2, c2, rfl, -⟩ := VBytes.form hx4
      have hst := which_step fold text ws k hlt Ho.out
      have Hst := hide hst
      have hbl : ws[k].length ≤ 1000000 := hws _ (List.getElem_mem hlt)
      have Hx := hide hx4
      clear hcell hx hx1 hx2 hx4 hst Ho
      generalize ws[k] = bs at *
      go_wp2_with fail
      refine (rsame_any fold text bs _ _ wr hT4 Hx.out htx hbl).mono ?_
      rintro e w2 ⟨v, rfl, hE2, rfl⟩
      have hE3 := hE.trans (hE2.mono hE.size)
      cases hq : sameB fold text bs
      · have h2 := hide (Hst.out.2 hq)
        clear Hst hq
        go_wp2
        exact ⟨⟨k + 1, by omega, by go_num, h2, hE3⟩, by simp [intOf]; omega⟩
      · have h2 := hide (Hst.out.1 hq)
        clear Hst hq
        go_wp2
        go_ret
        exact Ret.mk hE3 (congrArg (Value.int .i64) h2.out.symm)
    · obtain rfl : k = ws.length := by omega
      have h2 : Hid (which fold text ws = -1) := by show which fold text ws = -1; rw [Ho.out, List.drop_length]; rfl
      go_wp2
      go_ret
      exact Ret.mk hE (congrArg (Value.int .i64) h2.out.symm)
section
variable {w0 : World}
theorem c_rwhich (fold : Bool) (text : List UInt8) (ws : List (List UInt8)) (h : text.length ≤ 1000000) (h2 : ∀ b ∈ ws, b.length ≤ 1000000) : ∀ b u v w, Ext w0 w → VEq (.bool fold) b w → VBytes text u w → VParts ws v w → Calls Try.prog 37 #[b, u, v] w (Ret w (VEq (.int .i64 (which fold text ws)))) := fun b u v w _ hb hu hv => by
  rw [show b = _ from hb]; exact rwhich_any fold text ws u v w hu hv h h2
theorem c_rfold (c : UInt8) : ∀ v w, Ext w0 w → VEq (byteV c) v w → Calls Try.prog 39 #[v] w (Ret w (VEq (byteV (foldC c)))) := fun v w _ hv => by rw [show v = _ from hv]; exact rfold_any c w
end
end Go.Proofs.Ytfbamdkalamliaa
