/- The document's own Join. -/
import Derived.Test.YtkbhkadienddmaaRA
namespace Go.Proofs.Ytkbhkadienddmaa
open Go.RowKit LetM
theorem take_succ_flat (ps : List (List UInt8)) (k : Nat) (h : k < ps.length) : (ps.take (k + 1)).flatten = (ps.take k).flatten ++ ps[k] := by
  rw [List.take_succ_eq_append_getElem h, List.flatten_append]; simp
theorem take_flat_le (ps : List (List UInt8)) (k : Nat) : (ps.take k).flatten.length ≤ ps.flatten.length := by
  conv => rhs; rw [← List.take_append_drop k ps, List.flatten_append, List.length_append]
  omega
set_option maxRecDepth 100000 in
set_option maxHeartbeats 1000000 in
theorem rjoin_any (ps : List (List UInt8)) (v : Value) (w : World) (hP : VParts ps v w) (hlen : ps.flatten.length ≤ 1000000) : Calls Try.prog 27 #[v] w (RetP w (fun v w' => OwnB w' w.heap.size 5 v ps.flatten)) := by
  obtain ⟨A, c, rfl, hc1, hc2, hx⟩ := VParts.form hP
  obtain ⟨i0, hi, hz0, hz1, hz2⟩ := info_parts Try.infoB
  clear hP
  unfold maxLen at hc2
  go_enter Try.func27, Try.ntmps27
  go_wp2
  go_loopw [3, 4] (fun l i wr => ∃ k : Nat, k ≤ ps.length ∧ i = .int .i64 k ∧ Hid (OwnB wr w.heap.size 5 l (ps.take k).flatten) ∧ Below w.heap.size w wr)
    (fun _ i _ => ps.length - (intOf i).toNat)
  case atStart => exact ⟨0, by omega, rfl, OwnB.nil _ _ _, Below.refl _ _⟩
  case round =>
    obtain ⟨k, hk, rfl, Ho, hE⟩ := hrel
    by_cases hlt : k < ps.length
    · obtain ⟨b, off, rfl, hb, hcell⟩ := hx (by omega)
      obtain ⟨x, hx1, hx2⟩ := hcell k hlt
      have hx3 := (hE.cell (p := ⟨b, off + k, none⟩) hb).trans hx1
      have hx4 := VP.st _ _ _ _ hx2 hE
      obtain ⟨A2, c2, rfl, -⟩ := VBytes.form hx4
      have hfl := take_succ_flat ps k hlt
      have hle := take_flat_le ps (k + 1)
      rw [hfl, List.length_append] at hle
      have Hfl := hide hfl
      have Hx := hide hx4
      clear hcell hx hx1 hx2 hx4 hfl
      generalize ps[k] = bs at *
      go_wp2_with (at_builtin; refine wpList_append_bytes rfl _ _ 25 rfl w.heap.size 5 i0 (.int .u8 0) Try.underlying25 hi hz0 hz1 hz2 rfl _ _ (ps.take k).flatten bs rfl Ho.out rfl Hx.out (by omega) hE.size ?_; intro v' w' hown hgrow hat)
      refine ⟨⟨k + 1, by omega, by go_num, ?_, hE.grown hgrow hE.size (fun j hj => OwnB.ge Ho.out j hj)⟩, by simp [intOf]; omega⟩
      show OwnB _ _ _ _ _
      rw [Hfl.out]
      exact hown
    · obtain rfl : k = ps.length := by omega
      go_wp2
      go_ret
      refine RetP.mk hE ?_
      have := Ho.out
      rwa [List.take_length] at this
section
variable {w0 : World}
theorem c_rjoin (ps : List (List UInt8)) (h : ps.flatten.length ≤ 1000000) : ∀ v w, Ext w0 w → VParts ps v w → Calls Try.prog 27 #[v] w (Ret w (VBytes ps.flatten)) := fun v w _ hv =>
  (rjoin_any ps v w hv h).mono fun _ _ ⟨u, h1, h2, h3⟩ => ⟨u, h1, h2, OwnB.bytes h3⟩
end
end Go.Proofs.Ytkbhkadienddmaa
