/- Texts joined, bytes folded: by rows of their own. -/
import Derived.Test.YtnkagcaipndljaaLetC
namespace Go.Proofs.Ytnkagcaipndljaa
open Go.RowKit LetM

theorem Try.infoB : (Try.prog.info? 5).map (fun i => (i.zero, i.size, i.bytes)) = some (some (.int .u8 0), 1, 1) := by kernel_rfl
theorem take_succ_flat (ps : List (List UInt8)) (k : Nat) (h : k < ps.length) : (ps.take (k + 1)).flatten = (ps.take k).flatten ++ ps[k] := by
  rw [List.take_succ_eq_append_getElem h, List.flatten_append]; simp
theorem take_flat_le (ps : List (List UInt8)) (k : Nat) : (ps.take k).flatten.length ≤ ps.flatten.length := by
  conv => rhs; rw [← List.take_append_drop k ps, List.flatten_append, List.length_append]
  omega

set_option maxRecDepth 100000 in
set_option maxHeartbeats 1000000 in
theorem join_any (ps : List (List UInt8)) (v : Value) (w : World) (hP : VParts ps v w) (hlen : ps.flatten.length ≤ 1000000) : Calls Try.prog 20 #[v] w (RetP w (fun v w' => OwnB w' w.heap.size 5 v ps.flatten)) := by
  obtain ⟨A, c, rfl, hc1, hc2, hx⟩ := VParts.form hP
  obtain ⟨i0, hi, hz0, hz1, hz2⟩ := info_parts Try.infoB
  clear hP
  unfold maxLen at hc2
  go_enter Try.func20, Try.ntmps20
  go_wp2
  go_loopw [3, 8] (fun l i wr => ∃ k : Nat, k ≤ ps.length ∧ i = .int .i64 k ∧ Hid (OwnB wr w.heap.size 5 l (ps.take k).flatten) ∧ Below w.heap.size w wr)
    (fun _ i _ => ps.length - (intOf i).toNat)
  case atStart => exact ⟨0, by omega, rfl, OwnB.nil _ _ _, Below.refl _ _⟩
  case round =>
    obtain ⟨k, hk, rfl, Ho, hE⟩ := hrel
    by_cases hlt : k < ps.length
    · obtain ⟨b, off, rfl, hb, hcell⟩ := hx (by omega)
      obtain ⟨x, hx1, hx2⟩ := hcell k hlt
      have hx3 := (hE.cell (p := ⟨b, off + k, none⟩) hb).trans hx1
      have hx4 := VP.st _ _ _ _ hx2 hE
      obtain ⟨A2, c2, rfl, -⟩ := VBytes.form hx4
      have hfl := take_succ_flat ps k hlt
      have hle := take_flat_le ps (k + 1)
      rw [hfl, List.length_append] at hle
      have Hfl := hide hfl
      have Hx := hide hx4
      clear hcell hx hx1 hx2 hx4 hfl
      generalize ps[k] = bs at *
      go_wp2_with (at_builtin; refine wpList_append_bytes rfl _ _ 22 rfl w.heap.size 5 i0 (.int .u8 0) Try.underlying22 hi hz0 hz1 hz2 rfl _ _ (ps.take k).flatten bs rfl Ho.out rfl Hx.out (by omega) hE.size ?_; intro v' w' hown hgrow hat)
      refine ⟨⟨k + 1, by omega, by go_num, ?_, hE.grown hgrow hE.size (fun j hj => OwnB.ge Ho.out j hj)⟩, by simp [intOf]; omega⟩
      show OwnB _ _ _ _ _
      rw [Hfl.out]
      exact hown
    · obtain rfl : k = ps.length := by omega
      go_wp2
      go_ret
      refine RetP.mk hE ?_
      have := Ho.out
      rwa [List.take_length] at this
set_option maxRecDepth 100000 in
set_option maxHeartbeats 1000000 in
theorem rjoin_any (ps : List (List UInt8)) (v : Value) (w : World) (hP : VParts ps v w) (hlen : ps.flatten.length ≤ 1000000) : Calls Try.prog 21 #[v] w (RetP w (fun v w' => OwnB w' w.heap.size 5 v ps.flatten)) := by
  obtain ⟨A, c, rfl, hc1, hc2, hx⟩ := VParts.form hP
  obtain ⟨i0, hi, hz0, hz1, hz2⟩ := info_parts Try.infoB
  clear hP
  unfold maxLen at hc2
  go_enter Try.func21, Try.ntmps21
  go_wp2
  go_loopw [3, 4] (fun l i wr => ∃ k : Nat, k ≤ ps.length ∧ i = .int .i64 k ∧ Hid (OwnB wr w.heap.size 5 l (ps.take k).flatten) ∧ Below w.heap.size w wr)
    (fun _ i _ => ps.length - (intOf i).toNat)
  case atStart => exact ⟨0, by omega, rfl, OwnB.nil _ _ _, Below.refl _ _⟩
  case round =>
    obtain ⟨k, hk, rfl, Ho, hE⟩ := hrel
    by_cases hlt : k < ps.length
    · obtain ⟨b, off, rfl, hb, hcell⟩ := hx (by omega)
      obtain ⟨x, hx1, hx2⟩ := hcell k hlt
      have hx3 := (hE.cell (p := ⟨b, off + k, none⟩) hb).trans hx1
      have hx4 := VP.st _ _ _ _ hx2 hE
      obtain ⟨A2, c2, rfl, -⟩ := VBytes.form hx4
      have hfl := take_succ_flat ps k hlt
      have hle := take_flat_le ps (k + 1)
      rw [hfl, List.length_append] at hle
      have Hfl := hide hfl
      have Hx := hide hx4
      clear hcell hx hx1 hx2 hx4 hfl
      generalize ps[k] = bs at *
      go_wp2_with (at_builtin; refine wpList_append_bytes rfl _ _ 22 rfl w.heap.size 5 i0 (.int .u8 0) Try.underlying22 hi hz0 hz1 hz2 rfl _ _ (ps.take k).flatten bs rfl Ho.out rfl Hx.out (by omega) hE.size ?_; intro v' w' hown hgrow hat)
      refine ⟨⟨k + 1, by omega, by go_num, ?_, hE.grown hgrow hE.size (fun j hj => OwnB.ge Ho.out j hj)⟩, by simp [intOf]; omega⟩
      show OwnB _ _ _ _ _
      rw [Hfl.out]
      exact hown
    · obtain rfl : k = ps.length := by omega
      go_wp2
      go_ret
      refine RetP.mk hE ?_
      have := Ho.out
      rwa [List.take_length] at this
theorem OneByte (x : UInt8) (t : TypeId) (w : World) : VBytes [x] (.slice (some ⟨w.heap.size, 0, none⟩) 1 1) (w.alloc (.cells #[.int .u8 (x.toNat : Int)] t)) :=
  VBytes.of (bs := [x]) (Nat.le_refl _) (by decide) fun _ => ⟨_, 0, rfl, by simp, fun j hj => by
    have hj0 : j = 0 := by simpa using hj
    subst hj0
    exact (Box.new w t #[.int .u8 (x.toNat : Int)]).at_ 0 rfl⟩
set_option maxRecDepth 100000 in
set_option maxHeartbeats 1000000 in
theorem foldeds_any (bs : List UInt8) (v : Value) (w : World) (hP : VBytes bs v w) (hlen : bs.length ≤ 1000000) : Calls Try.prog 12 #[v] w (RetP w (fun v w' => OwnB w' w.heap.size 5 v (folds bs))) := by
  obtain ⟨A, c, rfl, hc1, hc2, hx⟩ := VBytes.form hP
  obtain ⟨i0, hi, hz0, hz1, hz2⟩ := info_parts Try.infoB
  clear hP
  unfold maxLen at hc2
  go_enter Try.func12, Try.ntmps12
  go_wp2
  go_loopw [3, 8] (fun l i wr => ∃ k : Nat, k ≤ bs.length ∧ i = .int .i64 k ∧ Hid (OwnB wr w.heap.size 5 l (folds (bs.take k))) ∧ Below w.heap.size w wr)
    (fun _ i _ => bs.length - (intOf i).toNat)
  case atStart => exact ⟨0, by omega, rfl, OwnB.nil _ _ _, Below.refl _ _⟩
  case round =>
    obtain ⟨k, hk, rfl, Ho, hE⟩ := hrel
    by_cases hlt : k < bs.length
    · obtain ⟨b, off, rfl, hb, hcell⟩ := hx (by omega)
      have hx3 := (hE.cell (p := ⟨b, off + k, none⟩) hb).trans (hcell k hlt)
      have hfl : folds (bs.take (k + 1)) = folds (bs.take k) ++ [foldC bs[k]] := by unfold folds; rw [List.take_succ_eq_append_getElem hlt, List.map_append]; rfl
      have hle : (folds (bs.take k)).length = k := by rw [folds_length, List.length_take]; omega
      have Hfl := hide hfl
      clear hcell hx hfl
      generalize bs[k] = x at *
      go_wp2_with fail
      refine (fold_any x wr).mono ?_
      rintro e w2 ⟨v, rfl, hE2, rfl⟩
      have hE3 := hE.trans (hE2.mono hE.size)
      have Ho := hide (OwnB.st Ho.out hE2)
      unfold byteV
      go_wp2_with (at_builtin; refine wpList_append_bytes rfl _ _ 22 rfl w.heap.size 5 i0 (.int .u8 0) Try.underlying22 hi hz0 hz1 hz2 rfl _ _ (folds (bs.take k)) [foldC x] rfl (OwnB.st Ho.out (ext_alloc _ _)) rfl (OneByte _ _ _) (by simp; omega) (Nat.le_trans hE3.size (by simp)) ?_; intro v' w' hown hgrow hat)
      have hE4 := hE3.trans ((ext_alloc w2 (.cells #[.int .u8 ((foldC x).toNat : Int)] 5)).mono hE3.size)
      refine ⟨⟨k + 1, by omega, by go_num, ?_, hE4.grown hgrow hE4.size (fun j hj => OwnB.ge Ho.out j hj)⟩, by simp [intOf]; omega⟩
      show OwnB _ _ _ _ _
      rw [Hfl.out]
      exact hown
    · obtain rfl : k = bs.length := by omega
      go_wp2
      go_ret
      refine RetP.mk hE ?_
      have := Ho.out
      rwa [List.take_length] at this
set_option maxRecDepth 100000 in
set_option maxHeartbeats 1000000 in
theorem rfolded_any (bs : List UInt8) (v : Value) (w : World) (hP : VBytes bs v w) (hlen : bs.length ≤ 1000000) : Calls Try.prog 13 #[v] w (RetP w (fun v w' => OwnB w' w.heap.size 5 v (folds bs))) := by
  obtain ⟨A, c, rfl, hc1, hc2, hx⟩ := VBytes.form hP
  obtain ⟨i0, hi, hz0, hz1, hz2⟩ := info_parts Try.infoB
  clear hP
  unfold maxLen at hc2
  go_enter Try.func13, Try.ntmps13
  go_wp2
  go_loopw [3, 4] (fun l i wr => ∃ k : Nat, k ≤ bs.length ∧ i = .int .i64 k ∧ Hid (OwnB wr w.heap.size 5 l (folds (bs.take k))) ∧ Below w.heap.size w wr)
    (fun _ i _ => bs.length - (intOf i).toNat)
  case atStart => exact ⟨0, by omega, rfl, OwnB.nil _ _ _, Below.refl _ _⟩
  case round =>
    obtain ⟨k, hk, rfl, Ho, hE⟩ := hrel
    by_cases hlt : k < bs.length
    · obtain ⟨b, off, rfl, hb, hcell⟩ := hx (by omega)
      have hx3 := (hE.cell (p := ⟨b, off + k, none⟩) hb).trans (hcell k hlt)
      have hfl : folds (bs.take (k + 1)) = folds (bs.take k) ++ [foldC bs[k]] := by unfold folds; rw [List.take_succ_eq_append_getElem hlt, List.map_append]; rfl
      have hle : (folds (bs.take k)).length = k := by rw [folds_length, List.length_take]; omega
      have Hfl := hide hfl
      clear hcell hx hfl
      generalize bs[k] = x at *
      go_wp2_with fail
      refine (rfold_any x wr).mono ?_
      rintro e w2 ⟨v, rfl, hE2, rfl⟩
      have hE3 := hE.trans (hE2.mono hE.size)
      have Ho := hide (OwnB.st Ho.out hE2)
      unfold byteV
      go_wp2_with (at_builtin; refine wpList_append_bytes rfl _ _ 22 rfl w.heap.size 5 i0 (.int .u8 0) Try.underlying22 hi hz0 hz1 hz2 rfl _ _ (folds (bs.take k)) [foldC x] rfl (OwnB.st Ho.out (ext_alloc _ _)) rfl (OneByte _ _ _) (by simp; omega) (Nat.le_trans hE3.size (by simp)) ?_; intro v' w' hown hgrow hat)
      have hE4 := hE3.trans ((ext_alloc w2 (.cells #[.int .u8 ((foldC x).toNat : Int)] 5)).mono hE3.size)
      refine ⟨⟨k + 1, by omega, by go_num, ?_, hE4.grown hgrow hE4.size (fun j hj => OwnB.ge Ho.out j hj)⟩, by simp [intOf]; omega⟩
      show OwnB _ _ _ _ _
      rw [Hfl.out]
      exact hown
    · obtain rfl : k = bs.length := by omega
      go_wp2
      go_ret
      refine RetP.mk hE ?_
      have := Ho.out
      rwa [List.take_length] at this
end Go.Proofs.Ytnkagcaipndljaa
