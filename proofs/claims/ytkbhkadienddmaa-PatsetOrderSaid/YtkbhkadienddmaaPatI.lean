/- Texts as words, walked. -/
import Derived.Test.YtkbhkadienddmaaPatH
import Derived.Lib.ConvBytes
namespace Go.Proofs.Ytkbhkadienddmaa
open Go.RowKit Go.Shelf LetM SetM
/-- '[]byte(s)'. -/
theorem run_conv (w : World) (bs : List UInt8) (hm : bs.length ≤ 1000000) : ∃ w' c, (convert 9 25 (.string ⟨bs.toArray⟩)).run Try.prog w = .ok (.slice (some ⟨w.heap.size, 0, none⟩) bs.length c) w' ∧ Ext w w' ∧ VOwn w.heap.size 5 bs (.slice (some ⟨w.heap.size, 0, none⟩) bs.length c) w' ∧ w'.heap.size = w.heap.size + 1 := by
  have hr := Go.Lib.run_convert_string_bytes (P := Try.prog) w 9 25 5 ⟨bs.toArray⟩ Try.underlying9 Try.underlying25 Try.underlying5
  have hsz : (⟨bs.toArray⟩ : ByteArray).size = bs.length := by simp [ByteArray.size]
  have hc1 := grownCap_ge w bs.length 0 5
  have hc2 := grownCap_le_maxLen w bs.length 0 5 (by unfold maxLen; omega)
  rw [hsz] at hr
  refine ⟨_, _, hr, ⟨rfl, ?_, rfl, ?_, fun k hk => Go.Lib.bytesWorld_at_old w _ _ k hk⟩, ⟨VBytes.of hc1 hc2 fun hp => ⟨_, 0, rfl, ?_, fun j hj => ?_⟩, fun g hg => ?_⟩, Go.Lib.bytesWorld_size w _ _⟩
  · simp [Go.Lib.bytesWorld, World.freeze]
  · rw [Go.Lib.bytesWorld_size]; omega
  · rw [Go.Lib.bytesWorld_size]; omega
  · rw [Nat.zero_add, Go.Lib.bytesWorld_cell w _ _ j (by rw [hsz]; exact hj)]
    simp [List.getD_eq_getElem?_getD, hj]
  · cases hg
    exact ⟨Nat.le_refl _, _, _, Go.Lib.bytesWorld_at_new w _ _, .inr rfl⟩
def VStrs (bs : List (List UInt8)) : VP := VSl (bs.map fun b => VEq (.string ⟨b.toArray⟩))
theorem VStrs.form {bs : List (List UInt8)} {u : Value} {w : World} (h : VStrs bs u w) : ∃ A c, u = .slice A bs.length c ∧ bs.length ≤ c ∧ c ≤ maxLen ∧ (0 < bs.length → ∃ b off, A = some ⟨b, off, none⟩ ∧ b < w.heap.size ∧ ∀ j (hj : j < bs.length), w.cell? ⟨b, off + j, none⟩ = some (.string ⟨bs[j].toArray⟩)) := by
  obtain ⟨A, c, h1, h2, h3, h4⟩ := h
  rw [List.length_map] at h1 h2 h4
  refine ⟨A, c, h1, h2, h3, fun hp => ?_⟩
  obtain ⟨b, off, hA, hb, hcell⟩ := h4 hp
  refine ⟨b, off, hA, hb, fun j hj => ?_⟩
  obtain ⟨x, hx, hF⟩ := hcell j (VEq (.string ⟨bs[j].toArray⟩)) (by rw [List.getElem?_map, List.getElem?_eq_getElem hj]; rfl)
  rw [hx, show x = _ from hF]
set_option maxRecDepth 100000 in
set_option maxHeartbeats 1000000 in
theorem words_any (bs : List (List UInt8)) (v : Value) (w : World) (hV : VStrs bs v w) (hn : bs.length ≤ 1000) (hl : ∀ b ∈ bs, b.length ≤ 1000) : Calls Try.prog 28 #[v] w (Ret w (VParts bs)) := by
  obtain ⟨A, c, rfl, hc1, hc2, hx⟩ := VStrs.form hV
  obtain ⟨i0, hi, hz0, hz1, hz2⟩ := info_parts Try.infoSl
  unfold maxLen at hc2
  clear hV
  go_enter Try.func28, Try.ntmps28
  go_wp2
  go_loopw [3, 4] (fun o i wr => ∃ k : Nat, k ≤ bs.length ∧ i = .int .i64 (k : Int) ∧ Hid (OwnP wr w.heap.size 25 5 o (bs.take k)) ∧ Hid (Below w.heap.size w wr)) (fun _ i _ => bs.length - (intOf i).toNat)
  case atStart => exact ⟨0, by omega, rfl, OwnP.nil _ _ _ _, Ext.rf w⟩
  case round =>
    obtain ⟨k, hk, rfl, HO, HE⟩ := hrel
    have hE : Ext w wr := HE.out
    by_cases hlt : k < bs.length
    · obtain ⟨b, off, rfl, hbl, hcell⟩ := hx (by omega)
      have hz3 := (hE.cell (p := ⟨b, off + k, none⟩) hbl).trans (hcell k hlt)
      have hbk := hl _ (List.getElem_mem hlt)
      have Hts := hide (List.take_succ_eq_append_getElem hlt)
      obtain ⟨w2, c2, hrun, hE2, hvo, -⟩ := run_conv wr bs[k] (by omega)
      have hX : Ext w2 (w2.alloc (.cells #[.slice (some ⟨wr.heap.size, 0, none⟩) bs[k].length c2] 25)) := ext_alloc _ _
      have hlk : (bs.take k).length = k := by rw [List.length_take]; omega
      have hE3 := hE.tr (hE2.tr hX)
      have hws : w.heap.size ≤ wr.heap.size := hE.size
      obtain ⟨xs, ho1, ho2, ho3⟩ := OwnP.st HO.out (hE2.tr hX)
      have hvo := VOwn.low (VP.st _ _ _ _ hvo hX) hws
      obtain ⟨A3, c3, hv3⟩ := OwnP.form HO.out
      clear hcell hx hX HO
      generalize bs[k] = p at *
      generalize bs.take k = acc at *
      subst hv3
      go_wp2_with (at_builtin; refine wpList_append_src rfl _ _ 22 rfl w.heap.size 25 i0 (.slice none 0 0) 1 24 Try.underlying22 hi hz0 hz1 hz2 rfl (by omega) _ _ acc.length 1 xs [.slice (some ⟨wr.heap.size, 0, none⟩) p.length c2] rfl ho1 rfl rfl (Src.new _ _ _ _) (fun y hy => by rw [List.mem_singleton] at hy; subst hy; rfl) (by omega) hE3.size ?_; intro v' w' hown hgrow hat)
      have hsn := OwnP.snoc (by decide) ho1 ho2 ho3 hvo hown hgrow
      rw [← Hts.out] at hsn
      have hE4 : Below w.heap.size w w' := hE3.grown hgrow hE3.size (fun j hj => by have := own_ge ho1 j hj; omega)
      exact ⟨⟨k + 1, by omega, by go_num, hide hsn, hide hE4⟩, by simp [intOf]; omega⟩
    · obtain rfl : k = bs.length := by omega
      have hO := HO.out
      rw [List.take_length] at hO
      have HP := hide (OwnP.parts hO)
      clear HO hO hx
      go_wp2
      go_ret
      exact Ret.mk hE HP.out
end Go.Proofs.Ytkbhkadienddmaa
