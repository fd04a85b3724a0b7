/- The iterator over the bytes of two texts of one length, place by place. -/
import Derived.Test.YtfbamdkalamliaaLA
import Derived.RangeFuncNested
import Derived.RangeFuncBound
import Derived.RangeFuncCalls
import Derived.RangeFuncLeaves
import Derived.RangeFuncBox
import Derived.Shelf.RegionOpen
import Derived.OwnWalkIn
import Derived.TacticsInMore
import Derived.LoopNIn
import Derived.LoopIn
namespace Go.Proofs.Ytfbamdkalamliaa
open Go.RowKit Go.Shelf LetM
attribute [local go_sem] Oper.semAt_some

set_option maxRecDepth 100000 in
set_option maxHeartbeats 2000000 in
theorem pairs1_in (F : Fence) (n : Nat) (hF : F.fn 67) (hro : F.round = none) (hn : 1 ≤ n) (l Ba Bb : Nat) (xs ys : List UInt8) (hxy : xs.length = ys.length) (va vb : Value) (w₀ : World) (hA : VBytes xs va w₀) (hB : VBytes ys vb w₀) (J Jx : List (UInt8 × UInt8) → World → Prop)
    (hY : ∀ pre (p : UInt8 × UInt8) W, J pre W → pre.length < (xs.zip ys).length → YieldAt F (n - 1) Try.prog l #[.int .u8 (p.1.toNat : Int), .int .u8 (p.2.toNat : Int)] W fun e W' =>
      (e = .returned (.bool true) ∧ J (pre ++ [p]) W' ∧ Below w₀.heap.size W W') ∨ (e = .returned (.bool false) ∧ Jx (pre ++ [p]) W'))
    (W : World) (hW : Ext w₀ W) (hBa : W.cell? ⟨Ba, 0, none⟩ = some va) (hBb : ∀ W', Below w₀.heap.size W W' → W'.cell? ⟨Bb, 0, none⟩ = some vb) (h0 : J [] W) :
    CallsIn F n Try.prog 67 #[.func (.yield l) #[] #[], .pointer (some ⟨Ba, 0, none⟩), .pointer (some ⟨Bb, 0, none⟩)] W fun e W' => (∃ v, e = .returned v) ∧
      ((∃ zs, zs = xs.zip ys ∧ J zs W') ∨ (∃ pre, pre <+: xs.zip ys ∧ Jx pre W')) := by
  obtain ⟨A, c, rfl, hc1, hc2, hx⟩ := VBytes.form hA
  obtain ⟨B, d, rfl, hd1, hd2, hy⟩ := VBytes.form hB
  clear hA hB
  unfold maxLen at hc2 hd2
  refine callsIn_of_wp Try.func67 rfl hF ?_ hro
  simp only [Try.ntmps67, List.size_toArray, List.length_cons, List.length_nil, Nat.reduceAdd, Nat.reduceSub, Array.replicate_succ, Array.replicate_zero, List.push_toArray, List.append_toArray, List.nil_append, List.cons_append]
  gi_wp2
  gi_loopw [8] (fun i wr => ∃ k : Nat, k ≤ xs.length ∧ i = .int .i64 k ∧ J ((xs.zip ys).take k) wr ∧ Below w₀.heap.size W wr)
    (fun i _ => xs.length - (intOf i).toNat)
  case atStart => exact ⟨0, Nat.zero_le _, rfl, by simpa using h0, Below.refl _ _⟩
  case round =>
    obtain ⟨k, hk, rfl, hJs, hnx⟩ := hrel
    by_cases hlt : k < xs.length
    · obtain ⟨b, off, rfl, hb, hcell⟩ := hx (by omega)
      obtain ⟨b2, off2, rfl, hb2, hcell2⟩ := hy (by omega)
      have hx3 := ((Below.trans hW hnx).cell (p := ⟨b, off + k, none⟩) hb).trans (hcell k hlt)
      have hy3 := ((Below.trans hW hnx).cell (p := ⟨b2, off2 + k, none⟩) hb2).trans (hcell2 k (by omega))
      have hbb := hBb wr hnx
      have hlz : k < (xs.zip ys).length := by rw [List.length_zip]; omega
      have hts : (xs.zip ys).take (k + 1) = (xs.zip ys).take k ++ [(xs[k], ys[k]'(by omega))] := by
        rw [List.take_succ_eq_append_getElem hlz, List.getElem_zip]
      have hpre := List.take_prefix (k + 1) (xs.zip ys)
      obtain ⟨fn, tmps, assign, body, hyl, hR⟩ := hY _ (xs[k], ys[k]'(by omega)) wr hJs (by rw [List.length_take]; omega)
      have hky : (k : Int) < (ys.length : Int) := by omega
      have Hts := hide hts
      have Hpre := hide hpre
      clear hts hpre hcell hcell2 hx hy hJs
      gi_wp2
      refine hR.mono ?_
      rintro e W3 (⟨rfl, hJ3, hk3⟩ | ⟨rfl, hJx3⟩)
      · gi_wp2
        go_roundw
        case rel => exact ⟨k + 1, by omega, by go_num, by rw [Hts.out]; exact hJ3, hnx.trans hk3⟩
        case measure => simp [intOf]; omega
      · gi_wp2
        refine bodyPost_ret (results_none rfl _ _ _) rfl ?_
        refine ⟨⟨_, rfl⟩, .inr ⟨_, ?_, hJx3⟩⟩
        have h1 := Hpre.out
        rwa [Hts.out] at h1
    · obtain rfl : k = xs.length := by omega
      gi_wp2
      go_end0
      exact ⟨⟨_, rfl⟩, .inl ⟨_, by rw [List.take_of_length_le (by rw [List.length_zip]; omega)], hJs⟩⟩

/-- pairs: the iterator, as a value; the two texts stand in variables of their own. -/
theorem pairs_any (A B : Option Addr) (n m c d : Nat) (w : World) : Calls Try.prog 63 #[.slice A n c, .slice B m d] w fun e w' => e = .returned (.func (.func 67) #[] #[.pointer (some ⟨w.heap.size, 0, none⟩), .pointer (some ⟨w.heap.size + 1, 0, none⟩)]) ∧ w' = (w.alloc (.cells #[.slice A n c] 26)).alloc (.cells #[.slice B m d] 26) := by
  go_enter Try.func63, Try.ntmps63
  go_wp2
  go_ret
  exact ⟨rfl, rfl⟩
theorem pairs_stops (F : Fence) (n : Nat) (hF : F.fn 67) (hro : F.round = none) (hn : 1 ≤ n) (Ba Bb : Nat) (xs ys : List UInt8) (hxy : xs.length = ys.length) (va vb : Value) (w₀ : World) (hA : VBytes xs va w₀) (hB : VBytes ys vb w₀) (hca : w₀.cell? ⟨Ba, 0, none⟩ = some va) (hcb : w₀.cell? ⟨Bb, 0, none⟩ = some vb) :
    SeqStopsK F n Try.prog 67 #[.pointer (some ⟨Ba, 0, none⟩), .pointer (some ⟨Bb, 0, none⟩)] (fun p : UInt8 × UInt8 => #[Value.int .u8 (p.1.toNat : Int), Value.int .u8 (p.2.toNat : Int)]) (Below w₀.heap.size) (fun zs => zs = xs.zip ys) (fun pre => pre <+: xs.zip ys) (xs.zip ys).length w₀ := fun l J Jx W hW _ _ hY h0 =>
  pairs1_in F n hF hro hn l Ba Bb xs ys hxy va vb w₀ hA hB J Jx hY W hW ((hW.cell (World.block_lt_of_cell? w₀ _ hca)).trans hca) (fun _ hW' => ((Below.trans hW hW').cell (p := ⟨Bb, 0, none⟩) (World.block_lt_of_cell? w₀ _ hcb)).trans hcb) h0
end Go.Proofs.Ytfbamdkalamliaa
