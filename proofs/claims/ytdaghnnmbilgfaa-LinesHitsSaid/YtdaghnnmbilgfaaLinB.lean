/- The iterator over the bytes of all chunks; Feed, Of. -/
import Derived.Test.YtdaghnnmbilgfaaLinA
import Derived.RangeFuncNested
import Derived.RangeFuncBound
import Derived.RangeFuncCalls
import Derived.RangeFuncLeaves
import Derived.RangeFuncBox
import Derived.Shelf.RegionOpen
import Derived.OwnWalkIn
import Derived.TacticsInMore
import Derived.LoopNIn
import Derived.LoopIn
namespace Go.Proofs.Ytdaghnnmbilgfaa
open Go.RowKit Go.Shelf LinM
attribute [local go_sem] Oper.semAt_some

theorem take_succ_flat (ps : List (List UInt8)) (k : Nat) (h : k < ps.length) : (ps.take (k + 1)).flatten = (ps.take k).flatten ++ ps[k] := by
  rw [List.take_succ_eq_append_getElem h, List.flatten_append]; simp
theorem take_snoc {α : Type} (l : List α) (k : Nat) (h : k < l.length) : l.take (k + 1) = l.take k ++ [l[k]] := List.take_succ_eq_append_getElem h
theorem flat_prefix (ps : List (List UInt8)) (k j : Nat) (h : k < ps.length) : (ps.take k).flatten ++ ps[k].take j <+: ps.flatten := by
  have e : ps.flatten = (ps.take k).flatten ++ (ps[k] ++ (ps.drop (k + 1)).flatten) := by
    conv => lhs; rw [← List.take_append_drop k ps, List.flatten_append, List.drop_eq_getElem_cons h, List.flatten_cons]
  rw [e]
  exact List.prefix_append_right_inj _ |>.2 ((List.take_prefix _ _).trans (List.prefix_append _ _))

/-- The blocks that K names lie as they lay. -/
def KeepK (K : Nat → Prop) (W W' : World) : Prop := W.heap.size ≤ W'.heap.size ∧ ∀ k, K k → W'.heap[k]? = W.heap[k]?
theorem KeepK.rf (K : Nat → Prop) (W : World) : KeepK K W W := ⟨Nat.le_refl _, fun _ _ => rfl⟩
theorem KeepK.t {K : Nat → Prop} {A B C : World} (h : KeepK K A B) (k : KeepK K B C) : KeepK K A C := ⟨Nat.le_trans h.1 k.1, fun j hj => (k.2 j hj).trans (h.2 j hj)⟩
theorem KeepK.cell {K : Nat → Prop} {A B : World} (h : KeepK K A B) {b : Nat} (hb : K b) (o : Nat) : B.cell? ⟨b, o, none⟩ = A.cell? ⟨b, o, none⟩ := by unfold World.cell?; rw [h.2 b hb]
theorem KeepK.of_ext {K : Nat → Prop} {A B : World} (h : Ext A B) (hK : ∀ k, K k → k < A.heap.size) : KeepK K A B := ⟨h.size, fun k hk => h.block k (hK k hk)⟩
/-- Slices of bytes, in blocks that K names. -/
def PartsK (K : Nat → Prop) (ps : List (List UInt8)) (v : Value) (w : World) : Prop := ∃ A c, v = .slice A ps.length c ∧ ps.length ≤ c ∧ c ≤ maxLen ∧
  (0 < ps.length → ∃ b off, A = some ⟨b, off, none⟩ ∧ K b ∧ ∀ j (hj : j < ps.length), ∃ A2 c2, w.cell? ⟨b, off + j, none⟩ = some (.slice A2 ps[j].length c2) ∧ ps[j].length ≤ c2 ∧ c2 ≤ maxLen ∧
    (0 < ps[j].length → ∃ b2 off2, A2 = some ⟨b2, off2, none⟩ ∧ K b2 ∧ ∀ i (hi : i < ps[j].length), w.cell? ⟨b2, off2 + i, none⟩ = some (.int .u8 (ps[j][i].toNat : Int))))
theorem partsK_keep {K : Nat → Prop} {ps : List (List UInt8)} {v : Value} {w w' : World} (h : PartsK K ps v w) (hk : KeepK K w w') : PartsK K ps v w' := by
  obtain ⟨A, c, h1, h2, h3, h4⟩ := h
  refine ⟨A, c, h1, h2, h3, fun hp => ?_⟩
  obtain ⟨b, off, rfl, hb, hcell⟩ := h4 hp
  refine ⟨b, off, rfl, hb, fun j hj => ?_⟩
  obtain ⟨A2, c2, h5, h6, h7, h8⟩ := hcell j hj
  refine ⟨A2, c2, (hk.cell hb _).trans h5, h6, h7, fun hq => ?_⟩
  obtain ⟨b2, off2, rfl, hb2, hc2⟩ := h8 hq
  exact ⟨b2, off2, rfl, hb2, fun i hi => (hk.cell hb2 _).trans (hc2 i hi)⟩
theorem partsK_ext {K : Nat → Prop} {ps : List (List UInt8)} {v : Value} {w w' : World} (h : PartsK K ps v w) (hE : Ext w w') (hK : ∀ k, K k → k < w.heap.size) : PartsK K ps v w' := partsK_keep h (KeepK.of_ext hE hK)
theorem PartsK.of {K : Nat → Prop} {ps : List (List UInt8)} {v : Value} {w : World} (h : VParts ps v w) (hK : ∀ k, k < w.heap.size → K k) : PartsK K ps v w := by
  obtain ⟨A, c, h1, h2, h3, h4⟩ := VParts.form h
  refine ⟨A, c, h1, h2, h3, fun hp => ?_⟩
  obtain ⟨b, off, rfl, hb, hcell⟩ := h4 hp
  refine ⟨b, off, rfl, hK b hb, fun j hj => ?_⟩
  obtain ⟨x, hx1, hx2⟩ := hcell j hj
  obtain ⟨A2, c2, rfl, h5, h6, h7⟩ := VBytes.form hx2
  refine ⟨A2, c2, hx1, h5, h6, fun hq => ?_⟩
  obtain ⟨b2, off2, rfl, hb2, hc2⟩ := h7 hq
  exact ⟨b2, off2, rfl, hK b2 hb2, hc2⟩
set_option maxRecDepth 100000 in
set_option maxHeartbeats 2000000 in
theorem all1_in (F : Fence) (n : Nat) (hF : F.fn 27) (hro : F.round = none) (hn : 1 ≤ n) (l Bs : Nat) (K : Nat → Prop) (ps : List (List UInt8)) (v : Value) (w₀ : World) (hP : PartsK K ps v w₀) (J Jx : List UInt8 → World → Prop)
    (hY : ∀ pre x W, J pre W → pre.length < ps.flatten.length → YieldAt F (n - 1) Try.prog l #[.int .u8 (x.toNat : Int)] W fun e W' =>
      (e = .returned (.bool true) ∧ J (pre ++ [x]) W' ∧ KeepK K W W') ∨ (e = .returned (.bool false) ∧ Jx (pre ++ [x]) W'))
    (W : World) (hW : KeepK K w₀ W) (hBs : W.cell? ⟨Bs, 0, none⟩ = some v) (h0 : J [] W) :
    CallsIn F n Try.prog 27 #[.func (.yield l) #[] #[], .pointer (some ⟨Bs, 0, none⟩)] W fun e W' => (∃ v, e = .returned v) ∧
      ((∃ ys, ys = ps.flatten ∧ J ys W') ∨ (∃ pre, pre <+: ps.flatten ∧ Jx pre W')) := by
  obtain ⟨A, c, rfl, hc1, hc2, hx⟩ := hP
  unfold maxLen at hc2
  refine callsIn_of_wp Try.func27 rfl hF ?_ hro
  simp only [Try.ntmps27, List.size_toArray, List.length_cons, List.length_nil, Nat.reduceAdd, Nat.reduceSub, Array.replicate_succ, Array.replicate_zero, List.push_toArray, List.append_toArray, List.nil_append, List.cons_append]
  gi_wp2
  gi_loopw [9] (fun i wr => ∃ k : Nat, k ≤ ps.length ∧ i = .int .i64 k ∧ J (ps.take k).flatten wr ∧ KeepK K W wr)
    (fun i _ => ps.length - (intOf i).toNat)
  case atStart => exact ⟨0, Nat.zero_le _, rfl, by simpa using h0, KeepK.rf _ _⟩
  case round =>
    obtain ⟨k, hk, rfl, hJs, hnx⟩ := hrel
    by_cases hlt : k < ps.length
    · obtain ⟨b, off, rfl, hb, hcell⟩ := hx (by omega)
      obtain ⟨A2, c2, hx1, hd1, hd2, hy2⟩ := hcell k hlt
      unfold maxLen at hd2
      have hx3 := (KeepK.cell (hW.t hnx) hb (off + k)).trans hx1
      clear hcell hx hx1
      have hJ2 : J ((ps.take k).flatten ++ ps[k].take 0) wr := by simpa using hJs
      have hpre := fun j => flat_prefix ps k j hlt
      have hfl := take_succ_flat ps k hlt
      clear hJs
      generalize hpk : ps[k] = bs at *
      have Hpre := hide hpre
      have Hfl := hide hfl
      clear hpk hpre hfl
      gi_wp2
      obtain ⟨wo, rfl⟩ : ∃ wo : World, wo = wr := ⟨_, rfl⟩
      gi_loopw [15] (fun i wr => ∃ j : Nat, j ≤ bs.length ∧ i = .int .i64 j ∧ J ((ps.take k).flatten ++ bs.take j) wr ∧ KeepK K W wr)
        (fun i _ => bs.length - (intOf i).toNat)
      case atStart => exact ⟨0, Nat.zero_le _, rfl, hJ2, hnx⟩
      case round =>
        obtain ⟨j, hj, rfl, hJs, hnx2⟩ := hrel
        by_cases hjt : j < bs.length
        · obtain ⟨b2, off2, rfl, hb2, hcell2⟩ := hy2 (by omega)
          have hc2 := (KeepK.cell (hW.t hnx2) hb2 (off2 + j)).trans (hcell2 j hjt)
          have hts := take_snoc bs j hjt
          have hlen : ((ps.take k).flatten ++ bs.take j).length < ps.flatten.length := by
            have h1 := (Hpre.out (j + 1)).length_le
            rw [hts] at h1
            simp only [List.length_append, List.length_singleton] at h1 ⊢
            omega
          obtain ⟨fn, tmps, assign, body, hy, hR⟩ := hY _ bs[j] wr hJs hlen
          have Hts := hide hts
          clear hts hcell2 hlen hJ2 hx3
          gi_wp2
          refine hR.mono ?_
          rintro e W3 (⟨rfl, hJ3, hk3⟩ | ⟨rfl, hJx3⟩)
          · gi_wp2
            go_roundw
            case rel => exact ⟨j + 1, by omega, by go_num, by rw [Hts.out, ← List.append_assoc]; exact hJ3, hnx2.t hk3⟩
            case measure => simp [intOf]; omega
          · gi_wp2
            refine bodyPost_ret (results_none rfl _ _ _) rfl ?_
            refine ⟨⟨_, rfl⟩, .inr ⟨_, ?_, hJx3⟩⟩
            have h1 := Hpre.out (j + 1)
            rwa [Hts.out, ← List.append_assoc] at h1
        · obtain rfl : j = bs.length := by omega
          gi_wp2
          go_roundw
          case rel => exact ⟨k + 1, by omega, by go_num, by rw [Hfl.out]; simpa using hJs, hnx2⟩
          case measure => simp [intOf]; omega
    · obtain rfl : k = ps.length := by omega
      gi_wp2
      go_end0
      exact ⟨⟨_, rfl⟩, .inl ⟨_, by simp, hJs⟩⟩

theorem box_own {β : Type} (g : Nat) (t : TypeId) (f : β → Array Value) : Own (fun (s : β) W => Box W g t (f s)) := by
  intro s W W' row h hg hr
  exact (hg.block g h.lt (fun e => by
    obtain ⟨o, ho, hc⟩ := hr g e.symm
    rw [show W.heap[g]? = _ from h] at ho
    cases ho; cases hc)).trans h

theorem all_stops (F : Fence) (n : Nat) (hF : F.fn 27) (hro : F.round = none) (hn : 1 ≤ n) (Bs : Nat) (K : Nat → Prop) (ps : List (List UInt8)) (v : Value) (w : World) (hP : PartsK K ps v w) (hc : w.cell? ⟨Bs, 0, none⟩ = some v) (hK : ∀ k, K k → k < w.heap.size) :
    SeqStopsK F n Try.prog 27 #[.pointer (some ⟨Bs, 0, none⟩)] (fun x : UInt8 => #[Value.int .u8 (x.toNat : Int)]) (KeepK K) (fun ys => ys = ps.flatten) (fun pre => pre <+: ps.flatten) ps.flatten.length w := fun l J Jx W hW _ _ hY h0 =>
  all1_in F n hF hro hn l Bs K ps v w hP J Jx hY W (KeepK.of_ext hW hK) ((hW.cell (World.block_lt_of_cell? w _ hc)).trans hc) h0
theorem keepK_b {K : Nat → Prop} {w : World} (hK : ∀ k, K k → k < w.heap.size) (W : World) (l : Nat) (o o' : Obj) (hl : w.heap.size ≤ l) (_ : W.heap[l]? = some o) (_ : o.isCells = false) (_ : o.isWalk = false) : KeepK K W (W.putObj l o') :=
  ⟨by simp, fun k hk => World.putObj_heap_other (by have := hK k hk; omega)⟩
/-- all: the iterator over the bytes of the parts, as a value. -/
theorem all_any (A : Option Addr) (n c : Nat) (w : World) : Calls Try.prog 17 #[.slice A n c] w fun e w' => e = .returned (.func (.func 27) #[] #[.pointer (some ⟨w.heap.size, 0, none⟩)]) ∧ w' = w.alloc (.cells #[.slice A n c] 37) := by
  go_enter Try.func17, Try.ntmps17
  go_wp2
  go_ret
  exact ⟨rfl, rfl⟩

end Go.Proofs.Ytdaghnnmbilgfaa
