/- The iterator over what is left: it takes away what it yields. -/
import Derived.Test.YtggjkhldknppkaaKDD
import Derived.Test.YtggjkhldknppkaaI
import Derived.RangeFuncNested
import Derived.RangeFuncBound
import Derived.RangeFuncCalls
import Derived.RangeFuncLeaves
import Derived.RangeFuncBox
import Derived.Shelf.RegionOpen
import Derived.OwnWalkIn
import Derived.TacticsInMore
import Derived.LoopNIn
import Derived.LoopIn
namespace Go.Proofs.Ytggjkhldknppkaa.Dg
open Go.RowKit Go.Shelf DigM
attribute [local go_sem] Oper.semAt_some

/-- What reads as bytes does so still, where its block is as it was. -/
theorem vbytes_keep {bs : List UInt8} {v : Value} {w w' : World} (h : VBytes bs v w) (hk : 0 < bs.length → ∀ k, v.ownBlock = some k → w'.heap[k]? = w.heap[k]?) : VBytes bs v w' := by
  obtain ⟨A, c, rfl, h2, h3, h4⟩ := VBytes.form h
  refine VBytes.of h2 h3 fun hp => ?_
  obtain ⟨b, off, rfl, hb, hcell⟩ := h4 hp
  have he := hk hp b rfl
  refine ⟨b, off, rfl, ?_, fun j hj => ?_⟩
  · rcases Nat.lt_or_ge b w'.heap.size with h | h
    · exact h
    · rw [Array.getElem?_eq_none h, Array.getElem?_eq_getElem hb] at he; cases he
  · rw [← hcell j hj]; unfold World.cell?; rw [he]
theorem vbytes_off {bs : List UInt8} {v : Value} {w : World} {g : Nat} {t : TypeId} {A B : Option Addr} {n m c d : Nat} (h : VBytes bs v w) (hb : Box w g t #[.slice A n c, .slice B m d]) (hp : 0 < bs.length) : v.ownBlock ≠ some g := by
  obtain ⟨A, c, rfl, h2, h3, h4⟩ := VBytes.form h
  obtain ⟨b, off, rfl, hb', hcell⟩ := h4 hp
  intro e
  have e : b = g := by simpa [Value.ownBlock] using e
  subst e
  have h5 := hcell 0 hp
  rw [hb.cell] at h5
  rw [Nat.add_zero] at h5
  match off, h5 with
  | 0, h5 => simp at h5
  | 1, h5 => simp at h5
  | k + 2, h5 => simp at h5
theorem vbytes_form' {bs : List UInt8} {v : Value} {w : World} (h : VBytes bs v w) : ∃ A c, v = .slice A bs.length c := by
  obtain ⟨A, c, rfl, _⟩ := VBytes.form h; exact ⟨A, c, rfl⟩
theorem cell_other {w : World} (w' : World) {g b o : Nat} {v : Value} (h : w.grownBy w' (some g)) (hc : w.cell? ⟨b, o, none⟩ = some v) (hne : b ≠ g) : w'.cell? ⟨b, o, none⟩ = some v := by
  rw [← hc]; unfold World.cell?
  rw [h.block b (World.block_lt_of_cell? w _ hc) (by simpa using hne)]
/-- Only block g, and what is new, has turned. -/
theorem only_set {w w1 : World} {g : Nat} (h : w.grownBy w1 (some g)) (i : Nat) (u : Value) : w.grownBy (w1.setCell ⟨g, i, none⟩ u) (some g) :=
  ⟨h.os, h.tape, h.output, by simpa [World.setCell] using h.size, fun k hk hne => (Below.heap_setCell w1 ⟨g, i, none⟩ u k (fun e => hne (by rw [e]))).trans (h.block k hk hne)⟩
theorem only_drew' {w w1 : World} {row : Option Nat} (h : w.grownBy w1 row) : w.grownBy w1.drew row := ⟨h.os, h.tape, h.output, h.size, h.block⟩
/-- What is left in block g: these bytes. -/
def LeftIs (g N : Nat) (lst : Value) (bs : List UInt8) (W : World) : Prop := ∃ v, Box W g 84 #[v, lst] ∧ VBytes bs v W ∧ (0 < bs.length → ∀ k, v.ownBlock = some k → k < N)
theorem zip_next {bs : List UInt8} {pre : List (UInt8 × Nat)} {x : UInt8 × Nat} (h : pre ++ [x] <+: bs.zipIdx) : x.2 = pre.length ∧ pre.length < bs.length ∧ bs.drop pre.length = x.1 :: bs.drop (pre.length + 1) := by
  have hl : pre.length < bs.zipIdx.length := by have := h.length_le; simp at this ⊢; omega
  have hx : bs.zipIdx[pre.length]? = some x := by
    obtain ⟨t, ht⟩ := h
    rw [← ht]; simp
  rw [List.getElem?_zipIdx] at hx
  have hl2 : pre.length < bs.length := by simpa using hl
  rw [List.getElem?_eq_getElem hl2] at hx
  simp at hx
  subst hx
  refine ⟨rfl, hl2, ?_⟩
  rw [List.drop_eq_getElem_cons hl2]
/-- Nothing but block g, and what is new, has turned. -/
def OwnG (g : Nat) (W W' : World) : Prop := W.grownBy W' (some g)
/-- The body keeps block g, the iterator's variable, and all blocks ahead of N. -/
def KeepG (g Bw N : Nat) (W W' : World) : Prop := W.heap.size ≤ W'.heap.size ∧ W'.heap[g]? = W.heap[g]? ∧ W'.heap[Bw]? = W.heap[Bw]? ∧ ∀ k, k < N → W'.heap[k]? = W.heap[k]?
theorem KeepG.t {g Bw N : Nat} {A B C : World} (h : KeepG g Bw N A B) (k : KeepG g Bw N B C) : KeepG g Bw N A C := ⟨Nat.le_trans h.1 k.1, k.2.1.trans h.2.1, k.2.2.1.trans h.2.2.1, fun j hj => (k.2.2.2 j hj).trans (h.2.2.2 j hj)⟩
theorem LeftIs.keep {g Bw N : Nat} {lst : Value} {bs : List UInt8} {W W' : World} (h : LeftIs g N lst bs W) (k : KeepG g Bw N W W') : LeftIs g N lst bs W' := by
  obtain ⟨v, h1, h2, h3⟩ := h
  exact ⟨v, k.2.1.trans h1, vbytes_keep h2 (fun hp b hb => k.2.2.2 b (h3 hp b hb)), h3⟩
theorem LeftIs.take {g N : Nat} {B : Option Addr} {m d : Nat} {x : UInt8} {bs : List UInt8} {W : World} (h : LeftIs g N (.slice B m d) (x :: bs) W) : ∃ b off c, Box W g 84 #[.slice (some ⟨b, off, none⟩) (bs.length + 1) c, .slice B m d] ∧ W.cell? ⟨b, off, none⟩ = some (.int .u8 (x.toNat : Int)) ∧ bs.length + 1 ≤ c ∧
    ∀ W', W.grownBy W' (some g) → Box W' g 84 #[.slice (if c = 1 then (some ⟨b, off, none⟩) else (some ⟨b, off + 1, none⟩)) bs.length (c - 1), .slice B m d] → LeftIs g N (.slice B m d) bs W' := by
  obtain ⟨v, h1, h2, h3⟩ := h
  have h2' := h2
  obtain ⟨A, c, rfl, hc1, hc2, hx⟩ := VBytes.form h2
  obtain ⟨b, off, rfl, hb, hcell⟩ := hx (by simp)
  refine ⟨b, off, c, h1, by have := hcell 0 (by simp); simpa using this, by simpa using hc1, fun W' hg hb' => ?_⟩
  have hoff := vbytes_off h2' h1 (by simp)
  have hgb : b ≠ g := fun e => hoff (by rw [e]; rfl)
  obtain ⟨A', n', c', e, _, _, _, hcut⟩ := VBytes.cut h2'
  cases e
  have h5 := hcut 1 (bs.length + 1) (by omega) (by simp)
  simp only [Option.map_some, addr_add, List.take_of_length_le (show (x :: bs).length ≤ bs.length + 1 by simp), List.drop_one, List.tail_cons, Nat.add_sub_cancel] at h5
  refine ⟨_, hb', vbytes_keep h5 (fun _ k hk => ?_), fun _ k hk => ?_⟩
  · have : k = b := by
      split at hk <;> exact (Option.some.inj hk).symm
    subst this
    exact hg.block k hb (by simpa using hgb)
  · have : k = b := by
      split at hk <;> exact (Option.some.inj hk).symm
    subst this
    exact h3 (by simp) k rfl
theorem LeftIs.put {g N : Nat} {lst : Value} {bs : List UInt8} {W : World} (hg : g < N) (l : Nat) (o : Obj) (hl : N ≤ l) (h : LeftIs g N lst bs W) : LeftIs g N lst bs (W.putObj l o) := by
  obtain ⟨v, h1, h2, h3⟩ := h
  exact ⟨v, (World.putObj_heap_other (by omega)).trans h1, vbytes_keep h2 (fun hp b hb => World.putObj_heap_other (by have := h3 hp b hb; omega)), h3⟩

set_option maxRecDepth 100000 in
set_option maxHeartbeats 2000000 in
theorem bytes1_in (n : Nat) (hn : 1 ≤ n) (l Bw g N : Nat) (B : Option Addr) (m d : Nat) (bs : List UInt8) (J Jx : List (UInt8 × Nat) → World → Prop)
    (hJ : ∀ pre W1 W2, J pre W1 → OwnG g W1 W2 → J pre W2)
    (hY : ∀ pre (x : UInt8 × Nat) W, J pre W → pre ++ [x] <+: bs.zipIdx → YieldAt Fence.wide (n - 1) Try.prog l #[.int .i64 (x.2 : Int), .int .u8 (x.1.toNat : Int)] W fun e W' =>
      KeepG g Bw N W W' ∧ ((e = .returned (.bool true) ∧ J (pre ++ [x]) W') ∨ (e = .returned (.bool false) ∧ Jx (pre ++ [x]) W')))
    (W : World) (hBw : W.cell? ⟨Bw, 0, none⟩ = some (.pointer (some ⟨g, 0, none⟩))) (hgB : g ≠ Bw) (hl0 : LeftIs g N (.slice B m d) bs W) (hmax : bs.length ≤ 9000000000000000000) (h0 : J [] W) :
    CallsIn Fence.wide n Try.prog 58 #[.func (.yield l) #[] #[], .pointer (some ⟨Bw, 0, none⟩)] W fun e W' => (∃ v, e = .returned v) ∧
      ((∃ xs, xs = bs.zipIdx ∧ LeftIs g N (.slice B m d) (bs.drop xs.length) W' ∧ J xs W') ∨ (∃ pre, pre <+: bs.zipIdx ∧ LeftIs g N (.slice B m d) (bs.drop pre.length) W' ∧ Jx pre W')) := by
  refine callsIn_of_wp Try.func58 rfl trivial ?_ rfl
  simp only [Try.ntmps58, List.size_toArray, List.length_cons, List.length_nil, Nat.reduceAdd, Nat.reduceSub, Array.replicate_succ, Array.replicate_zero, List.push_toArray, List.append_toArray, List.nil_append, List.cons_append]
  gi_wp2
  gi_loopw [3] (fun i wr => ∃ (k : Nat) (pre : List (UInt8 × Nat)), k ≤ bs.length ∧ i = .int .i64 k ∧ Hid (pre = bs.zipIdx.take k) ∧ Hid (J pre wr) ∧ Hid (LeftIs g N (.slice B m d) (bs.drop k) wr) ∧ wr.cell? ⟨Bw, 0, none⟩ = some (.pointer (some ⟨g, 0, none⟩)))
    (fun i _ => bs.length - (intOf i).toNat)
  case atStart => exact ⟨0, [], Nat.zero_le _, rfl, rfl, h0, hide (by simpa using hl0), hBw⟩
  case round =>
    obtain ⟨k, pre, hk, rfl, Hp, HJ, HL, hcB⟩ := hrel
    by_cases hlt : k < bs.length
    · have hL := HL.out
      rw [List.drop_eq_getElem_cons hlt] at hL
      obtain ⟨b, off, c, hbx, hcell, hcl, hnext⟩ := LeftIs.take hL
      have hpl : pre.length = k := by rw [Hp.out]; simp; omega
      have hsn : bs.zipIdx.take (k + 1) = pre ++ [(bs[k], k)] := by
        rw [List.take_succ_eq_append_getElem (by simpa using hlt), ← Hp.out]; simp
      have hpre : pre ++ [(bs[k], k)] <+: bs.zipIdx := by rw [← hsn]; exact List.take_prefix _ _
      have hc0 := hbx.at_ 0 rfl
      have hf0 := hbx.frozen 0
      have hll : (bs.drop (k + 1)).length = bs.length - (k + 1) := by simp
      rw [hll] at hc0 hnext hbx hcl
      have Hn := hide hnext
      have Hsn := hide hsn
      have Hpre := hide hpre
      have Hpl := hide hpl
      have Hbx := hide hbx
      have HY := hide (hY pre (bs[k], k))
      clear hL hnext hsn hpre hpl hll hbx
      generalize bs[k] = x at *
      have hmix : Try.prog.follows .mixedOrders = true := by kernel_rfl
      by_cases hc1 : c = 1
      all_goals
        gi_wp2
        gi_region_o
      all_goals
        have hgr : wr.grownBy (wr.setCell ⟨g, 0, none⟩ (.slice (if c = 1 then (some ⟨b, off, none⟩) else (some ⟨b, off + 1, none⟩)) (bs.length - (k + 1)) (c - 1))).drew (some g) := only_drew' (only_set (World.grownBy.refl wr _) 0 _)
        have hb2 : Box (wr.setCell ⟨g, 0, none⟩ (.slice (if c = 1 then (some ⟨b, off, none⟩) else (some ⟨b, off + 1, none⟩)) (bs.length - (k + 1)) (c - 1))).drew g 84 #[.slice (if c = 1 then (some ⟨b, off, none⟩) else (some ⟨b, off + 1, none⟩)) (bs.length - (k + 1)) (c - 1), .slice B m d] := (Hbx.out.set_ 0 _).drew
        have HL2 := hide (Hn.out _ hgr hb2)
        have hJ2 := hJ pre _ _ HJ.out hgr
        have hcB2 := (cell_other (wr.setCell ⟨g, 0, none⟩ (.slice (if c = 1 then (some ⟨b, off, none⟩) else (some ⟨b, off + 1, none⟩)) (bs.length - (k + 1)) (c - 1))).drew hgr hcB (fun e => hgB e.symm))
        first | simp only [if_pos hc1] at hgr hb2 HL2 hJ2 hcB2 | simp only [if_neg hc1] at hgr hb2 HL2 hJ2 hcB2
        first | subst hc1 | skip
        clear hgr hb2 Hn hc0 hf0 Hbx hcell HJ HL
        try simp only [Nat.sub_self] at HL2 hJ2 hcB2
        generalize World.drew _ = W2 at *
        obtain ⟨fn, tmps, assign, body, hy, hR⟩ := HY.out W2 hJ2 Hpre.out
        clear HY hJ2
        have Hh := HL2
        gi_wp2
        refine hR.mono ?_
        rintro e W3 ⟨hkp, (⟨rfl, hJ3⟩ | ⟨rfl, hJx3⟩)⟩
        · have HL3 := hide (LeftIs.keep HL2.out hkp)
          have hcB3 : W3.cell? ⟨Bw, 0, none⟩ = some (.pointer (some ⟨g, 0, none⟩)) := by rw [← hcB2]; unfold World.cell?; rw [hkp.2.2.1]
          gi_wp2
          go_roundw
          case rel => exact ⟨k + 1, pre ++ [(x, k)], by omega, by go_num, hide Hsn.out.symm, hide hJ3, HL3, hcB3⟩
          case measure => simp [intOf]; omega
        · have HL3 := hide (LeftIs.keep HL2.out hkp)
          gi_wp2
          refine bodyPost_ret (results_none rfl _ _ _) rfl ?_
          refine ⟨⟨_, rfl⟩, .inr ⟨_, Hpre.out, ?_, hJx3⟩⟩
          rw [List.length_append, Hpl.out]
          exact HL3.out
    · obtain rfl : k = bs.length := by omega
      have hL := HL.out
      obtain ⟨v, hb1, hb2, hb3⟩ := hL
      obtain ⟨A, c, rfl⟩ := vbytes_form' hb2
      have hc0 := hb1.at_ 0 rfl
      have hz : (bs.drop bs.length).length = 0 := by simp
      rw [hz] at hc0
      gi_wp2
      go_end0
      refine ⟨⟨_, rfl⟩, .inl ⟨_, rfl, ?_, ?_⟩⟩
      · have := HL.out
        simpa using this
      · have h1 := Hp.out
        rw [List.take_of_length_le (by simp)] at h1
        rw [← h1]; exact HJ.out
/-- bytes: the iterator, as a value; what goes through stands in a variable of its own. -/
theorem bytes_any (g : Nat) (w : World) : Calls Try.prog 55 #[.pointer (some ⟨g, 0, none⟩)] w fun e w' => e = .returned (.func (.func 58) #[] #[.pointer (some ⟨w.heap.size, 0, none⟩)]) ∧ w' = w.alloc (.cells #[.pointer (some ⟨g, 0, none⟩)] 101) := by
  go_enter Try.func55, Try.ntmps55
  go_wp2
  go_ret
  exact ⟨rfl, rfl⟩
theorem bytes_seq (n : Nat) (hn : 1 ≤ n) (Bw g N : Nat) (B : Option Addr) (m d : Nat) (bs : List UInt8) (w : World) (hBw : w.cell? ⟨Bw, 0, none⟩ = some (.pointer (some ⟨g, 0, none⟩))) (hgB : g ≠ Bw) (hg : g < w.heap.size) (hN : N ≤ w.heap.size) (hl0 : LeftIs g N (.slice B m d) bs w) (hmax : bs.length ≤ 9000000000000000000) :
    SeqOwn Fence.wide n Try.prog 58 #[.pointer (some ⟨Bw, 0, none⟩)] (fun x : UInt8 × Nat => #[Value.int .i64 (x.2 : Int), .int .u8 (x.1.toNat : Int)]) (KeepG g Bw N) (OwnG g) (fun pre => LeftIs g N (.slice B m d) (bs.drop pre.length)) (fun xs => xs = bs.zipIdx) (fun pre => pre <+: bs.zipIdx) (fun pre => pre <+: bs.zipIdx) w := fun l J Jx W hE hJ hY h0 =>
  bytes1_in n hn l Bw g N B m d bs J Jx hJ hY W ((hE.cell (World.block_lt_of_cell? w _ hBw)).trans hBw) hgB (LeftIs.keep (Bw := Bw) hl0 ⟨hE.size, hE.block g hg, hE.block Bw (World.block_lt_of_cell? w _ hBw), fun k hk => hE.block k (by omega)⟩) hmax h0
end Go.Proofs.Ytggjkhldknppkaa.Dg
