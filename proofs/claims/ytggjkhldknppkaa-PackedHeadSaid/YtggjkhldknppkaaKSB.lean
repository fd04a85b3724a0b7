/- The iterator over the bytes of all parts, and Feed, which ranges over it. -/
import Derived.Test.YtggjkhldknppkaaKSA
import Derived.RangeFuncNested
import Derived.RangeFuncBound
import Derived.RangeFuncCalls
import Derived.RangeFuncLeaves
import Derived.RangeFuncBox
import Derived.Shelf.RegionOpen
import Derived.OwnWalkIn
import Derived.TacticsInMore
import Derived.LoopNIn
import Derived.LoopIn
namespace Go.Proofs.Ytggjkhldknppkaa.Sm
open Go.RowKit Go.Shelf SumM
attribute [local go_sem] Oper.semAt_some

theorem take_succ_flat (ps : List (List UInt8)) (k : Nat) (h : k < ps.length) : (ps.take (k + 1)).flatten = (ps.take k).flatten ++ ps[k] := by
  rw [List.take_succ_eq_append_getElem h, List.flatten_append]; simp
theorem take_snoc {α : Type} (l : List α) (k : Nat) (h : k < l.length) : l.take (k + 1) = l.take k ++ [l[k]] := List.take_succ_eq_append_getElem h
theorem flat_prefix (ps : List (List UInt8)) (k j : Nat) (h : k < ps.length) : (ps.take k).flatten ++ ps[k].take j <+: ps.flatten := by
  have e : ps.flatten = (ps.take k).flatten ++ (ps[k] ++ (ps.drop (k + 1)).flatten) := by
    conv => lhs; rw [← List.take_append_drop k ps, List.flatten_append, List.drop_eq_getElem_cons h, List.flatten_cons]
  rw [e]
  exact List.prefix_append_right_inj _ |>.2 ((List.take_prefix _ _).trans (List.prefix_append _ _))

set_option maxRecDepth 100000 in
set_option maxHeartbeats 2000000 in
theorem all1_in (F : Fence) (n : Nat) (hF : F.fn 56) (hro : F.round = none) (hn : 1 ≤ n) (l Bs : Nat) (ps : List (List UInt8)) (v : Value) (w₀ : World) (hP : VParts ps v w₀) (J Jx : List UInt8 → World → Prop)
    (hY : ∀ pre x W, J pre W → pre.length < ps.flatten.length → YieldAt F (n - 1) Try.prog l #[.int .u8 (x.toNat : Int)] W fun e W' =>
      (e = .returned (.bool true) ∧ J (pre ++ [x]) W' ∧ Below w₀.heap.size W W') ∨ (e = .returned (.bool false) ∧ Jx (pre ++ [x]) W'))
    (W : World) (hW : Ext w₀ W) (hBs : W.cell? ⟨Bs, 0, none⟩ = some v) (h0 : J [] W) :
    CallsIn F n Try.prog 56 #[.func (.yield l) #[] #[], .pointer (some ⟨Bs, 0, none⟩)] W fun e W' => (∃ v, e = .returned v) ∧
      ((∃ ys, ys = ps.flatten ∧ J ys W') ∨ (∃ pre, pre <+: ps.flatten ∧ Jx pre W')) := by
  obtain ⟨A, c, rfl, hc1, hc2, hx⟩ := VParts.form hP
  clear hP
  unfold maxLen at hc2
  refine callsIn_of_wp Try.func56 rfl hF ?_ hro
  simp only [Try.ntmps56, List.size_toArray, List.length_cons, List.length_nil, Nat.reduceAdd, Nat.reduceSub, Array.replicate_succ, Array.replicate_zero, List.push_toArray, List.append_toArray, List.nil_append, List.cons_append]
  gi_wp2
  gi_loopw [9] (fun i wr => ∃ k : Nat, k ≤ ps.length ∧ i = .int .i64 k ∧ J (ps.take k).flatten wr ∧ Below w₀.heap.size W wr)
    (fun i _ => ps.length - (intOf i).toNat)
  case atStart => exact ⟨0, Nat.zero_le _, rfl, by simpa using h0, Below.refl _ _⟩
  case round =>
    obtain ⟨k, hk, rfl, hJs, hnx⟩ := hrel
    by_cases hlt : k < ps.length
    · obtain ⟨b, off, rfl, hb, hcell⟩ := hx (by omega)
      obtain ⟨x, hx1, hx2⟩ := hcell k hlt
      obtain ⟨A2, c2, rfl, hd1, hd2, hy2⟩ := VBytes.form hx2
      unfold maxLen at hd2
      have hx3 := ((Below.trans hW hnx).cell (p := ⟨b, off + k, none⟩) hb).trans hx1
      clear hcell hx hx2 hx1
      have hJ2 : J ((ps.take k).flatten ++ ps[k].take 0) wr := by simpa using hJs
      have hpre := fun j => flat_prefix ps k j hlt
      have hfl := take_succ_flat ps k hlt
      clear hJs
      generalize hpk : ps[k] = bs at *
      have Hpre := hide hpre
      have Hfl := hide hfl
      clear hpk hpre hfl
      gi_wp2
      obtain ⟨wo, rfl⟩ : ∃ wo : World, wo = wr := ⟨_, rfl⟩
      gi_loopw [15] (fun i wr => ∃ j : Nat, j ≤ bs.length ∧ i = .int .i64 j ∧ J ((ps.take k).flatten ++ bs.take j) wr ∧ Below w₀.heap.size W wr)
        (fun i _ => bs.length - (intOf i).toNat)
      case atStart => exact ⟨0, Nat.zero_le _, rfl, hJ2, hnx⟩
      case round =>
        obtain ⟨j, hj, rfl, hJs, hnx2⟩ := hrel
        by_cases hjt : j < bs.length
        · obtain ⟨b2, off2, rfl, hb2, hcell2⟩ := hy2 (by omega)
          have hc2 := ((Below.trans hW hnx2).cell (p := ⟨b2, off2 + j, none⟩) hb2).trans (hcell2 j hjt)
          have hts := take_snoc bs j hjt
          have hlen : ((ps.take k).flatten ++ bs.take j).length < ps.flatten.length := by
            have h1 := (Hpre.out (j + 1)).length_le
            rw [hts] at h1
            simp only [List.length_append, List.length_singleton] at h1 ⊢
            omega
          obtain ⟨fn, tmps, assign, body, hy, hR⟩ := hY _ bs[j] wr hJs hlen
          have Hts := hide hts
          clear hts hcell2 hlen hJ2 hx3
          gi_wp2
          refine hR.mono ?_
          rintro e W3 (⟨rfl, hJ3, hk3⟩ | ⟨rfl, hJx3⟩)
          · gi_wp2
            go_roundw
            case rel => exact ⟨j + 1, by omega, by go_num, by rw [Hts.out, ← List.append_assoc]; exact hJ3, hnx2.trans hk3⟩
            case measure => simp [intOf]; omega
          · gi_wp2
            refine bodyPost_ret (results_none rfl _ _ _) rfl ?_
            refine ⟨⟨_, rfl⟩, .inr ⟨_, ?_, hJx3⟩⟩
            have h1 := Hpre.out (j + 1)
            rwa [Hts.out, ← List.append_assoc] at h1
        · obtain rfl : j = bs.length := by omega
          gi_wp2
          go_roundw
          case rel => exact ⟨k + 1, by omega, by go_num, by rw [Hfl.out]; simpa using hJs, hnx2⟩
          case measure => simp [intOf]; omega
    · obtain rfl : k = ps.length := by omega
      gi_wp2
      go_end0
      exact ⟨⟨_, rfl⟩, .inl ⟨_, by simp, hJs⟩⟩

/-- Only block g, and what is new, has turned. -/
theorem only_set {w w1 : World} {g : Nat} (h : w.grownBy w1 (some g)) (i : Nat) (u : Value) : w.grownBy (w1.setCell ⟨g, i, none⟩ u) (some g) :=
  ⟨h.os, h.tape, h.output, by simpa [World.setCell] using h.size, fun k hk hne => (Below.heap_setCell w1 ⟨g, i, none⟩ u k (fun e => hne (by rw [e]))).trans (h.block k hk hne)⟩
theorem only_drew' {w w1 : World} {row : Option Nat} (h : w.grownBy w1 row) : w.grownBy w1.drew row := ⟨h.os, h.tape, h.output, h.size, h.block⟩

set_option maxHeartbeats 1000000 in
theorem come_any (g : Nat) (a b : Int) (c : UInt8) (w : World) (h1 : 0 ≤ a) (h2 : a < 65521) (h3 : 0 ≤ b) (h4 : b < 65521) (hb : Box w g 89 #[.int .i64 a, .int .i64 b]) :
    Calls Try.prog 53 #[.pointer (some ⟨g, 0, none⟩), .int .u8 (c.toNat : Int)] w fun e w' => e = .returned (.tuple #[]) ∧ w.grownBy w' (some g) ∧ Box w' g 89 #[.int .i64 (fstep (a, b) c).1, .int .i64 (fstep (a, b) c).2] := by
  have hc0 := hb.at_ 0 rfl
  have hc1 := hb.at_ 1 rfl
  have hf0 := hb.frozen 0
  have hf1 := hb.frozen 1
  have hc := UInt8.toNat_lt c
  have Hb := hide hb
  clear hb
  generalize hx : (c.toNat : Int) = x at *
  have hx0 : 0 ≤ x := by omega
  have hx1 : x < 256 := by omega
  have Hs : Hid (fstep (a, b) c = ((a + x) % 65521, (b + (a + x) % 65521) % 65521)) := by rw [← hx]; rfl
  clear hx hc
  go_enter Try.func53, Try.ntmps53
  go_wp2
  go_region
  all_goals
    go_end0
    refine ⟨rfl, only_drew' (only_set (only_set (World.grownBy.refl w _) 0 _) 1 _), ?_⟩
    rw [Hs.out]
    have h5 : (b + (a + x)) % 65521 = (b + (a + x) % 65521) % 65521 := by omega
    have := ((Hb.out.set_ 0 (.int .i64 ((a + x) % 65521))).set_ 1 (.int .i64 ((b + (a + x)) % 65521))).drew
    rw [← h5]
    exact this

theorem fpair (s : Int × Int) : s = (s.1, s.2) := rfl
theorem box_own {β : Type} (g : Nat) (t : TypeId) (f : β → Array Value) : Own (fun (s : β) W => Box W g t (f s)) := by
  intro s W W' row h hg hr
  exact (hg.block g h.lt (fun e => by
    obtain ⟨o, ho, hc⟩ := hr g e.symm
    rw [show W.heap[g]? = _ from h] at ho
    cases ho; cases hc)).trans h

theorem all_stops (F : Fence) (n : Nat) (hF : F.fn 56) (hro : F.round = none) (hn : 1 ≤ n) (Bs : Nat) (ps : List (List UInt8)) (v : Value) (w₀ : World) (hP : VParts ps v w₀) (w : World) (hE : Ext w₀ w) (hc : w.cell? ⟨Bs, 0, none⟩ = some v) :
    SeqStopsK F n Try.prog 56 #[.pointer (some ⟨Bs, 0, none⟩)] (fun x : UInt8 => #[Value.int .u8 (x.toNat : Int)]) (Below w₀.heap.size) (fun ys => ys = ps.flatten) (fun pre => pre <+: ps.flatten) ps.flatten.length w := fun l J Jx W hW _ _ hY h0 =>
  all1_in F n hF hro hn l Bs ps v w₀ hP J Jx hY W (hE.tr hW) ((hW.cell (World.block_lt_of_cell? w _ hc)).trans hc) h0

/-- all: the iterator over the bytes of the parts, as a value. -/
theorem all_any (A : Option Addr) (n c : Nat) (w : World) : Calls Try.prog 52 #[.slice A n c] w fun e w' => e = .returned (.func (.func 56) #[] #[.pointer (some ⟨w.heap.size, 0, none⟩)]) ∧ w' = w.alloc (.cells #[.slice A n c] 22) := by
  go_enter Try.func52, Try.ntmps52
  go_wp2
  go_ret
  exact ⟨rfl, rfl⟩

set_option maxRecDepth 100000 in
set_option maxHeartbeats 2000000 in
theorem feed_yes (a b : Int) (ps : List (List UInt8)) (v : Value) (w : World) (hr : rightB a b = true) (hP : VParts ps v w) :
    Calls Try.prog 42 #[.agg #[.int .i64 a, .int .i64 b], v] w (Ret w (VEq (pairV (feedL (a, b) ps.flatten)))) := by
  obtain ⟨A, c, rfl, _⟩ := id hP
  rw [List.length_map] at hP ⊢
  refine (callsIn_wide (n := 9)).1 ?_
  have h1 : 1 ≤ 9 := by omega
  refine callsIn_of_wp_marks Try.func42 rfl trivial ?_ rfl
  simp only [Try.ntmps42, List.size_toArray, List.length_cons, List.length_nil, Nat.reduceAdd, Nat.reduceSub, Array.replicate_succ, Array.replicate_zero, List.push_toArray, List.append_toArray, List.nil_append, List.cons_append]
  gi_wp2_with (first
    | (refine ⟨trivial, ?_⟩; gi_at_call 51; refine (callsIn_wide.2 (right_any _ _ _)).mono ?_; rintro e w1 ⟨u, rfl, hE1, rfl⟩; obtain ⟨hc1, hf1⟩ := hE1.rules)
    | (refine ⟨trivial, ?_⟩; gi_at_call 52; refine (callsIn_wide.2 (all_any _ _ _ _)).mono ?_; rintro e w2 ⟨rfl, rfl⟩))
  clear hc1 hf1
  have hbz := (Box.new (w.alloc (.cells #[.int .i64 a, .int .i64 b] 64)) 64 #[.int .i64 0, .int .i64 0]).ext hE1
  rw [World.size_alloc] at hbz
  have hE2 : Ext w w1 := ((ext_alloc _ _).tr (ext_alloc _ _)).tr hE1
  have hsz := hE2.size
  have hsz1 := hE1.size
  simp only [World.size_alloc] at hsz1
  obtain ⟨W0, hW0⟩ : ∃ W0, (w1.alloc (.cells #[.int .i64 a, .int .i64 b] 89)).alloc (.cells #[.slice A ps.length c] 22) = W0 := ⟨_, rfl⟩
  have hs0 : W0.heap.size = w1.heap.size + 2 := by rw [← hW0]; simp
  have hE3 : Ext w1 W0 := by rw [← hW0]; exact (ext_alloc _ _).tr (ext_alloc _ _)
  have hbr : Box W0 w1.heap.size 89 #[.int .i64 a, .int .i64 b] := by rw [← hW0]; exact (Box.new _ _ _).alloc _
  have hbp : Box W0 (w1.heap.size + 1) 22 #[.slice A ps.length c] := by rw [← hW0]; have := Box.new (w1.alloc (.cells #[.int .i64 a, .int .i64 b] 89)) 22 #[.slice A ps.length c]; rwa [World.size_alloc] at this
  rw [hW0]
  have Hr := hide hr
  clear hr
  refine wpIn_rangeFunc_ownF (F := Fence.wide) rfl h1 (gf := 56) (lb := #[.pointer (some ⟨w1.heap.size + 1, 0, none⟩)]) rfl trivial (enters_of Try.func56 (by kernel_rfl) rfl)
    (all_stops Fence.wide 8 trivial rfl (by omega) (w1.heap.size + 1) ps _ w hP W0 (hE2.tr hE3) (hbp.at_ 0 rfl)) belowK_t (belowK_b (by omega)) (Below.refl _ _) (fun _ => rfl)
    (fun pre W => (Box W w1.heap.size 89 #[.int .i64 (feedL (a, b) pre).1, .int .i64 (feedL (a, b) pre).2] ∧ Box W (w.heap.size + 1) 64 #[.int .i64 0, .int .i64 0]) ∧ Below w.heap.size w W)
    (fun _ _ _ => False)
    (OwnFrom.and (Own.from (fun s X Y row hs hg hr => ⟨box_own _ _ (fun pre => #[.int .i64 (feedL (a, b) pre).1, .int .i64 (feedL (a, b) pre).2]) s X Y row hs.1 hg hr, box_own _ _ (fun _ => #[.int .i64 0, .int .i64 0]) s X Y row hs.2 hg hr⟩) _) (ownFrom_below (Nat.le_refl _) (by omega)))
    (fun _ _ _ _ _ hs _ _ => hs)
    ⟨⟨hbr, hbz.ext hE3⟩, hE2.tr hE3⟩
    (fun x => { tmps := #[.agg #[.int .i64 a, .int .i64 b], .slice A ps.length c, .pointer (some ⟨w.heap.size, 0, none⟩), undef, .pointer (some ⟨w.heap.size + 1, 0, none⟩), .pointer (some ⟨w1.heap.size, 0, none⟩), .int .u8 (x.toNat : Int),
      .agg #[.int .i64 a, .int .i64 b], .bool true, .bool false, undef, .agg #[.int .i64 a, .int .i64 b], .agg #[.int .i64 a, .int .i64 b], .slice A ps.length c, .func (.func 56) #[] #[.pointer (some ⟨w1.heap.size + 1, 0, none⟩)], .int .u8 (x.toNat : Int), undef, undef, undef, undef], defers := [] }) ?assign ?body ?done ?stop
  case assign =>
    intro l x W K hK
    gi_wp2
    exact hK
  case body =>
    rintro l pre x W ⟨⟨hb1, hb2⟩, hB⟩ _
    obtain ⟨p1, p2, p3, p4⟩ := feedL_right (a, b) Hr.out pre
    gi_wp2_with (refine ⟨trivial, ?_⟩; gi_at_call 53; refine (CallsIn.inRound l (callsIn_wide.2 (come_any _ _ _ _ _ p1 p2 p3 p4 hb1))).mono ?_; rintro e w2 ⟨rfl, hg2, hb3⟩)
    have hlt : w1.heap.size < W.heap.size := hb1.lt
    refine ⟨KeepsOthers.of_grownBy hg2 (fun j o e ho => ?_), (Below.refl w.heap.size W).grown hg2 hB.size (fun k e => by cases e; exact hsz), ⟨⟨?_, ?_⟩, hB.grown hg2 hB.size (fun k e => by cases e; exact hsz)⟩⟩
    · cases e
      rw [show W.heap[w1.heap.size]? = _ from hb1] at ho
      cases ho; rfl
    · rw [feedL_snoc]; exact hb3
    · exact (hg2.block _ hb2.lt (by simp; omega)).trans hb2
  case done =>
    rintro D ys W hD rfl ⟨⟨hb1, hb2⟩, hB⟩ hK
    have hc0 := hb1.at_ 0 rfl
    have hc1 := hb1.at_ 1 rfl
    have hz0 := hb2.at_ 0 rfl
    have hz1 := hb2.at_ 1 rfl
    have hy0 := hb2.frozen 0
    have hy1 := hb2.frozen 1
    gi_wp2
    have hb3 := (hb2.set_ 0 (.int .i64 (feedL (a, b) ps.flatten).1)).set_ 1 (.int .i64 (feedL (a, b) ps.flatten).2)
    have hB3 := (hB.setCell (p := ⟨w.heap.size + 1, 0, none⟩) (by simp) (.int .i64 (feedL (a, b) ps.flatten).1)).setCell (p := ⟨w.heap.size + 1, 1, none⟩) (by simp) (.int .i64 (feedL (a, b) ps.flatten).2)
    have hK' := ((KeepsOthers.setCell W ⟨w.heap.size + 1, 0, none⟩ (.int .i64 (feedL (a, b) ps.flatten).1)).trans (KeepsOthers.setCell _ ⟨w.heap.size + 1, 1, none⟩ (.int .i64 (feedL (a, b) ps.flatten).2))).same D _ hK rfl
    refine ⟨by simp, .inl ⟨_, _, rfl, run_takeDeferred hK', ?_⟩⟩
    refine ⟨_, results_cell_row rfl _ _ (w.heap.size + 1) 64 #[.int .i64 (feedL (a, b) ps.flatten).1, .int .i64 (feedL (a, b) ps.flatten).2] (0, 0) _ rfl ?_ Try.underlying64 rfl (by kernel_rfl), ?_⟩
    · exact (World.putObj_heap_other (by omega)).trans hb3
    · exact Ret.mk (hB3.trans (belowK_b (w := w) (Nat.le_refl _) _ D _ _ (by omega) hK' rfl rfl)) rfl
  case stop =>
    rintro D c pre W _ _ h _
    exact h.elim
end Go.Proofs.Ytggjkhldknppkaa.Sm
