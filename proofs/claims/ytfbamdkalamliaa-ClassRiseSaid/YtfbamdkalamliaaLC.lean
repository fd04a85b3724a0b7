/- Same, which ranges over the bytes of both texts. -/
import Derived.Test.YtfbamdkalamliaaLB
import Derived.Laws.EntriesVeiled
namespace Go.Proofs.Ytfbamdkalamliaa
open Go.RowKit Go.Shelf LetM
attribute [local go_sem] Oper.semAt_some

/-- The pairs so far are alike. -/
def alikeB (fold : Bool) (l : List (UInt8 × UInt8)) : Bool := l.all fun p => eqC fold p.1 p.2
theorem sameB_zip (fold : Bool) : ∀ (xs ys : List UInt8), xs.length = ys.length → sameB fold xs ys = alikeB fold (xs.zip ys)
  | [], [], _ => sameB_nil fold
  | [], y :: ys, h => by simp at h
  | x :: xs, [], h => by simp at h
  | x :: xs, y :: ys, h => by
    rw [sameB_cons, sameB_zip fold xs ys (by simpa using h)]
    rfl
theorem alike_prefix {fold : Bool} {pre l : List (UInt8 × UInt8)} (h : pre <+: l) (hp : alikeB fold pre = false) : alikeB fold l = false := by
  obtain ⟨t, rfl⟩ := h
  unfold alikeB at hp ⊢
  rw [List.all_append, hp, Bool.false_and]
theorem alike_snoc (fold : Bool) (l : List (UInt8 × UInt8)) (p : UInt8 × UInt8) : alikeB fold (l ++ [p]) = (alikeB fold l && eqC fold p.1 p.2) := by
  unfold alikeB; simp

theorem box_own {β : Type} (g : Nat) (t : TypeId) (f : β → Array Value) : Own (fun (s : β) W => Box W g t (f s)) := by
  intro s W W' row h hg hr
  exact (hg.block g h.lt (fun e => by
    obtain ⟨o, ho, hc⟩ := hr g e.symm
    rw [show W.heap[g]? = _ from h] at ho
    cases ho; cases hc)).trans h
set_option maxHeartbeats 1000000 in
theorem same_short (fold : Bool) (xs ys : List UInt8) (u v : Value) (w : World) (hx : VBytes xs u w) (hy : VBytes ys v w) (hne : xs.length ≠ ys.length) : Calls Try.prog 59 #[.bool fold, u, v] w (Ret w (VEq (.bool false))) := by
  obtain ⟨A, c, rfl, hc1, hc2, -⟩ := VBytes.form hx
  obtain ⟨B, d, rfl, hd1, hd2, -⟩ := VBytes.form hy
  have e : ((xs.length : Int) == (ys.length : Int)) = false := by rw [beq_eq_false_iff_ne]; omega
  go_enter Try.func59, Try.ntmps59
  go_wp2
  have hc := (Box.new w 4 #[.bool false]).at_ 0 rfl
  exact bodyPost_ret (v := .bool false) (by simp [results, Try.results59, go_sem, hc]) rfl (Ret.mk (ext_alloc _ _) rfl)

set_option maxRecDepth 100000 in
set_option maxHeartbeats 2000000 in
theorem same_long (fold : Bool) (xs ys : List UInt8) (u v : Value) (w : World) (hx : VBytes xs u w) (hy : VBytes ys v w) (hl : xs.length = ys.length) : Calls Try.prog 59 #[.bool fold, u, v] w (Ret w (VEq (.bool (alikeB fold (xs.zip ys))))) := by
  obtain ⟨A, c, rfl, hc1, hc2, -⟩ := VBytes.form hx
  obtain ⟨B, d, rfl, hd1, hd2, -⟩ := VBytes.form hy
  have en : ((xs.length : Int) != (ys.length : Int)) = false := by rw [hl]; simp
  refine (callsIn_wide (n := 9)).1 ?_
  have h1 : 1 ≤ 9 := by omega
  refine callsIn_of_wp_marks Try.func59 rfl trivial ?_ rfl
  simp only [Try.ntmps59, List.size_toArray, List.length_cons, List.length_nil, Nat.reduceAdd, Nat.reduceSub, Array.replicate_succ, Array.replicate_zero, List.push_toArray, List.append_toArray, List.nil_append, List.cons_append]
  gi_wp2_with (first
    | (refine ⟨trivial, ?_⟩; gi_at_call 62; refine (callsIn_wide.2 (by_any fold _)).mono ?_; rintro e w1 ⟨u, rfl, hE1, rfl⟩; obtain ⟨hc3, hf3⟩ := hE1.rules; unfold byV)
    | (refine ⟨trivial, ?_⟩; gi_at_call 63; refine (callsIn_wide.2 (pairs_any _ _ _ _ _ _ _)).mono ?_; rintro e w2 ⟨rfl, rfl⟩))
  clear hc3 hf3
  have hbr := (Box.new w 4 #[.bool false]).ext hE1
  have hE2 : Ext w w1 := (ext_alloc _ _).tr hE1
  have hsz := hE2.size
  have hsz1 := hE1.size
  simp only [World.size_alloc] at hsz1
  obtain ⟨fv, hfv⟩ : ∃ fv, fv = Value.func (.func (byF fold)) #[.agg #[]] #[] := ⟨_, rfl⟩
  rw [← hfv]
  obtain ⟨W0, hW0⟩ : ∃ W0, ((w1.alloc (.cells #[fv] 97)).alloc (.cells #[.slice A ys.length c] 26)).alloc (.cells #[.slice B ys.length d] 26) = W0 := ⟨_, rfl⟩
  have hs0 : W0.heap.size = w1.heap.size + 3 := by rw [← hW0]; simp
  have hE3 : Ext w1 W0 := by rw [← hW0]; exact ((ext_alloc _ _).tr (ext_alloc _ _)).tr (ext_alloc _ _)
  have hbf : Box W0 w1.heap.size 97 #[fv] := by rw [← hW0]; exact ((Box.new _ _ _).alloc _).alloc _
  have hba : Box W0 (w1.heap.size + 1) 26 #[.slice A ys.length c] := by
    rw [← hW0]
    have := (Box.new (w1.alloc (.cells #[fv] 97)) 26 #[.slice A ys.length c]).alloc (.cells #[.slice B ys.length d] 26)
    rwa [World.size_alloc] at this
  have hbb : Box W0 (w1.heap.size + 1 + 1) 26 #[.slice B ys.length d] := by
    rw [← hW0]
    have := Box.new ((w1.alloc (.cells #[fv] 97)).alloc (.cells #[.slice A ys.length c] 26)) 26 #[.slice B ys.length d]
    rwa [World.size_alloc, World.size_alloc] at this
  rw [hW0]
  have hx0 := VP.st _ _ _ _ hx (hE2.tr hE3)
  have hy0 := VP.st _ _ _ _ hy (hE2.tr hE3)
  rw [hl] at hx0
  have hbr0 := hbr.ext hE3
  refine wpIn_rangeFunc_ownF (F := Fence.wide) rfl h1 (gf := 67) (lb := #[.pointer (some ⟨w1.heap.size + 1, 0, none⟩), .pointer (some ⟨w1.heap.size + 1 + 1, 0, none⟩)]) rfl trivial (enters_of Try.func67 (by kernel_rfl) rfl)
    (pairs_stops Fence.wide 8 trivial rfl (by omega) (w1.heap.size + 1) (w1.heap.size + 1 + 1) xs ys hl _ _ W0 hx0 hy0 (hba.at_ 0 rfl) (hbb.at_ 0 rfl)) belowK_t (belowK_b (Nat.le_refl _)) (Below.refl _ _) (fun _ => rfl)
    (fun pre W => ((Box W w1.heap.size 97 #[fv] ∧ Box W w.heap.size 4 #[.bool false] ∧ W0.heap.size ≤ W.heap.size) ∧ alikeB fold pre = true) ∧ Below w.heap.size w W)
    (fun c pre W => (Box W w.heap.size 4 #[.bool false] ∧ c = .ret ∧ alikeB fold pre = false) ∧ Below w.heap.size w W)
    (OwnFrom.and (Own.from (fun s X Y row hs hg hr => ⟨⟨box_own _ _ (fun _ => #[fv]) s X Y row hs.1.1 hg hr, box_own _ _ (fun _ => #[.bool false]) s X Y row hs.1.2.1 hg hr, Nat.le_trans hs.1.2.2 hg.size⟩, hs.2⟩) _) (ownFrom_below (Nat.le_refl _) (by omega)))
    (fun c => OwnFrom.and (Own.from (fun s X Y row hs hg hr => ⟨box_own _ _ (fun _ => #[.bool false]) s X Y row hs.1 hg hr, hs.2⟩) _) (ownFrom_below (Nat.le_refl _) (by omega)))
    ⟨⟨⟨hbf, hbr0, Nat.le_refl _⟩, rfl⟩, hE2.tr hE3⟩
    (fun p => { tmps := #[.bool fold, .slice A ys.length c, .slice B ys.length d, undef, undef, undef, .pointer (some ⟨w.heap.size, 0, none⟩), .pointer (some ⟨w1.heap.size, 0, none⟩), .int .u8 (p.1.toNat : Int), .int .u8 (p.2.toNat : Int),
      .slice A ys.length c, .int .i64 ys.length, .slice B ys.length d, .int .i64 ys.length, .bool false, .bool fold, fv, .slice A ys.length c, .slice B ys.length d,
      .func (.func 67) #[] #[.pointer (some ⟨w1.heap.size + 1, 0, none⟩), .pointer (some ⟨w1.heap.size + 1 + 1, 0, none⟩)], .int .u8 (p.1.toNat : Int), .int .u8 (p.2.toNat : Int), undef, undef, undef, undef, undef], defers := [] }) ?assign ?body ?done ?stop
  case assign =>
    intro l x W K hK
    gi_wp2
    subst hfv
    exact hK
  case body =>
    rintro l pre x W ⟨⟨⟨hb1, hb2, hsW⟩, hal⟩, hB⟩ _
    have hc1 := hb1.at_ 0 rfl
    subst hfv
    have hent := byF_enters fold
    gi_wp2
    refine ⟨trivial, (CallsIn.inRound l (callsIn_wide.2 (cmp_any fold x.1 x.2 W))).mono ?_⟩
    rintro e w2 ⟨v, rfl, hE4, rfl⟩
    have hg : W.grownBy w2 none := ⟨hE4.os, hE4.tape, hE4.output, hE4.size, fun k hk _ => hE4.block k hk⟩
    have hk4 := KeepsOthers.of_grownBy hg (fun j o e _ => by cases e)
    have hb1 := hb1.ext hE4
    have hb2 := hb2.ext hE4
    have hB := hB.trans (hE4.mono hB.size)
    have hal2 := alike_snoc fold pre x
    rw [hal, Bool.true_and] at hal2
    have hf1 := hb2.frozen 0
    cases hq : eqC fold x.1 x.2
    · rw [hq] at hal2
      have hc2 := hb2.at_ 0 rfl
      gi_wp2
      exact ⟨hk4.trans (KeepsOthers.setCell _ _ _), ⟨hb2.set_ 0 (.bool false), rfl, hal2⟩, hB.setCell (p := ⟨w.heap.size, 0, none⟩) (Nat.le_refl _) _⟩
    · rw [hq] at hal2
      gi_wp2
      exact ⟨hk4, hE4.mono hsW, ⟨⟨hb1, hb2, Nat.le_trans hsW hE4.size⟩, hal2⟩, hB⟩
  case done =>
    rintro D zs W hD rfl ⟨⟨⟨hb1, hb2, hsW⟩, hal⟩, hB⟩ hK
    have hc0 := hb2.at_ 0 rfl
    have hf1 := hb2.frozen 0
    gi_wp2
    have hK' := (KeepsOthers.setCell W ⟨w.heap.size, 0, none⟩ (.bool true)).same D _ hK rfl
    refine ⟨by simp, .inl ⟨_, _, rfl, run_takeDeferred hK', ?_⟩⟩
    have hne : w.heap.size ≠ D := by omega
    have hc3 : ∀ o : Obj, ((W.setCell ⟨w.heap.size, 0, none⟩ (.bool true)).putObj D o).cell? ⟨w.heap.size, 0, none⟩ = some (Value.bool true) := fun o => Box.at_ ((World.putObj_heap_other (by first | exact hne | exact hne.symm)).trans (hb2.set_ 0 (.bool true))) 0 rfl
    refine ⟨.bool true, by simp [results, Try.results59, go_sem, hc3], ?_⟩
    exact Ret.mk ((hB.setCell (p := ⟨w.heap.size, 0, none⟩) (Nat.le_refl _) _).trans (belowK_b (w := w) (Nat.le_refl _) _ D _ _ (by omega) hK' rfl rfl)) (congrArg Value.bool hal.symm)
  case stop =>
    rintro D c pre W hD hpre ⟨⟨hb2, rfl, hal⟩, hB⟩ hK
    gi_wp2
    refine ⟨by simp, .inl ⟨_, _, rfl, run_takeDeferred hK, ?_⟩⟩
    have hne : w.heap.size ≠ D := by omega
    have hc3 : ∀ o : Obj, (W.putObj D o).cell? ⟨w.heap.size, 0, none⟩ = some (Value.bool false) := fun o => Box.at_ ((World.putObj_heap_other (by first | exact hne | exact hne.symm)).trans hb2) 0 rfl
    refine ⟨.bool false, by simp [results, Try.results59, go_sem, hc3], ?_⟩
    exact Ret.mk (hB.trans (belowK_b (w := w) (Nat.le_refl _) _ D _ _ (by omega) hK rfl rfl)) (congrArg Value.bool (alike_prefix hpre hal).symm)

theorem same_any (fold : Bool) (xs ys : List UInt8) (u v : Value) (w : World) (hx : VBytes xs u w) (hy : VBytes ys v w) : Calls Try.prog 59 #[.bool fold, u, v] w (Ret w (VEq (.bool (sameB fold xs ys)))) := by
  by_cases hl : xs.length = ys.length
  · rw [sameB_zip fold xs ys hl]; exact same_long fold xs ys u v w hx hy hl
  · rw [show sameB fold xs ys = false by
      cases h : sameB fold xs ys with
      | false => rfl
      | true => exact absurd (sameB_length h) hl]
    exact same_short fold xs ys u v w hx hy hl
end Go.Proofs.Ytfbamdkalamliaa
