/- Right, Next, may, length, come. -/
import Derived.Test.YtdaghnnmbilgfaaLinMath
import Derived.Test.YtdaghnnmbilgfaaB
import Derived.Test.YtdaghnnmbilgfaaProg
import Derived.WalkSpells
import Derived.WalkLawsBesides
import Derived.Deep.Cut
namespace Go.Proofs.Ytdaghnnmbilgfaa
open Go.RowKit LinM
def cntV (c : Cnt) : Value := .agg #[.int .i64 c.1, .int .i64 c.2.1, .int .i64 c.2.2]
def plcV (p : Int × Int) : Value := .agg #[.int .i64 p.1, .int .i64 p.2]
set_option maxHeartbeats 1000000 in
theorem right_any (c : Cnt) (w : World) : Calls Try.prog 10 #[cntV c] w (Ret w (VEq (.bool (rightC c)))) := by
  obtain ⟨a, l, s⟩ := c
  unfold rightC cntV
  dsimp only
  go_enter Try.func10, Try.ntmps10
  by_cases h1 : a < 0
  · rw [if_pos (.inl h1)]
    go_wp2
    go_ret
    exact Ret.mk (ext_alloc _ _) rfl
  by_cases h2 : 2147483647 < a
  · rw [if_pos (.inr h2)]
    go_wp2
    go_ret
    exact Ret.mk (ext_alloc _ _) rfl
  rw [if_neg (by omega)]
  by_cases h3 : l = 0
  · rw [if_pos h3]
    subst h3
    go_wp2
    go_ret
    exact Ret.mk (ext_alloc _ _) (congrArg Value.bool (by rw [Bool.eq_iff_iff]; simp))
  rw [if_neg h3]
  have h3' : (l == 0) = false := by rw [beq_eq_false_iff_ne]; exact h3
  by_cases h4 : 1 ≤ l
  · by_cases h5 : l ≤ a
    · by_cases h6 : 0 ≤ s
      · rw [decide_eq_true h4, decide_eq_true h5, decide_eq_true h6]
        clear h3
        go_wp2
        go_ret
        exact Ret.mk (ext_alloc _ _) rfl
      · rw [decide_eq_true h4, decide_eq_true h5, decide_eq_false h6, Bool.and_false, Bool.false_and]
        clear h3
        go_wp2
        go_ret
        exact Ret.mk (ext_alloc _ _) rfl
    · rw [decide_eq_false h5, Bool.and_false, Bool.false_and, Bool.false_and]
      clear h3
      go_wp2
      go_ret
      exact Ret.mk (ext_alloc _ _) rfl
  · rw [decide_eq_false h4, Bool.false_and, Bool.false_and, Bool.false_and]
    clear h3
    go_wp2
    go_ret
    exact Ret.mk (ext_alloc _ _) rfl
set_option maxHeartbeats 1000000 in
theorem next_any (c : Cnt) (w : World) : Calls Try.prog 8 #[cntV c] w (Ret w (VEq (plcV (nextC c)))) := by
  have hr := right_any c
  have hri := rightC_iff c
  have hno : rightC c = false → (nextC c).1 = 0 ∧ (nextC c).2 = 0 := fun h => by unfold nextC; rw [h]; exact ⟨rfl, rfl⟩
  have hyes : rightC c = true → (nextC c).1 = c.2.1 + 1 ∧ (nextC c).2 = c.2.2 + 1 := fun h => by unfold nextC; rw [h]; exact ⟨rfl, rfl⟩
  unfold plcV
  generalize (nextC c).1 = x at *
  generalize (nextC c).2 = y at *
  generalize rightC c = r at *
  obtain ⟨a, l, s⟩ := c
  unfold cntV at *
  dsimp only at *
  have Hi := hide hri
  have Hno := hide hno
  have Hyes := hide hyes
  clear hri hno hyes
  go_enter Try.func8, Try.ntmps8
  go_wp2_with fail
  refine (hr _).mono ?_
  rintro e w1 ⟨v, rfl, hE1, rfl⟩
  have hE : Ext w w1 := ((ext_alloc _ _).tr (ext_alloc _ _)).tr hE1
  have hb1 := ((Box.new w 25 #[.int .i64 a, .int .i64 l, .int .i64 s]).alloc (.cells #[.int .i64 0, .int .i64 0] 27)).ext hE1
  have hb2 := (Box.new (w.alloc (.cells #[.int .i64 a, .int .i64 l, .int .i64 s] 25)) 27 #[.int .i64 0, .int .i64 0]).ext hE1
  rw [World.size_alloc] at hb2
  have hc1 := hb1.at_ 1 rfl
  have hc2 := hb1.at_ 2 rfl
  have hd0 := hb2.at_ 0 rfl
  have hd1 := hb2.at_ 1 rfl
  have hf0 := hb2.frozen 0
  have hf1 := hb2.frozen 1
  have hX := fun u v => (hE.setCell (p := ⟨w.heap.size + 1, 0, none⟩) (by simp) u).setCell (p := ⟨w.heap.size + 1, 1, none⟩) (by simp) v
  have hb3 := fun u v => (hb2.set_ 0 u).set_ 1 v
  have HX := hide hX
  have HB := hide hb3
  clear hb1 hX hb3 hE1 hE
  cases r
  · obtain ⟨rfl, rfl⟩ := Hno.out rfl
    clear Hi Hno Hyes
    go_wp2
    exact bodyPost_ret (results_cell_row rfl _ _ (w.heap.size + 1) 27 #[.int .i64 0, .int .i64 0] (0, 0) _ rfl (HB.out _ _) Try.underlying27 rfl (by kernel_rfl)) rfl (Ret.mk (HX.out _ _) rfl)
  · have hh := Hi.out.1 rfl
    obtain ⟨rfl, rfl⟩ := Hyes.out rfl
    have h1 : -9223372036854775808 ≤ l + 1 ∧ l + 1 ≤ 9223372036854775807 := by omega
    have h2 : -9223372036854775808 ≤ s + 1 ∧ s + 1 ≤ 9223372036854775807 := by omega
    clear hh Hi Hno Hyes
    go_wp2
    exact bodyPost_ret (results_cell_row rfl _ _ (w.heap.size + 1) 27 #[.int .i64 (l + 1), .int .i64 (s + 1)] (0, 0) _ rfl (HB.out _ _) Try.underlying27 rfl (by kernel_rfl)) rfl (Ret.mk (HX.out _ _) rfl)
set_option maxHeartbeats 1000000 in
theorem may_any (n : Int) (w : World) : Calls Try.prog 23 #[.int .i64 n] w (Ret w (VEq (.bool (decide (0 ≤ n) && decide (n ≤ 4611686018427387904))))) := by
  by_cases h1 : 0 ≤ n
  · by_cases h2 : n ≤ 4611686018427387904
    · rw [decide_eq_true h1, decide_eq_true h2]
      go_enter Try.func23, Try.ntmps23
      go_wp2
      go_ret
      exact Ret.mk (Ext.rf _) rfl
    · rw [decide_eq_true h1, decide_eq_false h2]
      go_enter Try.func23, Try.ntmps23
      go_wp2
      go_ret
      exact Ret.mk (Ext.rf _) rfl
  · rw [decide_eq_false h1, Bool.false_and]
    go_enter Try.func23, Try.ntmps23
    go_wp2
    go_ret
    exact Ret.mk (Ext.rf _) rfl
theorem only_set {w w1 : World} {g : Nat} (h : w.grownBy w1 (some g)) (i : Nat) (u : Value) : w.grownBy (w1.setCell ⟨g, i, none⟩ u) (some g) :=
  ⟨h.os, h.tape, h.output, by simpa [World.setCell] using h.size, fun k hk hne => (Below.heap_setCell w1 ⟨g, i, none⟩ u k (fun e => hne (by rw [e]))).trans (h.block k hk hne)⟩
theorem only_drew' {w w1 : World} {row : Option Nat} (h : w.grownBy w1 row) : w.grownBy w1.drew row := ⟨h.os, h.tape, h.output, h.size, h.block⟩
def cntA (c : Cnt) : Array Value := #[.int .i64 c.1, .int .i64 c.2.1, .int .i64 c.2.2]
set_option maxHeartbeats 1000000 in
theorem come_any (g : Nat) (c : Cnt) (b : UInt8) (w : World) (h1 : c.1 ≤ 4000000000) (h2 : -4000000000 ≤ c.1) (h3 : c.2.1 ≤ 4000000000) (h4 : -4000000000 ≤ c.2.1) (h5 : c.2.2 ≤ 4000000000) (h6 : -4000000000 ≤ c.2.2) (hb : Box w g 52 (cntA c)) :
    Calls Try.prog 18 #[.pointer (some ⟨g, 0, none⟩), .int .u8 (b.toNat : Int)] w fun e w' => e = .returned (.tuple #[]) ∧ w.grownBy w' (some g) ∧ Box w' g 52 (cntA (stepC c b)) := by
  obtain ⟨a, l, s⟩ := c
  have hs : stepC (a, l, s) b = if (b.toNat : Int) = 10 then (a + 1, l + 1, 0) else (a + 1, l, s + 1) := by
    unfold stepC
    by_cases h : b.toNat = 10
    · rw [if_pos h, if_pos (by omega)]
    · rw [if_neg h, if_neg (by omega)]
  rw [hs]
  unfold cntA at *
  dsimp only at *
  have hc0 := hb.at_ 0 rfl
  have hc1 := hb.at_ 1 rfl
  have hc2 := hb.at_ 2 rfl
  have hf0 := hb.frozen 0
  have hf1 := hb.frozen 1
  have hf2 := hb.frozen 2
  have Hb := hide hb
  clear hb hs
  generalize (b.toNat : Int) = x at *
  by_cases hx : x = 10
  · subst hx
    rw [if_pos rfl]
    go_enter Try.func18, Try.ntmps18
    go_wp2
    go_end0
    refine ⟨rfl, only_set (only_set (only_set (only_set (World.grownBy.refl w _) 0 _) 2 _) 1 _) 2 _, ?_⟩
    exact (((Hb.out.set_ 0 (.int .i64 (a + 1))).set_ 2 (.int .i64 (s + 1))).set_ 1 (.int .i64 (l + 1))).set_ 2 (.int .i64 0)
  · have hx' : (x == 10) = false := by rw [beq_eq_false_iff_ne]; exact hx
    rw [if_neg hx]
    clear hx
    go_enter Try.func18, Try.ntmps18
    go_wp2
    go_end0
    refine ⟨rfl, only_set (only_set (World.grownBy.refl w _) 0 _) 2 _, ?_⟩
    exact (Hb.out.set_ 0 (.int .i64 (a + 1))).set_ 2 (.int .i64 (s + 1))
end Go.Proofs.Ytdaghnnmbilgfaa
