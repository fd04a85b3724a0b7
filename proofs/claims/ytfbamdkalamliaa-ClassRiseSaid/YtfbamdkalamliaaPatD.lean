/- patset's counting of a list's words. -/
import Derived.Test.YtfbamdkalamliaaPatC
namespace Go.Proofs.Ytfbamdkalamliaa
open Go.RowKit Go.Shelf LetM SetM
/-- How much there is of a list's words: how many, their bytes, the longest, the shortest. -/
structure Cts where
  a : Nat
  b : Nat
  l : Nat
  s : Nat
def Cts.put (c : Cts) (n : Nat) : Cts := ⟨c.a + 1, c.b + n, max c.l n, if c.a = 0 ∨ n < c.s then n else c.s⟩
def ctsA (c : Cts) (fv sv : Value) : Array Value := #[.int .i64 (c.a : Int), .int .i64 (c.b : Int), .int .i64 (c.l : Int), .int .i64 (c.s : Int), fv, sv]
theorem gset {w w' : World} {g : Nat} (h : w.grownBy w' (some g)) (o : Nat) (v : Value) : w.grownBy (w'.setCell ⟨g, o, none⟩ v) (some g) :=
  ⟨h.os, h.tape, h.output, by simpa using h.size, fun k hk hne => (Below.heap_setCell w' ⟨g, o, none⟩ v k (fun e => hne (by rw [e]))).trans (h.block k hk hne)⟩
set_option maxRecDepth 100000 in
set_option maxHeartbeats 4000000 in
theorem count_any (c : Cts) (g : Nat) (fv sv : Value) (A : Option Addr) (n d : Nat) (w : World) (hb : Box w g 81 (ctsA c fv sv)) (ha : c.a ≤ 1000000) (hbb : c.b ≤ 1000000) (hl : c.l ≤ 1000000) (hs : c.s ≤ 1000000) (hn : n ≤ 1000000) :
    Calls Try.prog 48 #[.pointer (some ⟨g, 0, none⟩), .slice A n d] w (fun e w' => e = .returned (.tuple #[]) ∧ w.grownBy w' (some g) ∧ Box w' g 81 (ctsA (c.put n) fv sv)) := by
  obtain ⟨a, b, l, s⟩ := c
  unfold ctsA at hb
  dsimp only at *
  have h0 := hb.at_ 0 rfl
  have h1 := hb.at_ 1 rfl
  have h2 := hb.at_ 2 rfl
  have h3 := hb.at_ 3 rfl
  have f0 := hb.frozen 0
  have f1 := hb.frozen 1
  have f2 := hb.frozen 2
  have f3 := hb.frozen 3
  have Hb := hide hb
  clear hb
  go_enter Try.func48, Try.ntmps48
  by_cases hm : (l : Int) < (n : Int)
  · by_cases ha0 : a = 0
    · subst ha0
      go_wp2
      go_end0
      refine ⟨rfl, gset (gset (gset (gset (World.grownBy.refl w _) 3 _) 2 _) 0 _) 1 _, ?_⟩
      have hr := (((Hb.out.set_ 3 (.int .i64 (n : Int))).set_ 2 (.int .i64 (n : Int))).set_ 0 (.int .i64 1)).set_ 1 (.int .i64 ((b : Int) + (n : Int)))
      unfold ctsA Cts.put
      dsimp only
      rw [show max l n = n by omega, if_pos (by omega)]
      exact hr
    have ha0' : ((a : Int) == 0) = false := by rw [beq_eq_false_iff_ne]; omega
    by_cases hs0 : (n : Int) < (s : Int)
    · go_wp2
      go_end0
      refine ⟨rfl, gset (gset (gset (gset (World.grownBy.refl w _) 3 _) 2 _) 0 _) 1 _, ?_⟩
      have hr := (((Hb.out.set_ 3 (.int .i64 (n : Int))).set_ 2 (.int .i64 (n : Int))).set_ 0 (.int .i64 ((a : Int) + 1))).set_ 1 (.int .i64 ((b : Int) + (n : Int)))
      unfold ctsA Cts.put
      dsimp only
      rw [show max l n = n by omega, if_pos (by omega)]
      exact hr
    · go_wp2
      go_end0
      refine ⟨rfl, gset (gset (gset (World.grownBy.refl w _) 2 _) 0 _) 1 _, ?_⟩
      have hr := ((Hb.out.set_ 2 (.int .i64 (n : Int))).set_ 0 (.int .i64 ((a : Int) + 1))).set_ 1 (.int .i64 ((b : Int) + (n : Int)))
      unfold ctsA Cts.put
      dsimp only
      rw [show max l n = n by omega, if_neg (by omega)]
      exact hr
  · by_cases ha0 : a = 0
    · subst ha0
      go_wp2
      go_end0
      refine ⟨rfl, gset (gset (gset (gset (World.grownBy.refl w _) 3 _) 2 _) 0 _) 1 _, ?_⟩
      have hr := (((Hb.out.set_ 3 (.int .i64 (n : Int))).set_ 2 (.int .i64 (l : Int))).set_ 0 (.int .i64 1)).set_ 1 (.int .i64 ((b : Int) + (n : Int)))
      unfold ctsA Cts.put
      dsimp only
      rw [show max l n = l by omega, if_pos (by omega)]
      exact hr
    have ha0' : ((a : Int) == 0) = false := by rw [beq_eq_false_iff_ne]; omega
    by_cases hs0 : (n : Int) < (s : Int)
    · go_wp2
      go_end0
      refine ⟨rfl, gset (gset (gset (gset (World.grownBy.refl w _) 3 _) 2 _) 0 _) 1 _, ?_⟩
      have hr := (((Hb.out.set_ 3 (.int .i64 (n : Int))).set_ 2 (.int .i64 (l : Int))).set_ 0 (.int .i64 ((a : Int) + 1))).set_ 1 (.int .i64 ((b : Int) + (n : Int)))
      unfold ctsA Cts.put
      dsimp only
      rw [show max l n = l by omega, if_pos (by omega)]
      exact hr
    · go_wp2
      go_end0
      refine ⟨rfl, gset (gset (gset (World.grownBy.refl w _) 2 _) 0 _) 1 _, ?_⟩
      have hr := ((Hb.out.set_ 2 (.int .i64 (l : Int))).set_ 0 (.int .i64 ((a : Int) + 1))).set_ 1 (.int .i64 ((b : Int) + (n : Int)))
      unfold ctsA Cts.put
      dsimp only
      rw [show max l n = l by omega, if_neg (by omega)]
      exact hr
end Go.Proofs.Ytfbamdkalamliaa
