/- teaselref16.Right; the wakes, walked. -/
import Derived.Test.YtdaghnnmbilgfaaLinK
namespace Go.Proofs.Ytdaghnnmbilgfaa
open Go.RowKit Go.Shelf LinM
set_option maxHeartbeats 1000000 in
theorem right16_any (c : Cnt) (w : World) : Calls Try.prog 11 #[cntV c] w (Ret w (VEq (.bool (rightC c)))) := by
  obtain ⟨a, l, s⟩ := c
  unfold rightC cntV
  dsimp only
  go_enter Try.func11, Try.ntmps11
  by_cases h1 : a < 0
  · rw [if_pos (.inl h1)]
    go_wp2
    go_ret
    exact Ret.mk (ext_alloc _ _) rfl
  by_cases h2 : 2147483647 < a
  · rw [if_pos (.inr h2)]
    go_wp2
    go_ret
    exact Ret.mk (ext_alloc _ _) rfl
  rw [if_neg (by omega)]
  by_cases h3 : l = 0
  · rw [if_pos h3]
    subst h3
    go_wp2
    go_ret
    exact Ret.mk (ext_alloc _ _) (congrArg Value.bool (by rw [Bool.eq_iff_iff]; simp))
  rw [if_neg h3]
  have h3' : (l == 0) = false := by rw [beq_eq_false_iff_ne]; exact h3
  by_cases h4 : 1 ≤ l
  · by_cases h5 : l ≤ a
    · by_cases h6 : 0 ≤ s
      · rw [decide_eq_true h4, decide_eq_true h5, decide_eq_true h6]
        clear h3
        go_wp2
        go_ret
        exact Ret.mk (ext_alloc _ _) rfl
      · rw [decide_eq_true h4, decide_eq_true h5, decide_eq_false h6, Bool.and_false, Bool.false_and]
        clear h3
        go_wp2
        go_ret
        exact Ret.mk (ext_alloc _ _) rfl
    · rw [decide_eq_false h5, Bool.and_false, Bool.false_and, Bool.false_and]
      clear h3
      go_wp2
      go_ret
      exact Ret.mk (ext_alloc _ _) rfl
  · rw [decide_eq_false h4, Bool.false_and, Bool.false_and, Bool.false_and]
    clear h3
    go_wp2
    go_ret
    exact Ret.mk (ext_alloc _ _) rfl
theorem VParts.one {bs : List UInt8} {u : Value} {w : World} (h : VBytes bs u w) (t : TypeId) : VParts [bs] (.slice (some ⟨w.heap.size, 0, none⟩) 1 1) (w.alloc (.cells #[u] t)) := by
  refine ⟨_, _, rfl, Nat.le_refl _, by decide, fun _ => ⟨_, 0, rfl, by simp, fun j F hj => ?_⟩⟩
  match j, hj with
  | 0, hj =>
    simp at hj
    subst hj
    exact ⟨u, (Box.new w t #[u]).at_ 0 rfl, VP.st _ _ _ _ h (ext_alloc _ _)⟩
theorem PRow.two (a b c d : Int) : PRow #[.int .i64 a, .int .i64 b, .int .i64 c, .int .i64 d] [(a, b), (c, d)] := ⟨rfl, fun j h => by
  match j, h with
  | 0, _ => exact ⟨rfl, rfl⟩
  | 1, _ => exact ⟨rfl, rfl⟩⟩
theorem PRow.one (a b : Int) : PRow #[.int .i64 a, .int .i64 b] [(a, b)] := ⟨rfl, fun j h => by
  match j, h with
  | 0, _ => exact ⟨rfl, rfl⟩⟩
theorem run_mark {P : Program} (w : World) (t e : TypeId) (bs : List UInt8) (cs : Array Value) (n : Nat) (hcs : cs.toList = bs.map byteV) (hn : n = bs.length) (hp : 0 < bs.length) (hm : bs.length ≤ maxLen) (ht : P.underlying t = some (.slice e)) (he : P.underlying e = some (.int .u8)) :
    ∃ w', (convert t t (.slice (some ⟨w.heap.size, 0, none⟩) n n)).run P (w.alloc (.cells cs e)) = .ok (.slice (some ⟨w.heap.size, 0, none⟩) n n) w' ∧ Ext w w' ∧ VBytes bs (.slice (some ⟨w.heap.size, 0, none⟩) n n) w' ∧ w'.heap.size = w.heap.size + 1 := by
  subst hn
  have hb := heap_alloc_new w (.cells cs e)
  obtain ⟨f1, f2, f3, f4, f5, f6⟩ := freeze_mark (w.alloc (.cells cs e)) w.heap.size cs e (0, 0) hb (.inl rfl)
  have hsh : (w.alloc (.cells cs e)).shape? w.heap.size = some (e, cs.size) := by unfold World.shape?; rw [hb]
  refine ⟨(w.alloc (.cells cs e)).freeze ⟨w.heap.size, cs.size, none⟩ 1, by simp [convert, run_underlying ht, run_underlying he, markStringish, hsh, go_sem, Result.andThen], ⟨f4, f5, f6, by rw [f3]; simp, fun k hk => (f2 k (by omega)).trans ((ext_alloc w _).block k hk)⟩, VRow.bytes (B := 0) ⟨_, _, _, _, rfl, Nat.zero_le _, f1, .inr rfl, hcs, hp, hm⟩, by rw [f3]; simp⟩
def wText : List UInt8 := [97, 10, 98, 10, 10, 99]
def wWant : List (Int × Int) := [(1, 1), (1, 2), (2, 1), (2, 2), (3, 1), (4, 1)]
theorem PRow.want : PRow #[.int .i64 1, .int .i64 1, .int .i64 1, .int .i64 2, .int .i64 2, .int .i64 1, .int .i64 2, .int .i64 2, .int .i64 3, .int .i64 1, .int .i64 4, .int .i64 1] wWant := ⟨rfl, fun j h => by
  match j, h with
  | 0, _ => exact ⟨rfl, rfl⟩
  | 1, _ => exact ⟨rfl, rfl⟩
  | 2, _ => exact ⟨rfl, rfl⟩
  | 3, _ => exact ⟨rfl, rfl⟩
  | 4, _ => exact ⟨rfl, rfl⟩
  | 5, _ => exact ⟨rfl, rfl⟩⟩
theorem wOf (k : Nat) (h : k < wWant.length) : ofC wText (k : Int) = (wWant[k], true) :=
  match k, h with
  | 0, _ => by show ofC wText 0 = ((1, 1), true); decide
  | 1, _ => by show ofC wText 1 = ((1, 2), true); decide
  | 2, _ => by show ofC wText 2 = ((2, 1), true); decide
  | 3, _ => by show ofC wText 3 = ((2, 2), true); decide
  | 4, _ => by show ofC wText 4 = ((3, 1), true); decide
  | 5, _ => by show ofC wText 5 = ((4, 1), true); decide
theorem wOf6 : ofC wText 6 = ((0, 0), false) := by decide
theorem wFeed : feedC (0, 0, 0) wText = ((6, 3, 1), 0) := by decide
theorem wFeed2 : feedC (0, 1, 0) [] = ((0, 1, 0), 2) := by decide
theorem wEnds : endsC wText 10 [(13, 0), (10, 0)] = [(2, 1), (0, 0)] := by decide
theorem wBegins : beginsC [[10, 98]] wText 10 [(13, 0)] = [(1, 2)] := by decide
theorem wNext : nextC (6, 3, 1) = (4, 2) := by decide
theorem wRight : rightC (6, 3, 1) = true := by decide
theorem wRight2 : rightC (1, 0, 0) = false := by decide
end Go.Proofs.Ytdaghnnmbilgfaa
