/- Packed words, taken: the iterator over so many words. -/
import Derived.Test.YtggjkhldknppkaaPkG
import Derived.Test.YtggjkhldknppkaaKDF
namespace Go.Proofs.Ytggjkhldknppkaa
open Go.RowKit Go.Shelf PakM DigM
attribute [local go_sem] Oper.semAt_some
def rests (bs : List UInt8) : Nat → List UInt8
  | 0 => bs
  | k + 1 => restW (rests bs k)
theorem rests_le (bs : List UInt8) (m : Nat) (h : bs.length ≤ m) : ∀ k, (∀ j, j < k → goodB (rests bs j) = true) → (rests bs k).length ≤ m
  | 0, _ => h
  | k + 1, hg => by
    have ih := rests_le bs m h k (fun j hj => hg j (by omega))
    have h1 := (goodB_iff.1 (hg k (by omega))).1
    have h2 := Dg.takeF_len 0 0 (rests bs k) h1
    change (takeN (rests bs k)).2.1.length < _ at h2
    show (restW (rests bs k)).length ≤ m
    unfold restW
    rw [List.length_drop]
    omega
/-- What the iterator yields, as far as it has come: each word that is good stands in memory that is older than block g. -/
def RunW (N : Nat) (w : World) (bs : List UInt8) (xs : List (Value × Bool)) : Prop :=
  ∀ (i : Nat) (h : i < xs.length), xs[i].2 = goodB (rests bs i) ∧ (xs[i].2 = true → Old N (oneW (rests bs i)) xs[i].1 w) ∧ (i + 1 < xs.length → xs[i].2 = true)
theorem RunW.nil (N : Nat) (w : World) (bs : List UInt8) : RunW N w bs [] := fun i h => by simp at h
theorem RunW.snoc {N : Nat} {w : World} {bs : List UInt8} {xs : List (Value × Bool)} (h : RunW N w bs xs) (ha : ∀ i (h : i < xs.length), xs[i].2 = true) (x : Value × Bool) (h1 : x.2 = goodB (rests bs xs.length)) (h2 : x.2 = true → Old N (oneW (rests bs xs.length)) x.1 w) : RunW N w bs (xs ++ [x]) := fun i hi => by
  rw [List.length_append, List.length_singleton] at hi
  by_cases hl : i < xs.length
  · rw [List.getElem_append_left hl]
    exact ⟨(h i hl).1, (h i hl).2.1, fun _ => ha i hl⟩
  · obtain rfl : i = xs.length := by omega
    rw [List.getElem_append_right (Nat.le_refl _)]
    simp only [Nat.sub_self, List.getElem_cons_zero]
    exact ⟨h1, h2, fun h => by simp at h⟩
theorem RunW.good {N : Nat} {w : World} {bs : List UInt8} {xs : List (Value × Bool)} (h : RunW N w bs xs) (ha : ∀ i (h : i < xs.length), xs[i].2 = true) : ∀ j, j < xs.length → goodB (rests bs j) = true := fun j hj => (h j hj).1.symm.trans (ha j hj)
/-- Behind good words alone, the reader stands behind them. -/
def RunT (g N : Nat) (bs : List UInt8) (xs : List (Value × Bool)) (W : World) : Prop := (∀ i (h : i < xs.length), xs[i].2 = true) → Rd g N (rests bs xs.length) W
def RunN (N : Nat) (w : World) (bs : List UInt8) (many : Nat) (xs : List (Value × Bool)) : Prop := RunW N w bs xs ∧ xs.length ≤ many
def RunS (N : Nat) (w : World) (bs : List UInt8) (many : Nat) (xs : List (Value × Bool)) : Prop := RunW N w bs xs ∧ (xs.length = many ∨ ∃ i, ∃ h : i < xs.length, xs[i].2 = false)
theorem old_blocks {g N : Nat} {W W' : World} {row : Option Nat} (h : W.grownBy W' row) (hr : row = some g) (hg : g < W.heap.size) (hN : N ≤ g) : ∀ k, k < N → W'.heap[k]? = W.heap[k]? := fun k hk => h.block k (by omega) (by rw [hr]; simp; omega)
set_option maxRecDepth 100000 in
set_option maxHeartbeats 4000000 in
theorem words1_in (n : Nat) (hn : 1 ≤ n) (l B1 B2 g N many : Nat) (bs : List UInt8) (w : World) (J Jx : List (Value × Bool) → World → Prop)
    (hJ : ∀ pre W1 W2, J pre W1 → Dg.OwnG g W1 W2 → J pre W2)
    (hY : ∀ pre (x : Value × Bool) W, J pre W → RunN N w bs many (pre ++ [x]) → YieldAt Fence.wide (n - 1) Try.prog l #[x.1, .bool x.2] W fun e W' =>
      Dg.KeepG g B1 N W W' ∧ ((e = .returned (.bool true) ∧ J (pre ++ [x]) W') ∨ (e = .returned (.bool false) ∧ Jx (pre ++ [x]) W')))
    (W : World) (hc1 : W.cell? ⟨B1, 0, none⟩ = some (.pointer (some ⟨g, 0, none⟩))) (hc2 : W.cell? ⟨B2, 0, none⟩ = some (.int .i64 (many : Int))) (hgB : g ≠ B1) (hR : Rd g N bs W) (hold : ∀ k, k < N → W.heap[k]? = w.heap[k]?) (hmax : bs.length ≤ 1000000) (hmany : many ≤ most) (h0 : J [] W) :
    CallsIn Fence.wide n Try.prog 39 #[.func (.yield l) #[] #[], .pointer (some ⟨B2, 0, none⟩), .pointer (some ⟨B1, 0, none⟩)] W fun e W' => (∃ v, e = .returned v) ∧
      ((∃ xs, RunS N w bs many xs ∧ RunT g N bs xs W' ∧ J xs W') ∨ (∃ pre, RunN N w bs many pre ∧ RunT g N bs pre W' ∧ Jx pre W')) := by
  unfold most at hmany
  refine callsIn_of_wp Try.func39 rfl trivial ?_ rfl
  simp only [Try.ntmps39, List.size_toArray, List.length_cons, List.length_nil, Nat.reduceAdd, Nat.reduceSub, Array.replicate_succ, Array.replicate_zero, List.push_toArray, List.append_toArray, List.nil_append, List.cons_append]
  gi_wp2
  gi_loopw [7] (fun i wr => ∃ (pre : List (Value × Bool)), pre.length ≤ many ∧ i = .int .i64 (pre.length : Int) ∧ Hid (RunW N w bs pre) ∧ Hid (∀ i (h : i < pre.length), pre[i].2 = true) ∧ Hid (J pre wr) ∧ Hid (Rd g N (rests bs pre.length) wr) ∧ Hid (∀ k, k < N → wr.heap[k]? = w.heap[k]?) ∧ wr.cell? ⟨B1, 0, none⟩ = some (.pointer (some ⟨g, 0, none⟩)))
    (fun i _ => many - (intOf i).toNat)
  case atStart => exact ⟨[], Nat.zero_le _, rfl, RunW.nil _ _ _, hide (fun i h => by simp at h), h0, hR, hold, hc1⟩
  case round =>
    clear hc1 hc2 hR hold h0
    obtain ⟨pre, hk, rfl, HRun, HA, HJ, HR, HO, hcB⟩ := hrel
    by_cases hlt : pre.length < many
    · obtain ⟨bk, hbk⟩ : ∃ b, rests bs pre.length = b := ⟨_, rfl⟩
      have hlen : bk.length ≤ 1000000 := by rw [← hbk]; exact rests_le bs _ hmax _ (RunW.good HRun.out HA.out)
      have hR := HR.out
      rw [hbk] at hR
      have hglt := hR.lt
      have hNg := hR.le
      have Hbk := hide hbk
      have hwd := word_any g N bk wr hR hlen
      obtain ⟨gd, hgd⟩ : ∃ o, goodB bk = o := ⟨_, rfl⟩
      rw [hgd] at hwd
      have Hgd := hide hgd
      clear hbk hgd hR HR
      have HW : Hid (∀ (u : Value) (w2 : World), wr.grownBy w2 (some g) → WordIs g N bk gd u w2 → RunW N w bs (pre ++ [(u, gd)]) ∧ (∀ w3, Dg.KeepG g B1 N w2 w3 → (gd = true → Rd g N (rests bs (pre ++ [(u, gd)]).length) w3) ∧ RunT g N bs (pre ++ [(u, gd)]) w3 ∧ ∀ k, k < N → w3.heap[k]? = w.heap[k]?)) := fun u w2 hg2 hW2 => by
        have hb2 : ∀ k, k < N → w2.heap[k]? = w.heap[k]? := fun k hk => (old_blocks hg2 rfl hglt hNg k hk).trans (HO.out k hk)
        refine ⟨RunW.snoc HRun.out HA.out (u, gd) (by rw [Hbk.out]; exact Hgd.out.symm) (fun h => by rw [Hbk.out]; exact Old.keep (hW2 h).2 (fun k hk => (hb2 k hk).symm)), fun w3 hkp => ?_⟩
        have h3 : gd = true → Rd g N (rests bs (pre ++ [(u, gd)]).length) w3 := fun h => by
          rw [List.length_append, List.length_singleton]
          show Rd g N (restW (rests bs pre.length)) w3
          rw [Hbk.out]
          exact (hW2 h).1.keep hkp.2.1 hkp.2.2.2
        refine ⟨h3, fun ha => h3 ?_, fun k hk => (hkp.2.2.2 k hk).trans (hb2 k hk)⟩
        have := ha pre.length (by simp)
        simpa using this
      have Hgl := hide hglt
      clear Hbk Hgd HO hglt
      gi_wp2_with (refine ⟨trivial, ?_⟩; gi_at_call 40; refine (callsIn_wide.2 hwd).mono ?_; rintro e w2 ⟨u, rfl, hg2, hW2⟩; clear hwd)
      obtain ⟨hx, hT⟩ := HW.out u w2 hg2 hW2
      have hJ2 := hJ pre _ _ HJ.out hg2
      have hcB2 := Dg.cell_other w2 hg2 hcB (fun e => hgB e.symm)
      obtain ⟨fn, tmps, assign, body, hy, hR⟩ := hY pre (u, gd) w2 hJ2 ⟨hx, by simp; omega⟩
      have Hx := hide hx
      have HT := hide hT
      clear hx hT HW hJ2 hg2 hW2 hcB HJ
      gi_wp2
      refine hR.mono ?_
      rintro e w3 ⟨hkp, (⟨rfl, hJ3⟩ | ⟨rfl, hJx3⟩)⟩
      · obtain ⟨hR3, hT3, hO3⟩ := HT.out w3 hkp
        have hcB3 : w3.cell? ⟨B1, 0, none⟩ = some (.pointer (some ⟨g, 0, none⟩)) := by rw [← hcB2]; unfold World.cell?; rw [hkp.2.2.1]
        have HT3 := hide hT3
        have HO3 := hide hO3
        have HJ3 := hide hJ3
        cases gd
        · clear hR3 hT3 hO3 hJ3 HT hR
          gi_wp2
          refine bodyPost_ret (results_none rfl _ _ _) rfl ?_
          exact ⟨⟨_, rfl⟩, .inl ⟨_, ⟨Hx.out, .inr ⟨pre.length, by simp, by simp⟩⟩, HT3.out, HJ3.out⟩⟩
        · have HR3 := hide (hR3 rfl)
          have HA3 : Hid (∀ i (h : i < (pre ++ [(u, true)]).length), (pre ++ [(u, true)])[i].2 = true) := fun i hi => by
            rw [List.length_append, List.length_singleton] at hi
            by_cases hl : i < pre.length
            · rw [List.getElem_append_left hl]; exact HA.out i hl
            · obtain rfl : i = pre.length := by omega
              simp
          have Hl : Hid ((pre ++ [(u, true)]).length = pre.length + 1) := hide (by simp)
          clear hR3 hT3 hO3 hJ3 HT hR HA
          gi_wp2
          go_roundw
          case rel => exact ⟨pre ++ [(u, true)], by rw [Hl.out]; omega, by rw [Hl.out]; go_num, Hx, HA3, HJ3, HR3, HO3, hcB3⟩
          case measure => simp [intOf]; omega
      · obtain ⟨hR3, hT3, hO3⟩ := HT.out w3 hkp
        have HT3 := hide hT3
        have HJ3 := hide hJx3
        clear hR3 hT3 hO3 hJx3 HT hR
        gi_wp2
        refine bodyPost_ret (results_none rfl _ _ _) rfl ?_
        exact ⟨⟨_, rfl⟩, .inr ⟨_, ⟨Hx.out, by simp; omega⟩, HT3.out, HJ3.out⟩⟩
    · have hkl : pre.length = many := by omega
      have HL := hide hkl
      clear hkl
      gi_wp2
      go_end0
      exact ⟨⟨_, rfl⟩, .inl ⟨pre, ⟨HRun.out, .inl HL.out⟩, fun _ => HR.out, HJ.out⟩⟩
theorem words_any (g many : Nat) (w : World) : Calls Try.prog 23 #[.pointer (some ⟨g, 0, none⟩), .int .i64 (many : Int)] w fun e w' => e = .returned (.func (.func 39) #[] #[.pointer (some ⟨w.heap.size + 1, 0, none⟩), .pointer (some ⟨w.heap.size, 0, none⟩)]) ∧ w' = (w.alloc (.cells #[.pointer (some ⟨g, 0, none⟩)] 67)).alloc (.cells #[.int .i64 (many : Int)] 3) := by
  go_enter Try.func23, Try.ntmps23
  go_wp2
  go_ret
  exact ⟨rfl, rfl⟩
theorem words_seq (n : Nat) (hn : 1 ≤ n) (B1 B2 g N many : Nat) (bs : List UInt8) (w : World) (hc1 : w.cell? ⟨B1, 0, none⟩ = some (.pointer (some ⟨g, 0, none⟩))) (hc2 : w.cell? ⟨B2, 0, none⟩ = some (.int .i64 (many : Int))) (hgB : g ≠ B1) (hR : Rd g N bs w) (hmax : bs.length ≤ 1000000) (hmany : many ≤ most) :
    SeqOwn Fence.wide n Try.prog 39 #[.pointer (some ⟨B2, 0, none⟩), .pointer (some ⟨B1, 0, none⟩)] (fun x : Value × Bool => #[x.1, .bool x.2]) (Dg.KeepG g B1 N) (Dg.OwnG g) (RunT g N bs) (RunS N w bs many) (RunN N w bs many) (RunN N w bs many) w := fun l J Jx W hE hJ hY h0 =>
  words1_in n hn l B1 B2 g N many bs w J Jx hJ hY W ((hE.cell (World.block_lt_of_cell? w _ hc1)).trans hc1) ((hE.cell (World.block_lt_of_cell? w _ hc2)).trans hc2) hgB (hR.ext hE) (fun k hk => hE.block k (by have := hR.lt; have := hR.le; omega)) hmax hmany h0
end Go.Proofs.Ytggjkhldknppkaa
