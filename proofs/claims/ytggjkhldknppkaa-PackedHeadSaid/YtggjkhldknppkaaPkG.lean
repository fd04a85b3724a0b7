/- Packed words, taken: a word from what is left; the iterator over words. -/
import Derived.Test.YtggjkhldknppkaaPkF
import Derived.Test.YtggjkhldknppkaaJ
namespace Go.Proofs.Ytggjkhldknppkaa
open Go.RowKit Go.Shelf PakM DigM
attribute [local go_sem] Oper.semAt_some
def goodB (bs : List UInt8) : Bool := !decide (badW bs)
theorem goodB_iff {bs : List UInt8} : goodB bs = true ↔ (takeN bs).2.2 = 0 ∧ (takeN bs).1 ≤ (takeN bs).2.1.length := by
  unfold goodB
  rw [Bool.not_eq_true', decide_eq_false_iff_not]
  unfold badW
  omega
/-- What a word that is told is: the next one, and the reader has gone behind it. -/
def WordIs (g N : Nat) (bs : List UInt8) (ok : Bool) (u : Value) (W : World) : Prop := ok = true → Rd g N (restW bs) W ∧ Old N (oneW bs) u W
set_option maxRecDepth 100000 in
set_option maxHeartbeats 4000000 in
theorem word_any (g N : Nat) (bs : List UInt8) (w : World) (h : Rd g N bs w) (hlen : bs.length ≤ 1000000) : Calls Try.prog 40 #[.pointer (some ⟨g, 0, none⟩)] w fun e w' => ∃ u, e = .returned (.tuple #[u, .bool (goodB bs)]) ∧ w.grownBy w' (some g) ∧ WordIs g N bs (goodB bs) u w' := by
  have hnum := rnum_any g N bs w h hlen
  have hgi := @goodB_iff bs
  obtain ⟨gd, hgd⟩ : ∃ o, goodB bs = o := ⟨_, rfl⟩
  rw [hgd] at hgi ⊢
  have hwi : ∀ u W, WordIs g N bs gd u W ↔ (gd = true → Rd g N (restW bs) W ∧ Old N (oneW bs) u W) := fun _ _ => Iff.rfl
  obtain ⟨ok, hok⟩ : ∃ o, okN bs = o := ⟨_, rfl⟩
  rw [hok] at hnum
  unfold okN at hok
  unfold restW oneW at hwi
  obtain ⟨WI, hWI⟩ : ∃ f, WordIs g N bs gd = f := ⟨_, rfl⟩
  rw [hWI] at hwi ⊢
  obtain ⟨⟨n0, r0, e0⟩, h00⟩ : ∃ x, takeN bs = x := ⟨_, rfl⟩
  rw [h00] at hok hnum hgi hwi
  dsimp only at hok hnum hgi hwi
  have hr0 : e0 = 0 → r0.length < bs.length := fun h => by
    have := Dg.takeF_len 0 0 bs (by show (takeN bs).2.2 = 0; rw [h00]; exact h)
    change (takeN bs).2.1.length < _ at this
    rwa [h00] at this
  have Hwi := hide hwi
  clear hWI h00 hwi hgd
  by_cases hz : e0 = 0
  · obtain rfl : ok = true := by rw [← hok]; exact decide_eq_true hz
    have hrl := hr0 hz
    by_cases hn : n0 ≤ r0.length
    · obtain rfl : gd = true := hgi.2 ⟨hz, hn⟩
      clear hgi hok hz hr0
      go_enter Try.func40, Try.ntmps40
      go_wp2_with fail
      refine hnum.mono ?_
      rintro e w1 ⟨rfl, hg1, hR1⟩
      have hcut := cut_yes g N n0 r0 w1 (hR1 trivial) hn
      clear hnum hR1
      go_wp2_with fail
      refine hcut.mono ?_
      rintro e w2 ⟨u, rfl, hg2, hR2, hO2⟩
      clear hcut
      go_wp2
      refine bodyPost_ret (v := .tuple #[_, .bool true]) (by simp [results, Try.results40, go_sem]) rfl ⟨u, rfl, Dg.grown_row hg1 hg2 (fun k hk => .inl (Option.some.inj hk).symm), ?_⟩
      exact (Hwi.out _ _).2 fun _ => ⟨hR2, hO2⟩
    · have hgd : gd = false := by
        cases gd
        · rfl
        · exact absurd (hgi.1 rfl).2 hn
      subst hgd
      have hn' : r0.length < n0 := by omega
      clear hgi hok hz hr0 hn
      go_enter Try.func40, Try.ntmps40
      go_wp2_with fail
      refine hnum.mono ?_
      rintro e w1 ⟨rfl, hg1, hR1⟩
      have hcut := cut_no g N n0 r0 w1 (hR1 trivial) hn'
      clear hnum hR1
      go_wp2_with fail
      refine hcut.mono ?_
      rintro e w2 ⟨rfl, rfl⟩
      clear hcut
      go_wp2
      refine bodyPost_ret (v := .tuple #[.slice none 0 0, .bool false]) (by simp [results, Try.results40, go_sem]) rfl ⟨_, rfl, hg1, ?_⟩
      exact (Hwi.out _ _).2 fun h => by cases h
  · have hgd : gd = false := by
      cases gd
      · rfl
      · exact absurd (hgi.1 rfl).1 hz
    subst hgd
    obtain rfl : ok = false := by rw [← hok]; exact decide_eq_false hz
    clear hgi hok hz hr0
    go_enter Try.func40, Try.ntmps40
    go_wp2_with fail
    refine hnum.mono ?_
    rintro e w1 ⟨rfl, hg1, -⟩
    clear hnum
    go_wp2
    refine bodyPost_ret (v := .tuple #[.slice none 0 0, .bool false]) (by simp [results, Try.results40, go_sem]) rfl ⟨_, rfl, hg1, ?_⟩
    exact (Hwi.out _ _).2 fun h => by cases h
end Go.Proofs.Ytggjkhldknppkaa
