/- lines.Ends, walked. -/
import Derived.Test.YtdaghnnmbilgfaaLinI
import Derived.OwnWalk
namespace Go.Proofs.Ytdaghnnmbilgfaa
open Go.RowKit Go.Shelf LinM
namespace LinM
def mayF (fr : Int) : Bool := decide (0 ≤ fr) && decide (fr ≤ 4611686018427387904)
def endsC (bs : List UInt8) (fr : Int) (hs : List (Int × Int)) : List (Int × Int) := hs.map fun h => if mayF fr then placeC bs fr h.1 1 else (0, 0)
end LinM
theorem VPairs.form {ps : List (Int × Int)} {u : Value} {w : World} (h : VPairs ps u w) : ∃ A c, u = .slice A ps.length c ∧ ps.length ≤ c ∧ c ≤ maxLen ∧
  (0 < ps.length → ∃ b off, A = some ⟨b, off, none⟩ ∧ b < w.heap.size ∧ ∀ j (h : j < ps.length), w.cell? ⟨b, off + j * 2, none⟩ = some (.int .i64 ps[j].1) ∧ w.cell? ⟨b, off + j * 2 + 1, none⟩ = some (.int .i64 ps[j].2)) := h
def PRow (cs : Array Value) (xs : List (Int × Int)) : Prop := cs.size = xs.length * 2 ∧ ∀ j (h : j < xs.length), cs[j * 2]? = some (.int .i64 xs[j].1) ∧ cs[j * 2 + 1]? = some (.int .i64 xs[j].2)
theorem PRow.set {cs : Array Value} {xs : List (Int × Int)} (h : PRow cs xs) (k : Nat) (hk : k < xs.length) (p : Int × Int) : PRow ((cs.setIfInBounds (k * 2) (.int .i64 p.1)).setIfInBounds (k * 2 + 1) (.int .i64 p.2)) (xs.set k p) := by
  refine ⟨by simpa using h.1, fun j hj => ?_⟩
  have hj' : j < xs.length := by simpa using hj
  obtain ⟨h1, h2⟩ := h.2 j hj'
  have hs := h.1
  simp only [Array.getElem?_setIfInBounds, Array.size_setIfInBounds, List.getElem_set]
  by_cases e : k = j
  · subst e
    simp [show k * 2 < cs.size by omega, show k * 2 + 1 < cs.size by omega]
  · have e1 : ¬ k * 2 = j * 2 := by omega
    have e2 : ¬ k * 2 + 1 = j * 2 := by omega
    have e3 : ¬ k * 2 = j * 2 + 1 := by omega
    have e4 : ¬ k * 2 + 1 = j * 2 + 1 := by omega
    simp only [e, e1, e2, e3, e4, if_false]
    exact ⟨h1, h2⟩
theorem PRow.zeros (n : Nat) : PRow (Array.replicate (n * 2) (.int .i64 0)) (List.replicate n (0, 0)) := by
  refine ⟨by simp, fun j hj => ?_⟩
  have hj' : j < n := by simpa using hj
  simp [Array.getElem?_replicate, show j * 2 < n * 2 by omega, show j * 2 + 1 < n * 2 by omega]
theorem PRow.pairs {cs : Array Value} {xs : List (Int × Int)} {w : World} {g n : Nat} {t : TypeId} (h : PRow cs xs) (hb : Box w g t cs) (hn : n = xs.length) (hm : n ≤ maxLen) : VPairs xs (.slice (some ⟨g, 0, none⟩) n n) w := by
  subst hn
  refine ⟨_, _, rfl, Nat.le_refl _, hm, fun hp => ⟨_, _, rfl, hb.lt, fun j hj => ?_⟩⟩
  rw [Nat.zero_add, hb.cell, hb.cell]
  exact h.2 j hj
theorem own_low {w : World} {base base' : Nat} {e : TypeId} {v : Value} {ns : List Int} (h : OwnI w base e v ns) (hb : base' ≤ base) : OwnI w base' e v ns := by
  obtain ⟨h0, h1 | ⟨g, cap, cur, h2, h3, h4⟩⟩ := h
  · exact ⟨h0, .inl h1⟩
  · exact ⟨h0, .inr ⟨g, cap, cur, h2, Nat.le_trans hb h3, h4⟩⟩
theorem own_ne {w : World} {base : Nat} {e : TypeId} {v : Value} {n : Nat} {xs : List Value} (h : w.ownsRow base e 1 v n xs) {k : Nat} (hk : k < base) : v.ownBlock ≠ some k := fun e => by have := own_ge h k e; omega
theorem set_next (res : List (Int × Int)) (k n : Nat) (hk : k < n) (hr : res.length = n) (p : Int × Int) (h : res.take (k + 1) = res.take k ++ [p]) : (res.take k ++ List.replicate (n - k) ((0 : Int), (0 : Int))).set k p = res.take (k + 1) ++ List.replicate (n - (k + 1)) (0, 0) := by
  have hl : (res.take k).length = k := by simp; omega
  rw [List.set_append_right _ _ (by omega), hl, Nat.sub_self, show n - k = (n - (k + 1)) + 1 by omega, List.replicate_succ, List.set_cons_zero, h]
  simp
theorem Try.infoP : (Try.prog.info? 27).map (fun i => (i.zero, i.size, i.bytes)) = some (some (.agg #[.int .i64 0, .int .i64 0]), 2, 16) := by kernel_rfl
theorem PRow.made (n : Nat) (cur : Array Value) (h : cur.size = n * 2) (ht : cur.toList.take (n * 2) = (madeCells (Value.agg #[.int .i64 0, .int .i64 0]).cells (n * 2)).toList) : PRow cur (List.replicate n (0, 0)) := by
  have e : cur = madeCells #[.int .i64 0, .int .i64 0] (n * 2) := by
    apply Array.toList_inj.1
    rw [← h, List.take_of_length_le (by simp)] at ht
    rw [← h]; exact ht
  subst e
  refine ⟨by simpa using h, fun j hj => ?_⟩
  have hj' : j < n := by simpa using hj
  have m0 : j * 2 % 2 = 0 := by omega
  have m1 : (j * 2 + 1) % 2 = 1 := by omega
  simp [madeCells, show j * 2 < n * 2 by omega, show j * 2 + 1 < n * 2 by omega, m0, m1]
theorem VPairs.made {w' : World} {base n g : Nat} (h : w'.ownsRow base 27 2 (.slice (some ⟨g, 0, none⟩) n n) n (madeCells (Value.agg #[.int .i64 0, .int .i64 0]).cells (n * 2)).toList) : ∃ cs, Box w' g 27 cs ∧ PRow cs (List.replicate n (0, 0)) := by
  obtain ⟨_, ⟨h1, _⟩ | ⟨g', cap, cur, h1, _, hg, _, _, hs, ht⟩⟩ := h
  · cases h1
  · cases h1
    exact ⟨cur, hg, PRow.made n cur hs ht⟩
set_option maxRecDepth 100000 in
set_option maxHeartbeats 2000000 in
theorem ends_any (bs : List UInt8) (fr : Int) (hs : List (Int × Int)) (v hv : Value) (w : World) (hB : VBytes bs v w) (hH : VPairs hs hv w) (hlen : bs.length ≤ 1000000) (hn : hs.length ≤ 1000000) (hrng : ∀ h ∈ hs, -9223372036854775808 ≤ h.1 ∧ h.1 ≤ 9223372036854775807) :
    Calls Try.prog 15 #[v, .int .i64 fr, hv] w (Ret w (VPairs (endsC bs fr hs))) := by
  obtain ⟨i0, hi, hz0, hz1, hz2⟩ := info_parts Try.infoP
  have hmay := may_any fr
  obtain ⟨res, hres⟩ : ∃ res, endsC bs fr hs = res := ⟨_, rfl⟩
  rw [hres]
  have Hres := hide hres
  clear hres
  have hB0 := hB
  obtain ⟨A, c, rfl, -⟩ := VBytes.form hB
  obtain ⟨A2, c2, rfl, hd1, hd2, hx⟩ := VPairs.form hH
  clear hB
  unfold maxLen at hd2
  go_enter Try.func15, Try.ntmps15
  obtain ⟨w1, hrun, hown, hgrow⟩ := run_make_full (P := Try.prog) w w.heap.size 44 27 i0 (.agg #[.int .i64 0, .int .i64 0]) 2 Try.underlying44 hi hz0 hz1 .i64 .i64 hs.length (by rw [hz2]; omega) (by unfold maxLen; omega) (Nat.le_refl _)
  have hE1 : Ext w w1 := ext_of_grown hgrow rfl
  obtain ⟨cs, hbx, hrow⟩ := VPairs.made hown
  clear hown hgrow hi hz0 hz1 hz2
  go_wp2_with fail
  clear hrun
  refine (hmay _).mono ?_
  rintro e w2 ⟨u, rfl, hE2, rfl⟩
  have hX2 : Ext w w2 := hE1.tr hE2
  have hbx2 := hbx.ext hE2
  have hu : (decide (0 ≤ fr) && decide (fr ≤ 4611686018427387904)) = mayF fr := rfl
  rw [hu]
  clear hmay hbx hE1 hE2 hu
  cases hf : mayF fr
  · have hr2 : res = List.replicate hs.length (0, 0) := by rw [← Hres.out]; unfold endsC; rw [hf]; simp only [Bool.false_eq_true, if_false]; exact List.map_const' ..
    have Hr := hide (PRow.pairs (n := hs.length) hrow hbx2 (by simp) (by unfold maxLen; omega))
    rw [← hr2] at Hr
    clear Hres
    clear hr2 hf hrow hbx2 hx
    go_wp2
    go_ret
    exact Ret.mk hX2 Hr.out
  · have hf2 : 0 ≤ fr ∧ fr ≤ 4611686018427387904 := by unfold mayF at hf; simpa using hf
    have Hres := hide (show hs.map (fun h => placeC bs fr h.1 1) = res by rw [← Hres.out]; unfold endsC; rw [hf]; simp)
    clear hf
    have HB := hide (VP.st _ _ _ _ hB0 hX2)
    have hlay := fun w' hB => lay_any bs fr (.slice A bs.length c) w' hB hlen
    go_wp2_with fail
    refine (hlay _ HB.out).mono ?_
    rintro e w3 ⟨g, sv, rfl, hE3, hg0, hlb, hsv⟩
    have hX3 := hX2.tr hE3
    have hbx3 := hbx2.ext hE3
    have hgs : w.heap.size < g := Nat.lt_of_lt_of_le hbx2.lt hg0
    have hsv : OwnI w3 (w.heap.size + 1) 3 sv (begC bs) := own_low hsv hbx2.lt
    clear hlay HB hbx2 hE3 hX2 hB0 hg0
    have HL := hide hlb
    have HS := hide hsv
    have HX := hide hX3
    have HB := hide hbx3
    have HR := hide hrow
    clear hlb hsv hX3 hbx3 hrow
    go_wp2
    go_loopw [23] (fun i wr => ∃ (k : Nat) (cs : Array Value), k ≤ hs.length ∧ i = .int .i64 (k : Int) ∧ Hid (Box wr w.heap.size 27 cs) ∧ Hid (PRow cs (res.take k ++ List.replicate (hs.length - k) (0, 0))) ∧ Hid (Box wr g 74 #[.int .i64 fr, .int .i64 (bs.length : Int), sv]) ∧ Hid (OwnI wr (w.heap.size + 1) 3 sv (begC bs)) ∧ Hid (Below w.heap.size w wr)) (fun i _ => hs.length - (intOf i).toNat)
    case atStart => exact ⟨0, cs, by omega, rfl, HB, HR, HL, HS, HX⟩
    case round =>
      clear HL HS HX HB HR
      obtain ⟨k, cs, hk, rfl, HB, HR, HL, HS, HX⟩ := hrel
      by_cases hlt : k < hs.length
      · obtain ⟨b, off, rfl, hb, hcell⟩ := hx (by omega)
        obtain ⟨hc1, hc2⟩ := hcell k hlt
        have hc3 := (HX.out.cell (p := ⟨b, off + k * 2, none⟩) hb).trans hc1
        have hc4 := (HX.out.cell (p := ⟨b, off + k * 2 + 1, none⟩) hb).trans hc2
        have hr1 := hrng hs[k] (List.getElem_mem hlt)
        have Hk := hide (show res.take (k + 1) = res.take k ++ [placeC bs fr hs[k].1 1] by rw [← Hres.out, List.take_succ_eq_append_getElem (by simpa using hlt)]; simp)
        obtain ⟨p1, p2⟩ := hr1
        generalize hs[k].1 = x at *
        generalize hs[k].2 = y at *
        clear hcell hx hc1 hc2 hrng
        have hpl := fun w' hb hV => place_any bs fr x 1 g sv w' hb hV hlen hf2.1 hf2.2 p1 p2 (by omega) (by omega)
        have hrl : res.length = hs.length := by rw [← Hres.out]; simp
        have hcl : (res.take k ++ List.replicate (hs.length - k) ((0 : Int), (0 : Int))).length = hs.length := by
          rw [List.length_append, List.length_take, List.length_replicate, hrl]; omega
        obtain ⟨z1, z2, hq1, hq2⟩ : ∃ z1 z2, cs[k * 2]? = some z1 ∧ cs[k * 2 + 1]? = some z2 := ⟨_, _, HR.out.2 k (by rw [hcl]; exact hlt)⟩
        have Hcl := hide hcl
        have Hrl := hide hrl
        clear hcl hrl
        have Hset := hide (show (res.take k ++ List.replicate (hs.length - k) ((0 : Int), (0 : Int))).set k (placeC bs fr x 1) = res.take (k + 1) ++ List.replicate (hs.length - (k + 1)) (0, 0) from set_next res k hs.length hlt Hrl.out _ Hk.out)
        unfold plcV at hpl
        generalize placeC bs fr x 1 = q at *
        obtain ⟨q1, q2⟩ := q
        dsimp only at hpl
        go_wp2_with fail
        refine (hpl _ (HL.out.alloc _) (VP.st _ _ _ _ (OwnI.ints HS.out) (ext_alloc _ _))).mono ?_
        rintro e w4 ⟨u, rfl, hE4, rfl⟩
        have hX4 : Below w.heap.size w w4 := HX.out.trans (((ext_alloc _ _).tr hE4).mono HX.out.size)
        have HB4 := hide ((HB.out.alloc (.cells #[.int .i64 x, .int .i64 y] 48)).ext hE4)
        have HL4 := hide ((HL.out.alloc (.cells #[.int .i64 x, .int .i64 y] 48)).ext hE4)
        have HS4 := hide (own_st (own_st HS.out (ext_alloc wr (.cells #[.int .i64 x, .int .i64 y] 48))) hE4)
        have hd0 := (HB4.out.cell (k * 2)).trans hq1
        have hd1 := (HB4.out.cell (k * 2 + 1)).trans hq2
        have hf0 := HB4.out.frozen (k * 2)
        have hf1 := HB4.out.frozen (k * 2 + 1)
        have HX4 := hide hX4
        clear hX4 hE4 hpl hq1 hq2 HX HL HS HB
        go_wp2
        trace_state
        have hgn := own_ne HS4.out (k := w.heap.size) (by omega)
        refine ⟨⟨k + 1, _, by omega, by go_num, hide ((HB4.out.set_ (k * 2) (.int .i64 q1)).set_ (k * 2 + 1) (.int .i64 q2)), hide ?_, hide ((HL4.out.far (p := ⟨w.heap.size, k * 2, none⟩) (by show g ≠ w.heap.size; omega) _).far (p := ⟨w.heap.size, k * 2 + 1, none⟩) (by show g ≠ w.heap.size; omega) _), hide (own_set (own_set HS4.out ⟨w.heap.size, k * 2, none⟩ hgn _) ⟨w.heap.size, k * 2 + 1, none⟩ hgn _), hide ((HX4.out.setCell (p := ⟨w.heap.size, k * 2, none⟩) (Nat.le_refl _) _).setCell (p := ⟨w.heap.size, k * 2 + 1, none⟩) (Nat.le_refl _) _)⟩, by simp [intOf]; omega⟩
        rw [← Hset.out]
        exact PRow.set HR.out k (by rw [Hcl.out]; exact hlt) (q1, q2)
      · obtain rfl : k = hs.length := by omega
        have hl : res.length = hs.length := by rw [← Hres.out]; simp
        have Ho := hide (PRow.pairs HR.out HB.out (n := hs.length) (by simp [hl]) (by unfold maxLen; omega))
        have he : res.take hs.length ++ List.replicate (hs.length - hs.length) (0, 0) = res := by rw [← hl]; simp
        have Ho2 : Hid (VPairs res (.slice (some ⟨w.heap.size, 0, none⟩) hs.length hs.length) wr) := hide (by have := Ho.out; rwa [he] at this)
        clear he hl Ho hx
        go_wp2
        go_ret
        exact Ret.mk HX.out Ho2.out
end Go.Proofs.Ytdaghnnmbilgfaa
