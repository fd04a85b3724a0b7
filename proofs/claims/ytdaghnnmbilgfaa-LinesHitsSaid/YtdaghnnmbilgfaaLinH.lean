/- lines.layout.place, walked. -/
import Derived.Test.YtdaghnnmbilgfaaLinG
namespace Go.Proofs.Ytdaghnnmbilgfaa
open Go.RowKit Go.Shelf LinM
namespace LinM
def placeC (bs : List UInt8) (fr e l : Int) : Int × Int := if e < fr then (0, 0) else (ofC bs (e - fr - l)).1
theorem begC_split (bs : List UInt8) (k : Nat) (hk : k ≤ bs.length) : begC bs = begC (bs.take k) ++ begF k (bs.drop k) := by
  unfold begC
  conv => lhs; rw [← List.take_append_drop k bs, begF_append]
  rw [List.length_take, Nat.min_eq_left hk]
  simp
theorem begC_low (bs : List UInt8) (k : Nat) (hk : k ≤ bs.length) (j : Nat) (h : j < (begC bs).length) (hj : j < (begC (bs.take k)).length) : (begC bs)[j] < (k : Int) + 1 := by
  have e := begC_split bs k hk
  have : (begC bs)[j] = (begC (bs.take k))[j] := by simp only [e, List.getElem_append_left hj]
  rw [this]
  have hm := List.getElem_mem hj
  unfold begC at hm
  rcases List.mem_cons.1 hm with h1 | h1
  · have : (begC (bs.take k))[j] = 0 := h1
    omega
  · have := begF_mem _ _ _ h1
    rw [List.length_take] at this
    have h2 : (begC (bs.take k))[j] ≤ 0 + ((min k bs.length : Nat) : Int) := this.2
    omega
theorem begC_high (bs : List UInt8) (k : Nat) (hk : k ≤ bs.length) (j : Nat) (h : j < (begC bs).length) (hj : (begC (bs.take k)).length ≤ j) : (k : Int) + 1 ≤ (begC bs)[j] := by
  have e := begC_split bs k hk
  have h2 : j - (begC (bs.take k)).length < (begF k (bs.drop k)).length := by have := congrArg List.length e; rw [List.length_append] at this; omega
  have : (begC bs)[j] = (begF k (bs.drop k))[j - (begC (bs.take k)).length] := by simp only [e, List.getElem_append_right hj]
  rw [this]
  exact (begF_mem _ _ _ (List.getElem_mem h2)).1
theorem place_math (bs : List UInt8) (k : Nat) (hk : k < bs.length) (hlen : bs.length ≤ 1000000) : ∃ m : Nat, (begC (bs.take k)).length = m + 1 ∧ ∃ h : m < (begC bs).length, (0 ≤ (begC bs)[m] ∧ (begC bs)[m] ≤ 1000001) ∧ nextC (countC (0, 0, 0) (bs.take k)) = ((m : Int) + 1, (k : Int) - (begC bs)[m] + 1) := by
  have e := begC_split bs k (by omega)
  have hl : (begC (bs.take k)).length = (begF 0 (bs.take k)).length + 1 := rfl
  have hlt : (begF 0 (bs.take k)).length < (begC bs).length := by rw [e, List.length_append]; omega
  have hx : (begC bs)[(begF 0 (bs.take k)).length] = (begC (bs.take k)).getLast (by unfold begC; simp) := by
    rw [List.getLast_eq_getElem]
    simp only [e, List.getElem_append_left (show (begF 0 (bs.take k)).length < (begC (bs.take k)).length by omega), hl, Nat.add_sub_cancel]
  have hlo := begC_low bs k (by omega) _ hlt (by omega)
  have h0 : 0 ≤ (begC bs)[(begF 0 (bs.take k)).length] := by
    rw [hx]
    have hm := List.getLast_mem (l := begC (bs.take k)) (by unfold begC; simp)
    unfold begC at hm
    rcases List.mem_cons.1 hm with h1 | h1
    · unfold begC; omega
    · have := (begF_mem _ _ _ h1).1; unfold begC; omega
  refine ⟨_, hl, hlt, ⟨h0, by omega⟩, ?_⟩
  have hr := countC_right (0, 0, 0) (bs.take k) (by decide) (by rw [List.length_take]; show (0 : Int) + _ ≤ _; omega)
  obtain ⟨c1, c2⟩ := countC_beg 0 0 0 (bs.take k)
  unfold nextC
  rw [hr, if_pos rfl, c1, c2, hx, List.length_take, Nat.min_eq_left (by omega)]
  refine Prod.ext (by simp) ?_
  show 0 + (k : Int) - _ + 1 = (k : Int) - _ + 1
  have : (((0 : Int) - 0) :: begF 0 (bs.take k)).getLast (by simp) = (begC (bs.take k)).getLast (by unfold begC; simp) := rfl
  rw [this]; omega
end LinM
set_option maxRecDepth 100000 in
set_option maxHeartbeats 2000000 in
theorem place_any (bs : List UInt8) (fr e l : Int) (g : Nat) (sv : Value) (w : World) (hb : Box w g 74 #[.int .i64 fr, .int .i64 (bs.length : Int), sv]) (hV : VInts (begC bs) sv w) (hlen : bs.length ≤ 1000000)
    (hf0 : 0 ≤ fr) (hf1 : fr ≤ 4611686018427387904) (he0 : -9223372036854775808 ≤ e) (he1 : e ≤ 9223372036854775807) (hl0 : 0 ≤ l) (hl1 : l ≤ 9223372036854775807) :
    Calls Try.prog 25 #[.pointer (some ⟨g, 0, none⟩), .int .i64 e, .int .i64 l] w (Ret w (VEq (plcV (placeC bs fr e l)))) := by
  have hc0 := (hb.alloc (.cells #[.int .i64 0, .int .i64 0] 27)).at_ 0 rfl
  have hc1 := (hb.alloc (.cells #[.int .i64 0, .int .i64 0] 27)).at_ 1 rfl
  have hc2 := (hb.alloc (.cells #[.int .i64 0, .int .i64 0] 27)).at_ 2 rfl
  have hd := Box.new w 27 #[.int .i64 0, .int .i64 0]
  have hX : Ext w (w.alloc (.cells #[.int .i64 0, .int .i64 0] 27)) := ext_alloc _ _
  unfold placeC plcV
  by_cases h1 : e < fr
  · rw [if_pos h1]
    dsimp only
    have HD := hide hd
    have HX0 := hide hX
    clear hd hX hb hV
    go_enter Try.func25, Try.ntmps25
    go_wp2
    exact bodyPost_ret (results_cell_row rfl _ _ w.heap.size 27 #[.int .i64 0, .int .i64 0] (0, 0) _ rfl HD.out Try.underlying27 rfl (by kernel_rfl)) rfl (Ret.mk HX0.out rfl)
  rw [if_neg h1]
  unfold ofC
  by_cases h2 : e - fr - l < 0 ∨ (bs.length : Int) ≤ e - fr - l
  · rw [if_pos h2]
    dsimp only
    have HD := hide hd
    have HX0 := hide hX
    clear hd hX hb hV
    go_enter Try.func25, Try.ntmps25
    by_cases h3 : e - fr - l < 0
    · clear h2
      go_wp2
      exact bodyPost_ret (results_cell_row rfl _ _ w.heap.size 27 #[.int .i64 0, .int .i64 0] (0, 0) _ rfl HD.out Try.underlying27 rfl (by kernel_rfl)) rfl (Ret.mk HX0.out rfl)
    · have h4 : (bs.length : Int) ≤ e - fr - l := by omega
      clear h2
      go_wp2
      exact bodyPost_ret (results_cell_row rfl _ _ w.heap.size 27 #[.int .i64 0, .int .i64 0] (0, 0) _ rfl HD.out Try.underlying27 rfl (by kernel_rfl)) rfl (Ret.mk HX0.out rfl)
  · rw [if_neg h2]
    have h3 : ¬ e - fr - l < 0 := by omega
    have h4 : ¬ (bs.length : Int) ≤ e - fr - l := by omega
    clear h2
    obtain ⟨k, hk⟩ : ∃ k : Nat, e - fr - l = (k : Int) := ⟨(e - fr - l).toNat, by omega⟩
    have Hk := hide hk
    rw [hk, Int.toNat_natCast]
    obtain ⟨m, hm, hmlt, hxb, hq⟩ := place_math bs k (by omega) hlen
    rw [hq]
    dsimp only
    have hsr := fun w' hV' => searchInts_any (begC bs) ((k : Int) + 1) sv w' hV' (m + 1) (by have := begC_len bs; have := congrArg List.length (begC_split bs k (by omega)); rw [List.length_append] at this; omega) (fun j h hj => begC_low bs k (by omega) j h (by omega)) (fun j h hj => begC_high bs k (by omega) j h (by omega)) (by have := begC_len bs; omega)
    have hkb : (k : Int) ≤ 1000000 := by omega
    obtain ⟨hxb1, hxb2⟩ := hxb
    clear hk hq hm
    have HV := hide hV
    obtain ⟨A, c, rfl, hv1, hv2, hvx⟩ := VInts.form hV
    obtain ⟨b, off, rfl, hbl, hcell⟩ := hvx (by omega)
    have hcm := hcell m hmlt
    clear hvx hcell hV
    unfold maxLen at hv2
    generalize begC bs = ns at *
    have Hm := hide hmlt
    generalize ns[m] = x at *
    have hmm : ((m + 1 : Nat) : Int) = (m : Int) + 1 := by omega
    rw [hmm] at hsr
    clear hmm
    go_enter Try.func25, Try.ntmps25
    go_wp2_with fail
    rw [Hk.out]
    refine (hsr _ (VP.st _ _ _ _ HV.out hX)).mono ?_
    rintro e2 w2 ⟨u, rfl, hE2, rfl⟩
    have hE : Ext w w2 := hX.tr hE2
    have hb2 := hb.ext hE
    have hd2 := hd.ext hE2
    have hc0 := hb2.at_ 0 rfl
    have hc1 := hb2.at_ 1 rfl
    have hc2 := hb2.at_ 2 rfl
    have hd0 := hd2.at_ 0 rfl
    have hd1 := hd2.at_ 1 rfl
    have hdf0 := hd2.frozen 0
    have hdf1 := hd2.frozen 1
    have hcm2 := (hE.cell (p := ⟨b, off + m, none⟩) hbl).trans hcm
    have HB := hide (fun u v => (hd2.set_ 0 u).set_ 1 v)
    have HX := hide (fun u v => (hE.setCell (p := ⟨w.heap.size, 0, none⟩) (by simp) u).setCell (p := ⟨w.heap.size, 1, none⟩) (by simp) v)
    clear hb hd hb2 hd2 hE hE2 hX HV hsr
    go_wp2
    exact bodyPost_ret (results_cell_row rfl _ _ w.heap.size 27 #[.int .i64 ((m : Int) + 1), .int .i64 ((k : Int) - x + 1)] (0, 0) _ rfl (HB.out _ _) Try.underlying27 rfl (by kernel_rfl)) rfl (Ret.mk (HX.out _ _) rfl)
end Go.Proofs.Ytdaghnnmbilgfaa
