/- The document's classes, walked. -/
import Derived.Test.YtfbamdkalamliaaClH
namespace Go.Proofs.Ytfbamdkalamliaa
open Go.RowKit LetM SetM
def hR (f : Bool) (bs : List UInt8) (i : Nat) : Bool := inR f bs (UInt8.ofNat i)
/-- What the document's Of tells. -/
def rclsO (f : Bool) (ws : List (List UInt8)) : (Nat → Int) × Int × Int := if rightS f ws then ((cRun f (hR f ws.flatten) 256).1, (cRun f (hR f ws.flatten) 256).2, 0) else (fun _ => 0, 0, 2)
theorem iArr_set (f : Nat → Int) (i : Nat) (z : Int) : (iArr f).setIfInBounds i (.int .i64 z) = iArr fun j => if j = i then z else f j := by
  unfold iArr
  rw [arr_set]
  exact arr_congr fun j _ => by simp only []; split <;> rfl
set_option maxRecDepth 100000 in
set_option maxHeartbeats 4000000 in
theorem rOf_any (f : Bool) (ws : List (List UInt8)) (u : Value) (w : World) (hS : VSet f ws u w) : Calls Try.prog 10 #[u] w (Ret w (VTup [VEq (.agg (iArr (rclsO f ws).1)), VEq (.int .i64 (rclsO f ws).2.1), VEq (.int .i64 (rclsO f ws).2.2)])) := by
  have hS0 := hS
  obtain ⟨sl, rfl, hP⟩ := hS
  obtain ⟨A, c, rfl, -⟩ := VParts.form hP
  clear hP
  go_enter Try.func10, Try.ntmps10
  go_upto_region 2 with (refine wpList_allocZ rfl 29 rfl _ zeroI ?_)
  have hX : Ext w (((w.alloc (.cells #[.bool f, .slice A ws.length c] 24)).alloc (.cells (iArr fun _ => 0) 29)).alloc (.cells (iArr fun _ => 0) 29)) := ((ext_alloc _ _).tr (ext_alloc _ _)).tr (ext_alloc _ _)
  have hb1 := ((Box.new w 24 #[.bool f, .slice A ws.length c]).alloc (.cells (iArr fun _ => 0) 29)).alloc (.cells (iArr fun _ => 0) 29)
  have hb2 := (Box.new (w.alloc (.cells #[.bool f, .slice A ws.length c] 24)) 29 (iArr fun _ => 0)).alloc (.cells (iArr fun _ => 0) 29)
  have hb3 := Box.new ((w.alloc (.cells #[.bool f, .slice A ws.length c] 24)).alloc (.cells (iArr fun _ => 0) 29)) 29 (iArr fun _ => 0)
  simp only [World.size_alloc] at hb2 hb3
  generalize ((w.alloc (.cells #[.bool f, .slice A ws.length c] 24)).alloc (.cells (iArr fun _ => 0) 29)).alloc (.cells (iArr fun _ => 0) 29) = w1 at *
  have hd0 := hb1.at_ 0 rfl
  have hd1 := hb1.at_ 1 rfl
  have hS1 := VP.st _ _ _ _ hS0 hX
  have hrt := setright_any f ws _ w1 hS1
  have H1 := hide hb1
  have H2 := hide hb2
  have H3 := hide hb3
  have HX := hide hX
  clear hb1 hb2 hb3 hX hS1
  by_cases hr : rightS f ws = true
  · have e : rclsO f ws = ((cRun f (hR f ws.flatten) 256).1, (cRun f (hR f ws.flatten) 256).2, 0) := by unfold rclsO; rw [if_pos hr]
    have He := hide e
    rw [hr] at hrt
    clear e hr
    go_wp2_with fail
    refine hrt.mono ?_
    rintro _ w2 ⟨u, rfl, hE2, rfl⟩
    have HX2 : Hid (Below w.heap.size w w2) := hide (HX.out.tr hE2)
    have H12 := hide (H1.out.ext hE2)
    have H22 := hide (H2.out.ext hE2)
    have H32 : Hid (Box w2 (w.heap.size + 1 + 1) 29 (iArr (cRun f (hR f ws.flatten) 0).1)) := hide (H3.out.ext hE2)
    clear hrt hd0 hd1 hE2 HX H1 H2 H3
    obtain ⟨h, hhh⟩ : ∃ h, hR f ws.flatten = h := ⟨_, rfl⟩
    rw [hhh] at H32
    have Hh := hide hhh
    clear hhh
    go_wp2_with fail
    go_loopw [6, 7] (fun m i wr => ∃ k : Nat, k ≤ 256 ∧ i = .int .i64 (k : Int) ∧ m = .int .i64 (cRun f h k).2 ∧ Hid (Below w.heap.size w wr) ∧ Hid (Box wr w.heap.size 24 #[.bool f, .slice A ws.length c]) ∧ Hid (Box wr (w.heap.size + 1) 29 (iArr fun _ => 0)) ∧ Hid (Box wr (w.heap.size + 1 + 1) 29 (iArr (cRun f h k).1))) (fun _ i _ => 256 - (intOf i).toNat)
    case atStart => exact ⟨0, by omega, rfl, rfl, HX2, H12, H22, H32⟩
    case round =>
      clear HX2 H12 H22 H32
      obtain ⟨k, hk, rfl, rfl, HX, H1, H2, H3⟩ := hrel
      have hE : Ext w wr := HX.out
      by_cases hlt : k < 256
      · have hm := cRun_many f h k
        have hst := cRun_succ f h k
        have hri := rin_any f ws (UInt8.ofNat k) _ wr (VP.st _ _ _ _ hS0 hE)
        rw [byte_toNat hlt, show inR f ws.flatten (UInt8.ofNat k) = h k by rw [← Hh.out]; rfl] at hri
        have hd0 := H1.out.at_ 0 rfl
        have hd1 := H1.out.at_ 1 rfl
        have hlt' : (k : Int) < 256 := by omega
        have hcv : IntKind.u8.wrap (k : Int) = (k : Int) := IntWalk.u8_in _ (by omega)
        generalize cRun f h k = st at *
        obtain ⟨cf, m⟩ := st
        dsimp only at hm H3
        unfold cStep at hst
        dsimp only at hst
        by_cases hh : h k = false
        · rw [if_pos hh] at hst
          rw [hh] at hri
          have Hst := hide hst
          clear hst hh
          go_wp2_with fail
          refine hri.mono ?_
          rintro _ w3 ⟨u, rfl, hE3, rfl⟩
          have HX3 := hide (hE.tr hE3)
          have H13 := hide (H1.out.ext hE3)
          have H23 := hide (H2.out.ext hE3)
          have H33 := hide (H3.out.ext hE3)
          clear hri hd0 hd1 hE3 HX H1 H2 H3
          go_wp2
          exact ⟨⟨k + 1, by omega, by go_num, by rw [Hst.out], HX3, H13, H23, by rw [Hst.out]; exact H33⟩, by simp [intOf]; omega⟩
        · have hh : h k = true := by simpa using hh
          rw [hh, if_neg (by simp)] at hst
          rw [hh] at hri
          clear hh
          go_wp2_with fail
          refine hri.mono ?_
          rintro _ w3 ⟨u, rfl, hE3, rfl⟩
          have HX3 := hide (hE.tr hE3)
          have H13 := hide (H1.out.ext hE3)
          have H23 := hide (H2.out.ext hE3)
          have H33 := hide (H3.out.ext hE3)
          clear hri hd0 hd1 hE3 HX H1 H2 H3
          have hd0 := H13.out.at_ 0 rfl
          have hco := (H33.out.cell k).trans (iArr_get cf hlt)
          have hfo := H33.out.frozen k
          by_cases hf : (f && smallB k) = true
          · rw [if_pos hf] at hst
            obtain ⟨rfl, hsm⟩ : f = true ∧ smallB k = true := by simpa using hf
            have hsm' : 97 ≤ k ∧ k ≤ 122 := by unfold smallB at hsm; simpa using hsm
            have Hst := hide hst
            have h97 : (97 : Int) ≤ k := by omega
            have h122 : (k : Int) ≤ 122 := by omega
            have hc32 := (H33.out.cell (k - 32)).trans (iArr_get cf (by omega : k - 32 < 256))
            have e32 : ((k : Int) - 32) = ((k - 32 : Nat) : Int) := by omega
            have hi32 : ((k - 32 : Nat) : Int) < 256 := by omega
            have HX4 := hide (Below.setCell HX3.out (p := ⟨w.heap.size + 1 + 1, k, none⟩) (by simp; omega) (.int .i64 (cf (k - 32))))
            have H14 := hide (H13.out.far (p := ⟨w.heap.size + 1 + 1, k, none⟩) (by simp; omega) (.int .i64 (cf (k - 32))))
            have H24 := hide (H23.out.far (p := ⟨w.heap.size + 1 + 1, k, none⟩) (by simp) (.int .i64 (cf (k - 32))))
            have H34 := hide (H33.out.set_ k (.int .i64 (cf (k - 32))))
            rw [iArr_set] at H34
            clear hst hf hsm hsm' HX3 H13 H23 H33
            go_wp2
            exact ⟨⟨k + 1, by omega, by go_num, by rw [Hst.out], HX4, H14, H24, by rw [Hst.out]; exact H34⟩, by simp [intOf]; omega⟩
          · have hf : (f && smallB k) = false := by simpa using hf
            rw [hf, if_neg (by simp)] at hst
            have Hst := hide hst
            have HX4 := hide (Below.setCell HX3.out (p := ⟨w.heap.size + 1 + 1, k, none⟩) (by simp; omega) (.int .i64 m))
            have H14 := hide (H13.out.far (p := ⟨w.heap.size + 1 + 1, k, none⟩) (by simp; omega) (.int .i64 m))
            have H24 := hide (H23.out.far (p := ⟨w.heap.size + 1 + 1, k, none⟩) (by simp) (.int .i64 m))
            have H34 := hide (H33.out.set_ k (.int .i64 m))
            rw [iArr_set] at H34
            clear hst HX3 H13 H23 H33
            cases f
            · clear hf
              go_wp2
              exact ⟨⟨k + 1, by omega, by go_num, by rw [Hst.out], HX4, H14, H24, by rw [Hst.out]; exact H34⟩, by simp [intOf]; omega⟩
            · have hsm : smallB k = false := by simpa using hf
              by_cases h1 : 97 ≤ k
              · have h2 : ¬ k ≤ 122 := fun h2 => by unfold smallB at hsm; simp [h1, h2] at hsm
                have h97 : (97 : Int) ≤ k := by omega
                have h122 : ¬ (k : Int) ≤ 122 := by omega
                clear hf hsm h1 h2
                go_wp2
                exact ⟨⟨k + 1, by omega, by go_num, by rw [Hst.out], HX4, H14, H24, by rw [Hst.out]; exact H34⟩, by simp [intOf]; omega⟩
              · have h97 : ¬ (97 : Int) ≤ k := by omega
                clear hf hsm h1
                go_wp2
                exact ⟨⟨k + 1, by omega, by go_num, by rw [Hst.out], HX4, H14, H24, by rw [Hst.out]; exact H34⟩, by simp [intOf]; omega⟩
      · obtain rfl : k = 256 := by omega
        have hb2 := H2.out
        have hb3 := H3.out
        have HE := hide hE
        clear hE HX H1 H2 H3
        go_wp2_with (first | (refine wpList_load_box rfl 29 _ rfl (w.heap.size + 1 + 1) rfl _ hb3 Try.underlying29 rfl (by rw [iArr_size]; kernel_rfl) ?_) | (refine wpList_store_row rfl 29 _ _ rfl (w.heap.size + 1) (iArr (cRun f h 256).1) rfl rfl 29 (iArr fun _ => 0) hb2 (by rw [iArr_size]; kernel_rfl) (by rw [iArr_size, iArr_size]) (arr_one fun _ _ => rfl) ?_))
        have hb4 : Box (wr.setRow (w.heap.size + 1) (iArr (cRun f h 256).1)) (w.heap.size + 1) 29 (iArr (cRun f h 256).1) := hb2.setRow_
        exact bodyPost_ret (results_cell3 Try.results10 _ _ (w.heap.size + 1) 29 _ _ rfl hb4 Try.underlying29 rfl (by rw [iArr_size]; kernel_rfl) rfl rfl) rfl (by rw [He.out, Hh.out]; exact Ret.mk (below_setRow HE.out (by omega) _) (VTup.three rfl rfl rfl))
  · have hr : rightS f ws = false := by simpa using hr
    have e : rclsO f ws = (fun _ => 0, 0, 2) := by unfold rclsO; rw [hr]; rfl
    have He := hide e
    rw [hr] at hrt
    clear e hr hS0
    go_wp2_with fail
    refine hrt.mono ?_
    rintro _ w2 ⟨u, rfl, hE2, rfl⟩
    have hb2 := H2.out.ext hE2
    have hb3 := H3.out.ext hE2
    have HE := hide (HX.out.tr hE2)
    clear hrt hd0 hd1 hE2 HX H1 H2 H3
    go_wp2_with (first | (refine wpList_load_box rfl 29 _ rfl (w.heap.size + 1 + 1) rfl _ hb3 Try.underlying29 rfl (by rw [iArr_size]; kernel_rfl) ?_) | (refine wpList_store_row rfl 29 _ _ rfl (w.heap.size + 1) (iArr fun _ => 0) rfl rfl 29 (iArr fun _ => 0) hb2 (by rw [iArr_size]; kernel_rfl) rfl (arr_one fun _ _ => rfl) ?_))
    have hb4 : Box (w2.setRow (w.heap.size + 1) (iArr fun _ => 0)) (w.heap.size + 1) 29 (iArr fun _ => 0) := hb2.setRow_
    exact bodyPost_ret (results_cell3 Try.results10 _ _ (w.heap.size + 1) 29 _ _ rfl hb4 Try.underlying29 rfl (by rw [iArr_size]; kernel_rfl) rfl rfl) rfl (by rw [He.out]; exact Ret.mk (below_setRow HE.out (by omega) _) (VTup.three rfl rfl rfl))
end Go.Proofs.Ytfbamdkalamliaa
