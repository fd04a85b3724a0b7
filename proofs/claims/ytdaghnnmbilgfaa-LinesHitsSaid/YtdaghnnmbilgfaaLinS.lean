/- The document's hits of a text, walked. -/
import Derived.Test.YtdaghnnmbilgfaaLinR
namespace Go.Proofs.Ytdaghnnmbilgfaa
open Go.RowKit Go.Shelf LinM LetM SetM
/-- A hit that stands. -/
def GoodH (f : Bool) (ws : List (List UInt8)) (text : List UInt8) (fr : Int) (h : Int × Int) : Prop := ∃ (p i : Nat) (hi : i < ws.length), p ≤ text.length ∧ h = (fr + p, (i : Int)) ∧ standsB f text (p : Int) ws[i] = true
theorem OwnH.low {w : World} {base base' : Nat} {v : Value} {hs : List (Int × Int)} (h : OwnH w base v hs) (hb : base' ≤ base) : OwnH w base' v hs := own_mono h hb
theorem OwnH.st {w w' : World} {base : Nat} {v : Value} {hs : List (Int × Int)} (h : OwnH w base v hs) (hE : Ext w w') : OwnH w' base v hs := own_st h hE
theorem mem_put {hs : List (Int × Int)} {k : Nat} {h x : Int × Int} (hx : x ∈ hs.take k ++ h :: hs.drop k) : x = h ∨ x ∈ hs := by
  rcases List.mem_append.1 hx with h1 | h1
  · exact .inr (List.mem_of_mem_take h1)
  · rcases List.mem_cons.1 h1 with h2 | h2
    · exact .inl h2
    · exact .inr (List.mem_of_mem_drop h2)
def occP (f : Bool) (ws : List (List UInt8)) (text : List UInt8) (fr : Int) (base : Nat) (r : Value) (w' : World) : Prop :=
  (rightS f ws = true ∧ 0 ≤ fr ∧ fr ≤ 4611686018427387904 ∧ ∃ hs sv, r = .tuple #[sv, .int .i64 0] ∧ OwnH w' base sv hs ∧ hs.length ≤ 100000 ∧ ∀ h ∈ hs, GoodH f ws text fr h) ∨ r = .tuple #[.slice none 0 0, .int .i64 2]
set_option maxRecDepth 100000 in
set_option maxHeartbeats 4000000 in
theorem occ_any (f : Bool) (ws : List (List UInt8)) (text : List UInt8) (fr : Int) (u v : Value) (w : World) (hS : VSet f ws u w) (hB : VBytes text v w) (hn : ws.length ≤ 80) (hl : ∀ b ∈ ws, b.length ≤ 3000) (ht : text.length ≤ 200) : Calls Try.prog 13 #[u, .int .i64 fr, v] w (RetP w (occP f ws text fr w.heap.size)) := by
  have hrg := fun W hS => setright_any f ws u W hS
  have hS0 := hS
  have hB0 := hB
  obtain ⟨i0, hi, hz0, hz1, hz2⟩ := info_parts Try.infoH
  obtain ⟨sl, rfl, hP⟩ := hS
  have hP0 := hP
  obtain ⟨A, c, rfl, -⟩ := VParts.form hP
  obtain ⟨B, d, rfl, hd1, hd2, -⟩ := VBytes.form hB
  unfold maxLen at hd2
  clear hP hB
  obtain ⟨F, hF⟩ : ∃ F, F = occP f ws text fr w.heap.size := ⟨_, rfl⟩
  rw [← hF]
  have HF := hide hF
  clear hF
  have hb3 := Box.new w 39 #[.bool f, .slice A ws.length c]
  have hX0 : Ext w (w.alloc (.cells #[.bool f, .slice A ws.length c] 39)) := ext_alloc _ _
  go_enter Try.func13, Try.ntmps13
  go_wp2_with fail
  refine (hrg _ (VP.st _ _ _ _ hS0 hX0)).mono ?_
  rintro e w2 ⟨u, rfl, hE2, rfl⟩
  have hb3 := hb3.ext hE2
  have hE := hX0.tr hE2
  clear hrg hX0 hE2
  have no : ∀ W, Ext w W → RetP w F (.returned (.tuple #[.slice none 0 0, .int .i64 2])) W := fun W hW => RetP.mk hW (by rw [HF.out]; exact .inr rfl)
  obtain ⟨r, hr⟩ : ∃ r, rightS f ws = r := ⟨_, rfl⟩
  have Hr := hide hr
  rw [hr]
  clear hr
  cases r
  · clear hb3 hP0 hB0 hS0
    go_wp2
    exact bodyPost_ret (v := .tuple #[.slice none 0 0, .int .i64 2]) (by simp [results, Try.results13, go_sem]) rfl (no _ hE)
  by_cases h0 : fr < 0
  · clear hb3 hP0 hB0 hS0
    go_wp2
    exact bodyPost_ret (v := .tuple #[.slice none 0 0, .int .i64 2]) (by simp [results, Try.results13, go_sem]) rfl (no _ hE)
  by_cases h1 : 4611686018427387904 < fr
  · clear hb3 hP0 hB0 hS0
    go_wp2
    exact bodyPost_ret (v := .tuple #[.slice none 0 0, .int .i64 2]) (by simp [results, Try.results13, go_sem]) rfl (no _ hE)
  have h0' : 0 ≤ fr := by omega
  have h1' : fr ≤ 4611686018427387904 := by omega
  have HB3 := hide hb3
  have HE := hide hE
  clear no h0 h1 hb3 hE
  go_wp2
  go_loopw [8, 9] (fun out i wr => ∃ (p : Nat) (hs : List (Int × Int)), p ≤ text.length + 1 ∧ i = .int .i64 (p : Int) ∧ hs.length ≤ p * 80 ∧ Hid (OwnH wr (w.heap.size + 1) out hs) ∧ Hid (∀ h ∈ hs, GoodH f ws text fr h) ∧ Hid (Below w.heap.size w wr) ∧ Hid (Box wr w.heap.size 39 #[.bool f, .slice A ws.length c])) (fun _ i _ => (text.length + 1) - (intOf i).toNat)
  case atStart => exact ⟨0, [], by omega, rfl, by simp, OwnH.nil _ _, hide (fun h hh => by simp at hh), HE, HB3⟩
  case round =>
    clear HB3 HE
    obtain ⟨p, hs, hp, rfl, hsl, HO, HG, HE, HB3⟩ := hrel
    generalize wr = wa at *
    have hEa : Ext w wa := HE.out
    obtain ⟨A8, c8, hv8⟩ := own_form HO.out
    subst hv8
    by_cases hlt : p ≤ text.length
    · go_wp2
      go_loopw [10, 11] (fun here j wr => ∃ (q : Nat) (hh : List (Int × Int)), q ≤ ws.length ∧ j = .int .i64 (q : Int) ∧ hh.length ≤ q ∧ Hid (OwnH wr wa.heap.size here hh) ∧ Hid (∀ h ∈ hh, GoodH f ws text fr h) ∧ Hid (Below wa.heap.size wa wr)) (fun _ j _ => ws.length - (intOf j).toNat)
      case atStart => exact ⟨0, [], by omega, rfl, by simp, OwnH.nil _ _, hide (fun h hh => by simp at hh), hide (Ext.rf wa)⟩
      case round =>
        obtain ⟨q, hh, hq, rfl, hhl, HH, HI, HX⟩ := hrel
        have hX : Ext wa wr := HX.out
        have hE := hEa.tr hX
        have hb3 := HB3.out.ext hX
        obtain ⟨A10, c10, hv10⟩ := own_form HH.out
        subst hv10
        have hcp := hb3.at_ 1 rfl
        by_cases hlq : q < ws.length
        · have hP := VP.st _ _ _ _ hP0 hE
          have hB := VP.st _ _ _ _ hB0 hE
          have hwl : ws[q].length ≤ 1000000 := by have := hl _ (List.getElem_mem hlq); omega
          obtain ⟨z, hz⟩ : ∃ z, standsB f text (p : Int) ws[q] = z := ⟨_, rfl⟩
          have Hz := hide hz
          cases z
          ·
            go_upto_region 11 with (fail)
            refine vregion 10 [] (by kernel_rfl) (by kernel_rfl) (fun _ _ _ _ _ h => h) ?_
            refine VWalk.det1 (Operand.tmp 3) (want_none rfl) (opd_frame 3 rfl (by kernel_rfl)) (fun ρ w hE h1 => by simp [execOp, h1, go_sem]; rfl) ?_
            refine VWalk.load1 4 _ rfl (want_none rfl) (opd_dep 0 36 0 rfl rfl rfl rfl) (fun _ => by kernel_rfl) (hb3.at_ 0 rfl) (ext_drew _) ?_
            refine VWalk.move _ rfl (want_none rfl) (opd_fr 2 rfl hB (ext_drew _) (by kernel_rfl)) ?_
            refine VWalk.move _ rfl (want_none rfl) (opd_frame 9 rfl (by kernel_rfl)) ?_
            refine VWalk.det1 (Operand.tmp 3) (want_none rfl) (opd_frame 3 rfl (by kernel_rfl)) (fun ρ w hE h1 => by simp [execOp, h1, go_sem]; rfl) ?_
            refine VWalk.load1F (F := VParts ws) 37 _ rfl (want_none rfl) (opd_dep 4 40 0 rfl rfl rfl rfl) (fun _ => by kernel_rfl) (hb3.at_ 1 rfl) hP (ext_drew _) ?_
            refine VWalk.move _ rfl (want_none rfl) (opd_frame 11 rfl (by kernel_rfl)) ?_
            refine VWalk.indexP 37 22 _ _ .i64 q rfl Try.underlying37 (by kernel_rfl) (want_none rfl) (opd_dep 5 41 1 rfl rfl rfl rfl) (opd_dep 6 42 0 rfl rfl rfl rfl) hlq ?_
            refine VWalk.loadP 22 _ rfl (want_none rfl) (opd_dep 7 43 0 rfl rfl rfl rfl) (fun _ => by kernel_rfl) ?_
            refine VWalk.call4 21 _ _ _ _ _ rfl (enters_of Try.func21 (by kernel_rfl) rfl) (want_none rfl) (opd_dep 1 37 7 rfl rfl rfl rfl) (opd_dep 2 38 6 rfl rfl rfl rfl) (opd_dep 3 39 5 rfl rfl rfl rfl) (opd_dep 8 44 0 rfl rfl rfl rfl) (c_rat f text ws[q] (p : Int) hwl) ?_
            refine VWalk.headF hz ?_
            refine ⟨rfl, fun W11 hE11 => ?_⟩
            refine VFin.eq ?_  -- 0
            refine VFin.eq ?_  -- 1
            refine VFin.any fun v11_2 hv11_2 => ?_
            refine VFin.eq ?_  -- 3
            refine VFin.eq ?_  -- 4
            refine VFin.any fun v11_5 hv11_5 => ?_
            refine VFin.eq ?_  -- 6
            refine VFin.any fun v11_7 hv11_7 => ?_
            refine VFin.any fun v11_8 hv11_8 => ?_
            refine VFin.eq ?_  -- 9
            refine VFin.nil ?_
            simp only [Act.put, List.setIfInBounds_toArray, List.set_cons_zero, List.set_cons_succ]
            clear hv11_2 hv11_5 hv11_7 hv11_8
            have hB := VP.st _ _ _ _ hB ((ext_drew _).tr hE11)
            have hb3 := hb3.drew.ext hE11
            have hE := hE.tr ((ext_drew _).tr hE11)
            have HX2 : Hid (Below wa.heap.size wa W11) := hide (hX.tr ((ext_drew _).tr hE11))
            have HH2 := hide (OwnH.st HH.out ((ext_drew _).tr hE11))
            clear hb3 hcp hP hB hE hX hz
            go_wp2
            exact ⟨⟨q + 1, hh, by omega, by go_num, by omega, HH2, HI, HX2⟩, by simp [intOf]; omega⟩
          ·
            go_upto_region 11 with (fail)
            refine vregion 10 [] (by kernel_rfl) (by kernel_rfl) (fun _ _ _ _ _ h => h) ?_
            refine VWalk.det1 (Operand.tmp 3) (want_none rfl) (opd_frame 3 rfl (by kernel_rfl)) (fun ρ w hE h1 => by simp [execOp, h1, go_sem]; rfl) ?_
            refine VWalk.load1 4 _ rfl (want_none rfl) (opd_dep 0 36 0 rfl rfl rfl rfl) (fun _ => by kernel_rfl) (hb3.at_ 0 rfl) (ext_drew _) ?_
            refine VWalk.move _ rfl (want_none rfl) (opd_fr 2 rfl hB (ext_drew _) (by kernel_rfl)) ?_
            refine VWalk.move _ rfl (want_none rfl) (opd_frame 9 rfl (by kernel_rfl)) ?_
            refine VWalk.det1 (Operand.tmp 3) (want_none rfl) (opd_frame 3 rfl (by kernel_rfl)) (fun ρ w hE h1 => by simp [execOp, h1, go_sem]; rfl) ?_
            refine VWalk.load1F (F := VParts ws) 37 _ rfl (want_none rfl) (opd_dep 4 40 0 rfl rfl rfl rfl) (fun _ => by kernel_rfl) (hb3.at_ 1 rfl) hP (ext_drew _) ?_
            refine VWalk.move _ rfl (want_none rfl) (opd_frame 11 rfl (by kernel_rfl)) ?_
            refine VWalk.indexP 37 22 _ _ .i64 q rfl Try.underlying37 (by kernel_rfl) (want_none rfl) (opd_dep 5 41 1 rfl rfl rfl rfl) (opd_dep 6 42 0 rfl rfl rfl rfl) hlq ?_
            refine VWalk.loadP 22 _ rfl (want_none rfl) (opd_dep 7 43 0 rfl rfl rfl rfl) (fun _ => by kernel_rfl) ?_
            refine VWalk.call4 21 _ _ _ _ _ rfl (enters_of Try.func21 (by kernel_rfl) rfl) (want_none rfl) (opd_dep 1 37 7 rfl rfl rfl rfl) (opd_dep 2 38 6 rfl rfl rfl rfl) (opd_dep 3 39 5 rfl rfl rfl rfl) (opd_dep 8 44 0 rfl rfl rfl rfl) (c_rat f text ws[q] (p : Int) hwl) ?_
            refine VWalk.headT hz ?_
            refine ⟨rfl, fun W11 hE11 => ?_⟩
            refine VFin.eq ?_  -- 0
            refine VFin.eq ?_  -- 1
            refine VFin.any fun v11_2 hv11_2 => ?_
            refine VFin.eq ?_  -- 3
            refine VFin.eq ?_  -- 4
            refine VFin.any fun v11_5 hv11_5 => ?_
            refine VFin.eq ?_  -- 6
            refine VFin.any fun v11_7 hv11_7 => ?_
            refine VFin.any fun v11_8 hv11_8 => ?_
            refine VFin.eq ?_  -- 9
            refine VFin.nil ?_
            simp only [Act.put, List.setIfInBounds_toArray, List.set_cons_zero, List.set_cons_succ]
            clear hv11_2 hv11_5 hv11_7 hv11_8
            have hB := VP.st _ _ _ _ hB ((ext_drew _).tr hE11)
            have hb3 := hb3.drew.ext hE11
            have hE := hE.tr ((ext_drew _).tr hE11)
            have hX2 : Ext wa W11 := hX.tr ((ext_drew _).tr hE11)
            have HH2 := OwnH.st HH.out ((ext_drew _).tr hE11)
            have hS := VP.st _ _ _ _ hS0 hE
            have hpt := put_any f ws hh (fr + (p : Int), (q : Int)) _ _ W11 hS (OwnH.pairs HH2) (by omega)
            have hd0 := hb3.at_ 0 rfl
            have hd1 := hb3.at_ 1 rfl
            unfold plcV at hpt
            dsimp only at hpt
            clear hb3 hcp hP hB hz HX hX HH HH2 hS hE
            go_wp2_with fail
            refine hpt.mono ?_
            rintro e w5 ⟨u, rfl, hE5, k5, hk5, hO5⟩
            have HX5 : Hid (Below wa.heap.size wa w5) := hide (hX2.tr hE5)
            have HH5 := hide (OwnH.low hO5 hX2.size)
            have HI5 : Hid (∀ h ∈ hh.take k5 ++ (fr + (p : Int), (q : Int)) :: hh.drop k5, GoodH f ws text fr h) := fun h hm => by
              rcases mem_put hm with rfl | hm
              · exact ⟨p, q, hlq, hlt, rfl, Hz.out⟩
              · exact HI.out h hm
            have hlen5 : (hh.take k5 ++ (fr + (p : Int), (q : Int)) :: hh.drop k5).length = hh.length + 1 := by simp; omega
            clear hpt hd0 hd1 hX2 hE5 hO5
            generalize hh.take k5 ++ (fr + (p : Int), (q : Int)) :: hh.drop k5 = h5 at *
            go_wp2
            exact ⟨⟨q + 1, h5, by omega, by go_num, by omega, HH5, HI5, HX5⟩, by simp [intOf]; omega⟩
        · obtain rfl : q = ws.length := by omega
          have hs1 : Src wr (.slice A10 hh.length c10) hh.length (cellsH hh) := by
            have := Src.pairs (lo := 0) (m := hh.length) (OwnH.pairs HH.out) A10 c10 (by omega) (fun _ b off e => by rw [e]; simp)
            rwa [List.drop_zero, List.take_length] at this
          have HOr := hide (OwnH.st HO.out hX)
          have hgs : w.heap.size < wr.heap.size := hb3.lt
          clear HH HO
          go_wp2_with (at_builtin; refine wpList_append_src rfl _ _ 40 rfl (w.heap.size + 1) 48 i0 (.agg #[.int .i64 0, .int .i64 0]) 2 16 Try.underlying40 hi hz0 hz1 hz2 rfl (by omega) _ _ hs.length hh.length (cellsH hs) (cellsH hh) rfl HOr.out (cellsH_len hh) rfl hs1 (cellsH_one hh) (by omega) (by omega) ?_; intro v' w' hown hgrow hat)
          have hE2 := hE.grown hgrow hE.size (fun j hj => by have := own_ge HOr.out j hj; omega)
          have hb4 := Box.grown hb3 hgrow (fun e => by have := own_ge HOr.out _ e; omega)
          have HO2 : Hid (OwnH w' (w.heap.size + 1) v' (hs ++ hh)) := by
            show OwnH _ _ _ _
            unfold OwnH
            rw [cellsH_append, List.length_append]
            exact hown
          have HG2 : Hid (∀ h ∈ hs ++ hh, GoodH f ws text fr h) := fun h hm => by
            rcases List.mem_append.1 hm with hm | hm
            · exact HG.out h hm
            · exact HI.out h hm
          have HE2 : Hid (Below w.heap.size w w') := hide hE2
          exact ⟨⟨p + 1, hs ++ hh, by omega, by go_num, by simp; omega, HO2, HG2, HE2, hide hb4⟩, by simp [intOf]; omega⟩
    · obtain rfl : p = text.length + 1 := by omega
      have HO2 := hide (OwnH.low HO.out (show w.heap.size ≤ w.heap.size + 1 by omega))
      clear HO
      go_wp2
      refine bodyPost_ret (v := .tuple #[.slice A8 hs.length c8, .int .i64 0]) (by simp [results, Try.results13, go_sem]) rfl (RetP.mk hEa ?_)
      rw [HF.out]
      exact .inl ⟨Hr.out, h0', h1', hs, _, rfl, HO2.out, by omega, HG.out⟩
end Go.Proofs.Ytdaghnnmbilgfaa
