/- patset.Own, walked. -/
import Derived.Test.YtkbhkadienddmaaPatI
namespace Go.Proofs.Ytkbhkadienddmaa
open Go.RowKit Go.Shelf LetM SetM
/-- A result that is kept in a cell. -/
theorem results_cell1 {P : Program} {fn : Func} {t : Tmp} {ty : TypeId} (h : fn.results = #[.cell t ty]) (tmps : Array Value) (w : World) (g : Nat) (T : TypeId) (cs : Array Value) (d : TypeDesc) (ht : tmps.getD t undef = .pointer (some ⟨g, 0, none⟩)) (hb : Box w g T cs) (hu : P.underlying ty = some d) (hd : (match d with | .struct _ | .array _ _ => true | _ => false) = true) (hi : (P.info? ty).map (·.size) = some cs.size) :
    (results fn tmps).run P w = .ok (.agg cs) w := by
  have hl := run_loadVar_row w g T ty cs (0, 0) d hb hu hd hi
  rw [Array.getD_eq_getD_getElem?] at ht
  simp [results, h, ht, asAddr, hl]
set_option maxRecDepth 100000 in
set_option maxHeartbeats 2000000 in
theorem pown_any (f : Bool) (ws : List (List UInt8)) (u : Value) (w : World) (hS : VSet f ws u w) (hl : ∀ b ∈ ws, b.length ≤ 1000000) (hn : ws.length ≤ 1000000) : Calls Try.prog 25 #[u] w (RetP w fun r w' => ∃ sv, r = .agg #[.bool f, sv] ∧ OwnP w' w.heap.size 25 5 sv ws) := by
  obtain ⟨sl, rfl, hP⟩ := hS
  have hP0 := hP
  obtain ⟨A, c, rfl, hc1, hc2, hx⟩ := VParts.form hP
  obtain ⟨i0, hi, hz0, hz1, hz2⟩ := info_parts Try.infoSl
  unfold maxLen at hc2
  clear hP
  have hX1 : Ext w (w.alloc (.cells #[.bool f, .slice A ws.length c] 24)) := ext_alloc _ _
  have hX2 : Ext (w.alloc (.cells #[.bool f, .slice A ws.length c] 24)) ((w.alloc (.cells #[.bool f, .slice A ws.length c] 24)).alloc (.cells #[.bool false, .slice none 0 0] 24)) := ext_alloc _ _
  have hX3 : Ext ((w.alloc (.cells #[.bool f, .slice A ws.length c] 24)).alloc (.cells #[.bool false, .slice none 0 0] 24)) (((w.alloc (.cells #[.bool f, .slice A ws.length c] 24)).alloc (.cells #[.bool false, .slice none 0 0] 24)).alloc (.cells #[.bool f, .slice none 0 0] 24)) := ext_alloc _ _
  have hb1 := ((Box.new w 24 #[.bool f, .slice A ws.length c]).ext hX2).ext hX3
  have hb2 := (Box.new (w.alloc (.cells #[.bool f, .slice A ws.length c] 24)) 24 #[.bool false, .slice none 0 0]).ext hX3
  have hb3 := Box.new ((w.alloc (.cells #[.bool f, .slice A ws.length c] 24)).alloc (.cells #[.bool false, .slice none 0 0] 24)) 24 #[.bool f, .slice none 0 0]
  rw [World.size_alloc] at hb2 hb3
  rw [World.size_alloc] at hb3
  have HX := hide ((hX1.tr hX2).tr hX3)
  have HB1 := hide hb1
  have HB2 := hide hb2
  have HB3 := hide hb3
  clear hX1 hX2 hX3 hb1 hb2 hb3
  go_enter Try.func25, Try.ntmps25
  go_wp2
  go_loopw [12] (fun i wr => ∃ (k : Nat) (sv : Value), k ≤ ws.length ∧ i = .int .i64 (k : Int) ∧ Hid (Box wr (w.heap.size + 1 + 1) 24 #[.bool f, sv]) ∧ Hid (OwnP wr (w.heap.size + 1 + 1 + 1) 25 5 sv (ws.take k)) ∧ Hid (Box wr (w.heap.size + 1) 24 #[.bool false, .slice none 0 0]) ∧ Hid (Below w.heap.size w wr)) (fun i _ => ws.length - (intOf i).toNat)
  case atStart => exact ⟨0, _, by omega, rfl, HB3, OwnP.nil _ _ _ _, HB2, HX⟩
  case round =>
    clear HX HB1 HB2 HB3
    obtain ⟨k, sv, hk, rfl, HB, HO, HR, HE⟩ := hrel
    have hEr : Ext w wr := HE.out
    by_cases hlt : k < ws.length
    · obtain ⟨b, off, rfl, hb9, hcell⟩ := hx (by omega)
      obtain ⟨z, hz1', hz2'⟩ := hcell k hlt
      have hz3 := (hEr.cell (p := ⟨b, off + k, none⟩) hb9).trans hz1'
      have hw9 := VP.st _ _ _ _ hz2' hEr
      obtain ⟨A9, c9, rfl, -⟩ := VBytes.form hz2'
      have hbs := HB.out
      have hwl := hl _ (List.getElem_mem hlt)
      have hts := List.take_succ_eq_append_getElem hlt
      have hlk : (ws.take k).length = k := by rw [List.length_take]; omega
      have hE := hEr
      clear hcell hz1' hz2' hx
      go_upto_region 5 with (fail)
      refine vregion 5 [] (by kernel_rfl) (by kernel_rfl) (fun _ _ _ _ _ h => h) ?_
      refine VWalk.det1 (Operand.tmp 3) (want_none rfl) (opd_frame 3 rfl (by kernel_rfl)) (fun ρ w hE h1 => by simp [execOp, h1, go_sem]; rfl) ?_
      refine VWalk.load1 22 _ rfl (want_none rfl) (opd_dep 0 16 0 rfl rfl rfl rfl) (fun _ => by kernel_rfl) (hbs.at_ 1 rfl) (ext_drew _) ?_
      refine VWalk.move _ rfl (want_none rfl) (opd_fr 5 rfl hw9 (ext_drew _) (by kernel_rfl)) ?_
      refine VWalk.call2 29 _ _ _ rfl (enters_of Try.func29 (by kernel_rfl) rfl) (want_none rfl) (opd_const _) (opd_dep 2 18 0 rfl rfl rfl rfl) (fun a b W hX ha hb => copied_own false ws[k] wr.heap.size a b W ha hb (by omega) (Nat.le_trans (ext_drew wr).size hX.size)) ?_
      refine VWalk.lit (Fs := [_]) [Operand.tmp 19] 22 25 1 _ rfl rfl (by decide) (by decide) rfl Try.underlying22 (by kernel_rfl) (by kernel_rfl) ⟨oneCell_own _ _ _, trivial⟩ (want_none rfl) ⟨(opd_dep 3 19 0 rfl rfl rfl rfl), trivial⟩ ?_
      refine ⟨rfl, fun W5 hE5 => ?_⟩
      refine VFin.eq ?_  -- 0
      refine VFin.eq ?_  -- 1
      refine VFin.any fun v5_2 hv5_2 => ?_
      refine VFin.any fun v5_3 hv5_3 => ?_
      refine VFin.any fun v5_4 hv5_4 => ?_
      refine VFin.nil ?_
      simp only [Act.put, List.setIfInBounds_toArray, List.set_cons_zero, List.set_cons_succ]
      clear hv5_2 hv5_3
      have hw9 := VP.st _ _ _ _ hw9 ((ext_drew _).tr hE5)
      have hbs := hbs.drew.ext hE5
      have hE := hE.tr ((ext_drew _).tr hE5)
      obtain ⟨xv, hsrc, hxo⟩ := Src.one hv5_4
      have hX9 : Ext wr W5 := (ext_drew _).tr hE5
      obtain ⟨xs, ho1, ho2, ho3⟩ := OwnP.st HO.out hX9
      have hg3 : w.heap.size + 1 + 1 < wr.heap.size := HB.out.lt
      have hxo := VOwn.low hxo (show w.heap.size + 1 + 1 + 1 ≤ wr.heap.size by omega)
      have hr9 := HR.out.ext hX9
      have hg9 : w.heap.size + 1 + 1 < W5.heap.size := hbs.lt
      rw [hlk] at ho1
      clear hv5_4 hX9 HB HO
      refine wpList_append_src rfl _ _ 22 rfl (w.heap.size + 1 + 1 + 1) 25 i0 (.slice none 0 0) 1 24 Try.underlying22 hi hz0 hz1 hz2 rfl (by omega) sv _ k 1 xs [xv] rfl ho1 rfl rfl hsrc (fun y hy => by rw [List.mem_singleton] at hy; subst hy; exact VOwn.cell1 hxo) (by omega) (by omega) ?_
      intro v' w' hown hgrow hat
      have hne : sv.ownBlock ≠ some (w.heap.size + 1 + 1) := fun e => by have := own_ge ho1 _ e; omega
      have hne2 : sv.ownBlock ≠ some (w.heap.size + 1) := fun e => by have := own_ge ho1 _ e; omega
      rw [← hlk] at ho1
      have hown2 := hown
      rw [← hlk] at hown2
      have hsn := OwnP.snoc (by decide) ho1 ho2 ho3 hxo hown2 hgrow
      rw [show textF false ws[k] = ws[k] from rfl, ← hts] at hsn
      have hb4 := Box.grows hbs hgrow hne
      have hr4 := Box.grows hr9 hgrow hne2
      have hE4 : Below w.heap.size w w' := hE.grown hgrow hE.size (fun j hj => by have := own_ge ho1 j hj; omega)
      obtain ⟨A4, c4, hv4⟩ := own_form hown
      subst hv4
      have hc14 := hb4.at_ 1 rfl
      have hf14 := hb4.frozen 1
      have HB := hide (hb4.set_ 1 (.slice A4 (k + 1) c4))
      have HO := hide (OwnP.set hsn ⟨w.heap.size + 1 + 1, 1, none⟩ (Nat.lt_succ_self _) (.slice A4 (k + 1) c4))
      have HR := hide (show Box (w'.setCell ⟨w.heap.size + 1 + 1, 1, none⟩ (.slice A4 (k + 1) c4)) (w.heap.size + 1) _ _ from (Below.heap_setCell w' ⟨w.heap.size + 1 + 1, 1, none⟩ _ (w.heap.size + 1) (by simp only; omega)).trans hr4)
      have HE := hide (hE4.setCell (p := ⟨w.heap.size + 1 + 1, 1, none⟩) (by simp only; omega) (.slice A4 (k + 1) c4))
      clear hb4 hr4 hE4 hsn hown hown2 hgrow hat hne hne2 ho1 ho2 ho3 hxo hsrc hbs hw9 hE hts hlk
      go_wp2
      exact ⟨⟨k + 1, _, by omega, by go_num, HB, HO, HR, HE⟩, by simp [intOf]; omega⟩
    · obtain rfl : k = ws.length := by omega
      have hO := HO.out
      rw [List.take_length] at hO
      obtain ⟨A4, c4, hv4⟩ := OwnP.form hO
      subst hv4
      have hb := HB.out
      have hr := HR.out
      have hc0 := hb.at_ 0 rfl
      have hc1 := hb.at_ 1 rfl
      have hd0 := hr.at_ 0 rfl
      have hd1 := hr.at_ 1 rfl
      have he0 := hr.frozen 0
      have he1 := hr.frozen 1
      have HS := hide ((hr.set_ 0 (.bool f)).set_ 1 (.slice A4 ws.length c4))
      have HE2 := hide ((hEr.setCell (p := ⟨w.heap.size + 1, 0, none⟩) (by simp) (.bool f)).setCell (p := ⟨w.heap.size + 1, 1, none⟩) (by simp) (.slice A4 ws.length c4))
      have HO2 := hide (OwnP.set (OwnP.set hO ⟨w.heap.size + 1, 0, none⟩ (by simp only; omega) (.bool f)) ⟨w.heap.size + 1, 1, none⟩ (by simp only; omega) (.slice A4 ws.length c4))
      clear HO HB HR hb hr hP0 hx hO
      go_wp2
      exact bodyPost_ret (results_cell1 Try.results25 _ _ (w.heap.size + 1) 24 #[.bool f, .slice A4 ws.length c4] _ rfl HS.out Try.underlying24 rfl (by kernel_rfl)) rfl (RetP.mk HE2.out ⟨_, rfl, OwnP.low HO2.out (by omega)⟩)
end Go.Proofs.Ytkbhkadienddmaa
