/- The document's: is a byte one of a set's?, walked. -/
import Derived.Test.YtfbamdkalamliaaClG
namespace Go.Proofs.Ytfbamdkalamliaa
open Go.RowKit LetM SetM
def inR (fold : Bool) (bs : List UInt8) (b : UInt8) : Bool := bs.any fun c => sameB fold [c] [b]
theorem inR_snoc (fold : Bool) (bs : List UInt8) (c b : UInt8) : inR fold (bs ++ [c]) b = (inR fold bs b || sameB fold [c] [b]) := by unfold inR; simp
theorem inR_app (fold : Bool) (xs bs : List UInt8) (b : UInt8) : inR fold (xs ++ bs) b = (inR fold xs b || inR fold bs b) := by unfold inR; simp
theorem one_cut {bs : List UInt8} {j : Nat} (h : j < bs.length) : (bs.take (j + 1)).drop j = [bs[j]] := by
  rw [List.take_succ_eq_append_getElem h, List.drop_append_of_le_length (by simp; omega), List.drop_of_length_le (by rw [List.length_take]; exact Nat.min_le_left _ _)]; rfl
set_option maxRecDepth 100000 in
set_option maxHeartbeats 2000000 in
theorem rin_any (f : Bool) (ws : List (List UInt8)) (y : UInt8) (u : Value) (w : World) (hS : VSet f ws u w) : Calls Try.prog 24 #[u, .int .u8 (y.toNat : Int)] w (Ret w (VEq (.bool (inR f ws.flatten y)))) := by
  obtain ⟨sl, rfl, hP⟩ := hS
  have hP0 := hP
  obtain ⟨A, c, rfl, hc1, hc2, hx⟩ := VParts.form hP
  unfold maxLen at hc2
  clear hP
  have hb1 := Box.new w 24 #[.bool f, .slice A ws.length c]
  obtain ⟨z, hz⟩ : ∃ z, inR f ws.flatten y = z := ⟨_, rfl⟩
  rw [hz]
  have Hz := hide hz
  clear hz
  go_enter Try.func24, Try.ntmps24
  go_wp2
  have HX : Hid (Below w.heap.size w (w.alloc (.cells #[.bool f, .slice A ws.length c] 24))) := hide (ext_alloc _ _)
  have HB := hide hb1
  clear hb1
  go_loopw [5] (fun i wr => ∃ k : Nat, k ≤ ws.length ∧ i = .int .i64 (k : Int) ∧ Hid (Below w.heap.size w wr) ∧ Hid (Box wr w.heap.size 24 #[.bool f, .slice A ws.length c]) ∧ Hid (inR f (ws.take k).flatten y = false)) (fun i _ => ws.length - (intOf i).toNat)
  case atStart => exact ⟨0, by omega, rfl, HX, HB, rfl⟩
  case round =>
    clear HX HB
    obtain ⟨k, hk, rfl, HX, HB, HI⟩ := hrel
    have hw1 := HB.out.at_ 1 rfl
    by_cases hlt : k < ws.length
    · obtain ⟨b, off, rfl, hbl, hcell⟩ := hx (by omega)
      obtain ⟨q, hq, hq2⟩ := hcell k hlt
      have hE : Ext w wr := HX.out
      have hq3 := (hE.cell (p := ⟨b, off + k, none⟩) hbl).trans hq
      obtain ⟨A2, c2, rfl, hd1, hd2, hy⟩ := VBytes.form hq2
      unfold maxLen at hd2
      have HI' : Hid (inR f ((ws.take k).flatten ++ ws[k].take 0) y = false) := by show _ = _; rw [List.take_zero, List.append_nil]; exact HI.out
      go_upto_region 5 with (fail)
      go_loopw [6] (fun i wq => ∃ j : Nat, j ≤ ws[k].length ∧ i = .int .i64 (j : Int) ∧ Hid (Below w.heap.size w wq) ∧ Hid (Box wq w.heap.size 24 #[.bool f, .slice (some ⟨b, off, none⟩) ws.length c]) ∧ Hid (inR f ((ws.take k).flatten ++ ws[k].take j) y = false)) (fun i _ => ws[k].length - (intOf i).toNat)
      case atStart => exact ⟨0, by omega, rfl, HX, HB, HI'⟩
      case round =>
        clear HX HB HI HI' hw1 hq3
        obtain ⟨j, hj, rfl, HX, HB, HI⟩ := hrel
        have hE : Ext w wr := HX.out
        have hw1 := HB.out.at_ 1 rfl
        have hq3 := (hE.cell (p := ⟨b, off + k, none⟩) hbl).trans hq
        by_cases hlt2 : j < ws[k].length
        · have hP := VP.st _ _ _ _ hP0 hE
          have hbs := HB.out
          have hsn := inR_snoc f ((ws.take k).flatten ++ ws[k].take j) ws[k][j] y
          rw [HI.out, Bool.false_or, List.append_assoc, ← List.take_succ_eq_append_getElem hlt2, ← one_cut hlt2] at hsn
          have hcl : ∀ wb, (ws[k].take (j + 1)).drop j = wb → wb.length ≤ 1000000 := fun wb h => by rw [← h, one_cut hlt2]; simp
          obtain ⟨t, ht⟩ : ∃ t, sameB f ((ws[k].take (j + 1)).drop j) [y] = t := ⟨_, rfl⟩
          rw [ht] at hsn
          have Hsn := hide hsn
          clear hsn
          cases t
          · have ht' := ht
            go_upto_region 7 with (fail)
            go_upto_region 7 with (fail)
            refine vregion 14 [] (by kernel_rfl) (by kernel_rfl) (fun _ _ _ _ _ h => h) ?_
            refine VWalk.det1 (Operand.tmp 2) (want_none rfl) (opd_frame 2 rfl (by kernel_rfl)) (fun ρ w hE h1 => by simp [execOp, h1, go_sem]; rfl) ?_
            refine VWalk.load1 4 _ rfl (want_none rfl) (opd_dep 0 24 0 rfl rfl rfl rfl) (fun _ => by kernel_rfl) (hbs.at_ 0 rfl) (ext_drew _) ?_
            refine VWalk.det1 (Operand.tmp 2) (want_none rfl) (opd_frame 2 rfl (by kernel_rfl)) (fun ρ w hE h1 => by simp [execOp, h1, go_sem]; rfl) ?_
            refine VWalk.load1F (F := VParts ws) 22 _ rfl (want_none rfl) (opd_dep 2 26 0 rfl rfl rfl rfl) (fun _ => by kernel_rfl) (hbs.at_ 1 rfl) hP (ext_drew _) ?_
            refine VWalk.move _ rfl (want_none rfl) (opd_frame 5 rfl (by kernel_rfl)) ?_
            refine VWalk.indexP 22 26 _ _ .i64 k rfl Try.underlying22 (by kernel_rfl) (want_none rfl) (opd_dep 3 27 1 rfl rfl rfl rfl) (opd_dep 4 28 0 rfl rfl rfl rfl) hlt ?_
            refine VWalk.loadP 26 _ rfl (want_none rfl) (opd_dep 5 29 0 rfl rfl rfl rfl) (fun _ => by kernel_rfl) ?_
            refine VWalk.move _ rfl (want_none rfl) (opd_frame 6 rfl (by kernel_rfl)) ?_
            refine VWalk.move _ rfl (want_none rfl) (opd_frame 6 rfl (by kernel_rfl)) ?_
            refine VWalk.add64 _ _ _ _ rfl (want_none rfl) (opd_dep 8 32 0 rfl rfl rfl rfl) (opd_const _) (by omega) ?_
            refine VWalk.cut2B 26 5 _ _ _ .i64 .i64 j (j+1) rfl Try.underlying26 (by kernel_rfl) (want_none rfl) (opd_dep 6 30 3 rfl rfl rfl rfl) (opd_dep 7 31 2 rfl rfl rfl rfl) (opd_dep 9 33 0 rfl rfl rfl rfl) (by omega) (by omega) ?_
            refine VWalk.move _ rfl (want_none rfl) (opd_frame 1 rfl (by kernel_rfl)) ?_
            refine VWalk.lit (Fs := [_]) [Operand.tmp 35] 26 5 1 _ rfl rfl (by decide) (by decide) rfl Try.underlying26 (by kernel_rfl) (by kernel_rfl) ⟨oneCell_eq rfl, trivial⟩ (want_none rfl) ⟨(opd_dep 11 35 0 rfl rfl rfl rfl), trivial⟩ ?_
            refine VWalk.call3 20 _ _ _ _ rfl (enters_of Try.func20 (by kernel_rfl) rfl) (want_none rfl) (opd_dep 1 25 11 rfl rfl rfl rfl) (opd_dep 10 34 2 rfl rfl rfl rfl) (opd_dep 12 36 0 rfl rfl rfl rfl) (fun a b c W hX ha hb hc => by rw [show a = _ from ha]; have h := rsame_any f _ [y] b c W hb hc (hcl _ rfl) (by simp); rwa [ht] at h) ?_
            refine ⟨rfl, fun W7 hE7 => ?_⟩
            refine VFin.eq ?_  -- 0
            refine VFin.eq ?_  -- 1
            refine VFin.eq ?_  -- 2
            refine VFin.any fun v7_3 hv7_3 => ?_
            refine VFin.eq ?_  -- 4
            refine VFin.any fun v7_5 hv7_5 => ?_
            refine VFin.any fun v7_6 hv7_6 => ?_
            refine VFin.eq ?_  -- 7
            refine VFin.eq ?_  -- 8
            refine VFin.eq ?_  -- 9
            refine VFin.any fun v7_10 hv7_10 => ?_
            refine VFin.eq ?_  -- 11
            refine VFin.any fun v7_12 hv7_12 => ?_
            refine VFin.eq ?_  -- 13
            refine VFin.nil ?_
            simp only [Act.put, List.setIfInBounds_toArray, List.set_cons_zero, List.set_cons_succ]
            clear hv7_3 hv7_5 hv7_6 hv7_10 hv7_12
            have hbs := hbs.drew.ext hE7
            have hE := hE.tr ((ext_drew _).tr hE7)
            have HX2 : Hid (Below w.heap.size w W7) := hide hE
            have HB2 := hide hbs
            clear hbs HX HB hE hP hw1 hq3
            go_wp2
            exact ⟨⟨j + 1, by omega, by go_num, HX2, HB2, Hsn⟩, by simp [intOf]; omega⟩
          · have Hres : Hid (z = true) := by
              show _ = _
              have h1 := takeF_succ ws k hlt
              have h2 : ws.flatten = (ws.take (k + 1)).flatten ++ (ws.drop (k + 1)).flatten := by rw [← List.flatten_append, List.take_append_drop]
              rw [← Hz.out, h2, h1, inR_app]
              have h3 : ws[k] = ws[k].take (j + 1) ++ ws[k].drop (j + 1) := (List.take_append_drop _ _).symm
              rw [h3, ← List.append_assoc, inR_app, Hsn.out, Bool.true_or, Bool.true_or]
            go_upto_region 7 with (fail)
            go_upto_region 7 with (fail)
            refine vregion 14 [] (by kernel_rfl) (by kernel_rfl) (fun _ _ _ _ _ h => h) ?_
            refine VWalk.det1 (Operand.tmp 2) (want_none rfl) (opd_frame 2 rfl (by kernel_rfl)) (fun ρ w hE h1 => by simp [execOp, h1, go_sem]; rfl) ?_
            refine VWalk.load1 4 _ rfl (want_none rfl) (opd_dep 0 24 0 rfl rfl rfl rfl) (fun _ => by kernel_rfl) (hbs.at_ 0 rfl) (ext_drew _) ?_
            refine VWalk.det1 (Operand.tmp 2) (want_none rfl) (opd_frame 2 rfl (by kernel_rfl)) (fun ρ w hE h1 => by simp [execOp, h1, go_sem]; rfl) ?_
            refine VWalk.load1F (F := VParts ws) 22 _ rfl (want_none rfl) (opd_dep 2 26 0 rfl rfl rfl rfl) (fun _ => by kernel_rfl) (hbs.at_ 1 rfl) hP (ext_drew _) ?_
            refine VWalk.move _ rfl (want_none rfl) (opd_frame 5 rfl (by kernel_rfl)) ?_
            refine VWalk.indexP 22 26 _ _ .i64 k rfl Try.underlying22 (by kernel_rfl) (want_none rfl) (opd_dep 3 27 1 rfl rfl rfl rfl) (opd_dep 4 28 0 rfl rfl rfl rfl) hlt ?_
            refine VWalk.loadP 26 _ rfl (want_none rfl) (opd_dep 5 29 0 rfl rfl rfl rfl) (fun _ => by kernel_rfl) ?_
            refine VWalk.move _ rfl (want_none rfl) (opd_frame 6 rfl (by kernel_rfl)) ?_
            refine VWalk.move _ rfl (want_none rfl) (opd_frame 6 rfl (by kernel_rfl)) ?_
            refine VWalk.add64 _ _ _ _ rfl (want_none rfl) (opd_dep 8 32 0 rfl rfl rfl rfl) (opd_const _) (by omega) ?_
            refine VWalk.cut2B 26 5 _ _ _ .i64 .i64 j (j+1) rfl Try.underlying26 (by kernel_rfl) (want_none rfl) (opd_dep 6 30 3 rfl rfl rfl rfl) (opd_dep 7 31 2 rfl rfl rfl rfl) (opd_dep 9 33 0 rfl rfl rfl rfl) (by omega) (by omega) ?_
            refine VWalk.move _ rfl (want_none rfl) (opd_frame 1 rfl (by kernel_rfl)) ?_
            refine VWalk.lit (Fs := [_]) [Operand.tmp 35] 26 5 1 _ rfl rfl (by decide) (by decide) rfl Try.underlying26 (by kernel_rfl) (by kernel_rfl) ⟨oneCell_eq rfl, trivial⟩ (want_none rfl) ⟨(opd_dep 11 35 0 rfl rfl rfl rfl), trivial⟩ ?_
            refine VWalk.call3 20 _ _ _ _ rfl (enters_of Try.func20 (by kernel_rfl) rfl) (want_none rfl) (opd_dep 1 25 11 rfl rfl rfl rfl) (opd_dep 10 34 2 rfl rfl rfl rfl) (opd_dep 12 36 0 rfl rfl rfl rfl) (fun a b c W hX ha hb hc => by rw [show a = _ from ha]; have h := rsame_any f _ [y] b c W hb hc (hcl _ rfl) (by simp); rwa [ht] at h) ?_
            refine ⟨rfl, fun W7 hE7 => ?_⟩
            refine VFin.eq ?_  -- 0
            refine VFin.eq ?_  -- 1
            refine VFin.eq ?_  -- 2
            refine VFin.any fun v7_3 hv7_3 => ?_
            refine VFin.eq ?_  -- 4
            refine VFin.any fun v7_5 hv7_5 => ?_
            refine VFin.any fun v7_6 hv7_6 => ?_
            refine VFin.eq ?_  -- 7
            refine VFin.eq ?_  -- 8
            refine VFin.eq ?_  -- 9
            refine VFin.any fun v7_10 hv7_10 => ?_
            refine VFin.eq ?_  -- 11
            refine VFin.any fun v7_12 hv7_12 => ?_
            refine VFin.eq ?_  -- 13
            refine VFin.nil ?_
            simp only [Act.put, List.setIfInBounds_toArray, List.set_cons_zero, List.set_cons_succ]
            clear hv7_3 hv7_5 hv7_6 hv7_10 hv7_12
            have hbs := hbs.drew.ext hE7
            have hE := hE.tr ((ext_drew _).tr hE7)
            clear hbs HX HB hP hw1 hq3
            go_wp2
            go_ret
            exact Ret.mk hE (congrArg Value.bool Hres.out.symm)
        · have hjn : j = ws[k].length := by omega
          have Hn : Hid (inR f (ws.take (k + 1)).flatten y = false) := by
            show _ = _
            have h1 := takeF_succ ws k hlt
            rw [h1]
            have h := HI.out
            rwa [hjn, List.take_length] at h
          subst hjn
          clear HI
          go_wp2
          exact ⟨⟨k + 1, by omega, by go_num, HX, HB, Hn⟩, by simp [intOf]; omega⟩
    · obtain rfl : k = ws.length := by omega
      have Hres : Hid (z = false) := by
        show _ = _
        rw [← Hz.out]
        have h := HI.out
        rwa [List.take_length] at h
      clear HI
      have hE : Ext w wr := HX.out
      go_wp2
      go_ret
      exact Ret.mk hE (congrArg Value.bool Hres.out.symm)
end Go.Proofs.Ytfbamdkalamliaa
