/- Class: the small functions, walked. -/
import Derived.Test.YtfbamdkalamliaaKPH
import Derived.Test.YtfbamdkalamliaaB
import Derived.Test.YtfbamdkalamliaaAr
import Derived.Deep.Cut
namespace Go.Proofs.Ytfbamdkalamliaa
open Go.RowKit LetM SetM
def smallB (c : Nat) : Bool := decide (97 ≤ c) && decide (c ≤ 122)
set_option maxHeartbeats 1000000 in
theorem csmall_q (c : UInt8) (w : World) : Calls Try.prog 31 #[.int .u8 (c.toNat : Int)] w (fun e w' => e = .returned (.bool (smallB c.toNat)) ∧ w' = w) := by
  have hc := UInt8.toNat_lt c
  unfold smallB
  generalize c.toNat = x at *
  go_enter Try.func31, Try.ntmps31
  by_cases h1 : (97 : Int) ≤ x
  · by_cases h2 : (x : Int) ≤ 122
    · go_wp2
      go_ret
      exact ⟨congrArg (fun b => Ending.returned (.bool b)) (by rw [show decide (97 ≤ x) = true from decide_eq_true (by omega), show decide (x ≤ 122) = true from decide_eq_true (by omega)]; rfl), rfl⟩
    · go_wp2
      go_ret
      exact ⟨congrArg (fun b => Ending.returned (.bool b)) (by rw [show decide (x ≤ 122) = false from decide_eq_false (by omega), Bool.and_false]), rfl⟩
  · go_wp2
    go_ret
    exact ⟨congrArg (fun b => Ending.returned (.bool b)) (by rw [show decide (97 ≤ x) = false from decide_eq_false (by omega)]; rfl), rfl⟩
set_option maxHeartbeats 1000000 in
theorem cgreat_q (c : UInt8) (h : smallB c.toNat = true) (w : World) : Calls Try.prog 33 #[.int .u8 (c.toNat : Int)] w (fun e w' => e = .returned (.int .u8 ((c.toNat - 32 : Nat) : Int)) ∧ w' = w) := by
  have hc := UInt8.toNat_lt c
  unfold smallB at h
  simp only [Bool.and_eq_true, decide_eq_true_eq] at h
  have e : ((c.toNat - 32 : Nat) : Int) = (c.toNat : Int) - 32 := by omega
  rw [e]
  generalize c.toNat = x at *
  go_enter Try.func33, Try.ntmps33
  go_wp2
  go_ret
  exact ⟨rfl, rfl⟩
theorem csmall_any (c : UInt8) (w : World) : Calls Try.prog 31 #[.int .u8 (c.toNat : Int)] w (Ret w (VEq (.bool (smallB c.toNat)))) := (csmall_q c w).mono fun _ _ ⟨h1, h2⟩ => by subst h1; subst h2; exact Ret.mk (Ext.rf _) rfl
theorem cgreat_any (c : UInt8) (h : smallB c.toNat = true) (w : World) : Calls Try.prog 33 #[.int .u8 (c.toNat : Int)] w (Ret w (VEq (.int .u8 ((c.toNat - 32 : Nat) : Int)))) := (cgreat_q c h w).mono fun _ _ ⟨h1, h2⟩ => by subst h1; subst h2; exact Ret.mk (Ext.rf _) rfl
/-- The bytes that stand in these, or in these folded. -/
def hasB (fold : Bool) (bs : List UInt8) (i : Nat) : Bool := bs.any fun c => i == c.toNat || (fold && smallB c.toNat && i == c.toNat - 32)
theorem hasB_snoc (fold : Bool) (bs : List UInt8) (c : UInt8) (i : Nat) : hasB fold (bs ++ [c]) i = (hasB fold bs i || (i == c.toNat || (fold && smallB c.toNat && i == c.toNat - 32))) := by unfold hasB; simp
def bArr (h : Nat → Bool) : Array Value := arr 256 fun i => .bool (h i)
theorem bArr_set (h : Nat → Bool) (i : Nat) (b : Bool) : (bArr h).setIfInBounds i (.bool b) = bArr fun j => if j = i then b else h j := by
  unfold bArr
  rw [arr_set]
  exact arr_congr fun j _ => by simp only []; split <;> rfl
theorem bArr_size (h : Nat → Bool) : (bArr h).size = 256 := arr_size _ _
theorem bArr_get (h : Nat → Bool) {i : Nat} (hi : i < 256) : (bArr h)[i]? = some (.bool (h i)) := arr_get hi
theorem bArr_congr {h g : Nat → Bool} (e : ∀ i, h i = g i) : bArr h = bArr g := by rw [show h = g from funext e]
theorem has_step0 {fold : Bool} {pre : List UInt8} {c : UInt8} (hf : (fold && smallB c.toNat) = false) : (bArr (hasB fold pre)).setIfInBounds c.toNat (.bool true) = bArr (hasB fold (pre ++ [c])) := by
  rw [bArr_set]
  refine bArr_congr fun i => ?_
  rw [hasB_snoc, hf, Bool.false_and, Bool.or_false]
  by_cases e : i = c.toNat
  · subst e; simp
  · rw [if_neg e, show (i == c.toNat) = false from beq_eq_false_iff_ne.2 e, Bool.or_false]
theorem has_step1 {fold : Bool} {pre : List UInt8} {c : UInt8} (hf : (fold && smallB c.toNat) = true) : ((bArr (hasB fold pre)).setIfInBounds c.toNat (.bool true)).setIfInBounds (c.toNat - 32) (.bool true) = bArr (hasB fold (pre ++ [c])) := by
  rw [bArr_set, bArr_set]
  refine bArr_congr fun i => ?_
  rw [hasB_snoc, hf, Bool.true_and]
  by_cases e : i = c.toNat
  · subst e; simp
  · by_cases e2 : i = c.toNat - 32
    · simp [e2]
    · rw [if_neg e2, if_neg e, show (i == c.toNat) = false from beq_eq_false_iff_ne.2 e, show (i == c.toNat - 32) = false from beq_eq_false_iff_ne.2 e2, Bool.or_false, Bool.or_false]
theorem zeroB : (Try.prog.info? 43).bind (·.zero) = some (.agg (bArr fun _ => false)) := by kernel_rfl
set_option maxHeartbeats 1000000 in
set_option maxRecDepth 100000 in
theorem has_any (f : Bool) (ws : List (List UInt8)) (u : Value) (w : World) (hS : VSet f ws u w) : Calls Try.prog 30 #[u] w (Ret w (VEq (.agg (bArr (hasB f ws.flatten))))) := by
  obtain ⟨sl, rfl, hP⟩ := hS
  obtain ⟨A, c, rfl, hc1, hc2, hx⟩ := VParts.form hP
  unfold maxLen at hc2
  clear hP
  have hb1 := Box.new w 24 #[.bool f, .slice A ws.length c]
  go_enter Try.func30, Try.ntmps30
  go_wp2_with (refine wpList_allocZ rfl 43 rfl _ zeroB ?_)
  have hg3 := Box.new ((w.alloc (.cells #[.bool f, .slice A ws.length c] 24)).alloc (.cells (bArr fun _ => false) 43)) 43 (bArr fun _ => false)
  have hg2 := (Box.new (w.alloc (.cells #[.bool f, .slice A ws.length c] 24)) 43 (bArr fun _ => false)).alloc (.cells (bArr fun _ => false) 43)
  have hg1 := (hb1.alloc (.cells (bArr fun _ => false) 43)).alloc (.cells (bArr fun _ => false) 43)
  have hX : Below w.heap.size w (((w.alloc (.cells #[.bool f, .slice A ws.length c] 24)).alloc (.cells (bArr fun _ => false) 43)).alloc (.cells (bArr fun _ => false) 43)) := ((ext_alloc _ _).tr (ext_alloc _ _)).tr (ext_alloc _ _)
  simp only [World.size_alloc] at hg3 hg2 hg1
  generalize ((w.alloc (.cells #[.bool f, .slice A ws.length c] 24)).alloc (.cells (bArr fun _ => false) 43)).alloc (.cells (bArr fun _ => false) 43) = W0 at *
  have HG1 := hide hg1
  have HG2 := hide hg2
  have HG3 : Hid (Box W0 (w.heap.size + 1 + 1) 43 (bArr (hasB f (ws.take 0).flatten))) := hg3
  have HX := hide hX
  clear hb1 hg1 hg2 hg3 hX
  go_loopw [5, 7, 11] (fun _ _ i wr => ∃ k : Nat, k ≤ ws.length ∧ i = .int .i64 (k : Int) ∧ Hid (Below w.heap.size w wr) ∧ Hid (Box wr w.heap.size 24 #[.bool f, .slice A ws.length c]) ∧ Hid (Box wr (w.heap.size + 1) 43 (bArr fun _ => false)) ∧ Hid (Box wr (w.heap.size + 1 + 1) 43 (bArr (hasB f (ws.take k).flatten)))) (fun _ _ i _ => ws.length - (intOf i).toNat)
  case atStart => exact ⟨0, by omega, rfl, HX, HG1, HG2, HG3⟩
  case round =>
    clear HX HG1 HG2 HG3
    obtain ⟨k, hk, rfl, HX, HG1, HG2, HG3⟩ := hrel
    have hE : Ext w wr := HX.out
    by_cases hlt : k < ws.length
    · obtain ⟨b, off, rfl, hbl, hcell⟩ := hx (by omega)
      obtain ⟨z, hz, hz2⟩ := hcell k hlt
      have hz3 := (hE.cell (p := ⟨b, off + k, none⟩) hbl).trans hz
      obtain ⟨A2, c2, rfl, hd1, hd2, hy⟩ := VBytes.form hz2
      unfold maxLen at hd2
      have Hsn : Hid ((ws.take (k + 1)).flatten = (ws.take k).flatten ++ ws[k]) := takeF_succ ws k hlt
      clear hcell hx hz hz2
      generalize hwk : ws[k] = bs at *
      have HG3' : Hid (Box wr (w.heap.size + 1 + 1) 43 (bArr (hasB f ((ws.take k).flatten ++ bs.take 0)))) := by show Box _ _ _ _; rw [List.take_zero, List.append_nil]; exact HG3.out
      clear hwk HG3
      go_wp2
      go_loopw [7, 17] (fun _ i wq => ∃ j : Nat, j ≤ bs.length ∧ i = .int .i64 (j : Int) ∧ Hid (Below w.heap.size w wq) ∧ Hid (Box wq w.heap.size 24 #[.bool f, .slice (some ⟨b, off, none⟩) ws.length c]) ∧ Hid (Box wq (w.heap.size + 1) 43 (bArr fun _ => false)) ∧ Hid (Box wq (w.heap.size + 1 + 1) 43 (bArr (hasB f ((ws.take k).flatten ++ bs.take j))))) (fun _ i _ => bs.length - (intOf i).toNat)
      case atStart => exact ⟨0, by omega, rfl, HX, HG1, HG2, HG3'⟩
      case round =>
        clear HX HG1 HG2 HG3' hE hz3
        obtain ⟨j, hj, rfl, HX, HG1, HG2, HG3⟩ := hrel
        have hE : Ext w wr := HX.out
        by_cases hlt2 : j < bs.length
        · obtain ⟨b2, off2, rfl, hbl2, hcell2⟩ := hy (by omega)
          have hz4 := (hE.cell (p := ⟨b2, off2 + j, none⟩) hbl2).trans (hcell2 j hlt2)
          have Hsb : Hid (bs.take (j + 1) = bs.take j ++ [bs[j]]) := List.take_succ_eq_append_getElem hlt2
          have hfb := HG1.out.at_ 0 rfl
          have hcs := fun W => csmall_any bs[j] W
          have hcg : ∀ _ : smallB (bs[j]'hlt2).toNat = true, ∀ W, _ := fun h W => cgreat_any (bs[j]'hlt2) h W
          clear hcell2 hy
          generalize bs[j] = ch at *
          have hcl := UInt8.toNat_lt ch
          have hcl' : (ch.toNat : Int) < 256 := by omega
          have hcl2 : ((ch.toNat : Int).toNat : Nat) = ch.toNat := by omega
          have hold := (HG3.out.cell ch.toNat).trans (bArr_get _ (by omega))
          have hfr := HG3.out.frozen ch.toNat
          have Hq : Hid (Below w.heap.size w (wr.setCell ⟨w.heap.size + 1 + 1, ch.toNat, none⟩ (.bool true))) := hide (Below.setCell hE (p := ⟨w.heap.size + 1 + 1, ch.toNat, none⟩) (by simp; omega) _)
          have Hq1 := hide (HG1.out.far (p := ⟨w.heap.size + 1 + 1, ch.toNat, none⟩) (by simp; omega) (.bool true))
          have Hq2 := hide (HG2.out.far (p := ⟨w.heap.size + 1 + 1, ch.toNat, none⟩) (by simp) (.bool true))
          have Hq3 := hide (HG3.out.set_ ch.toNat (.bool true))
          have hq0 := Hq1.out.at_ 0 rfl
          have Hpre : Hid ((ws.take k).flatten ++ bs.take (j + 1) = ((ws.take k).flatten ++ bs.take j) ++ [ch]) := by show _ = _; rw [Hsb.out, List.append_assoc]
          by_cases hf : (f && smallB ch.toNat) = true
          · obtain ⟨rfl, hsm⟩ : f = true ∧ smallB ch.toNat = true := by simpa using hf
            have hcs := hcs (wr.setCell ⟨w.heap.size + 1 + 1, ch.toNat, none⟩ (.bool true))
            have hcg := hcg hsm
            rw [hsm] at hcs
            have Hf := hide hf
            have hsm' := of_decide_eq_true (by unfold smallB at hsm; simpa using hsm : decide (97 ≤ ch.toNat ∧ ch.toNat ≤ 122) = true)
            have hci : (((ch.toNat - 32 : Nat) : Int).toNat : Nat) = ch.toNat - 32 := by omega
            have hcj : ((ch.toNat - 32 : Nat) : Int) < 256 := by omega
            clear HX HG1 HG2 HG3 hE hf hsm
            go_wp2_with fail
            refine hcs.mono ?_
            rintro _ w2 ⟨u, rfl, hE2, rfl⟩
            clear hcs hold hfr
            go_wp2_with fail
            refine (hcg w2).mono ?_
            rintro _ w3 ⟨u, rfl, hE3, rfl⟩
            clear hcg
            have hE4 := hE2.tr hE3
            have hb3 := Hq3.out.ext hE4
            have ho3 : w3.cell? ⟨w.heap.size + 1 + 1, ch.toNat - 32, none⟩ = some _ := (hb3.cell (ch.toNat - 32)).trans (by rw [bArr_set]; exact bArr_get _ (by omega))
            have hf3 := hb3.frozen (ch.toNat - 32)
            have Hn : Hid (Box (w3.setCell ⟨w.heap.size + 1 + 1, ch.toNat - 32, none⟩ (.bool true)) (w.heap.size + 1 + 1) 43 (bArr (hasB true ((ws.take k).flatten ++ bs.take (j + 1))))) := by
              have h := hb3.set_ (ch.toNat - 32) (.bool true)
              rwa [has_step1 Hf.out, ← Hpre.out] at h
            have Hm : Hid (Below w.heap.size w (w3.setCell ⟨w.heap.size + 1 + 1, ch.toNat - 32, none⟩ (.bool true))) := hide (Below.setCell (Ext.tr Hq.out hE4) (p := ⟨w.heap.size + 1 + 1, ch.toNat - 32, none⟩) (by simp; omega) _)
            have Hm1 := hide ((Hq1.out.ext hE4).far (p := ⟨w.heap.size + 1 + 1, ch.toNat - 32, none⟩) (by simp; omega) (.bool true))
            have Hm2 := hide ((Hq2.out.ext hE4).far (p := ⟨w.heap.size + 1 + 1, ch.toNat - 32, none⟩) (by simp) (.bool true))
            clear hE2 hE3 hE4 hb3 Hq Hq1 Hq2 Hq3 hq0 Hf Hpre
            generalize ((ch.toNat - 32 : Nat) : Int) = ci at *
            go_wp2
            exact ⟨⟨j + 1, by omega, by go_num, Hm, Hm1, Hm2, Hn⟩, by simp [intOf]; omega⟩
          · have hf : (f && smallB ch.toNat) = false := by simpa using hf
            have Hn : Hid (Box (wr.setCell ⟨w.heap.size + 1 + 1, ch.toNat, none⟩ (.bool true)) (w.heap.size + 1 + 1) 43 (bArr (hasB f ((ws.take k).flatten ++ bs.take (j + 1))))) := by
              have h := Hq3.out
              rwa [has_step0 hf, ← Hpre.out] at h
            clear HX HG1 HG2 HG3 hE Hpre
            cases f
            · clear hf
              go_wp2_with fail
              exact ⟨⟨j + 1, by omega, by go_num, Hq, Hq1, Hq2, Hn⟩, by simp [intOf]; omega⟩
            · have hsm : smallB ch.toNat = false := by simpa using hf
              have hcs := hcs (wr.setCell ⟨w.heap.size + 1 + 1, ch.toNat, none⟩ (.bool true))
              rw [hsm] at hcs
              clear hf hsm hcg
              go_wp2_with fail
              refine hcs.mono ?_
              rintro _ w2 ⟨u, rfl, hE2, rfl⟩
              have Hm := hide (Ext.tr Hq.out hE2)
              have Hm1 := hide (Hq1.out.ext hE2)
              have Hm2 := hide (Hq2.out.ext hE2)
              have Hm3 := hide (Hn.out.ext hE2)
              clear hcs
              go_wp2
              exact ⟨⟨j + 1, by omega, by go_num, Hm, Hm1, Hm2, Hm3⟩, by simp [intOf]; omega⟩
        · obtain rfl : j = bs.length := by omega
          have Hn : Hid (Box wr (w.heap.size + 1 + 1) 43 (bArr (hasB f (ws.take (k + 1)).flatten))) := by
            have h := HG3.out
            rwa [List.take_length, ← Hsn.out] at h
          clear HG3 hE
          go_wp2_with fail
          exact ⟨⟨k + 1, by omega, by go_num, HX, HG1, HG2, Hn⟩, by simp [intOf]; omega⟩
    · obtain rfl : k = ws.length := by omega
      have Hn : Hid (Box wr (w.heap.size + 1 + 1) 43 (bArr (hasB f ws.flatten))) := by
        have h := HG3.out
        rwa [List.take_length] at h
      clear HG3
      have hb3 := Hn.out
      have hb2 := HG2.out
      go_wp2_with (first | (refine wpList_load_box rfl 43 _ rfl (w.heap.size + 1 + 1) rfl _ hb3 Try.underlying43 rfl (by rw [bArr_size]; kernel_rfl) ?_) | (refine wpList_store_row rfl 43 _ _ rfl (w.heap.size + 1) (bArr (hasB f ws.flatten)) rfl rfl 43 (bArr fun _ => false) hb2 (by rw [bArr_size]; kernel_rfl) (by rw [bArr_size, bArr_size]) (arr_one fun _ _ => rfl) ?_))
      have hb4 : Box (wr.setRow (w.heap.size + 1) (bArr (hasB f ws.flatten))) (w.heap.size + 1) 43 (bArr (hasB f ws.flatten)) := hb2.setRow_
      refine bodyPost_ret (results_cell_row Try.results30 _ _ (w.heap.size + 1) 43 _ (0, 0) _ rfl hb4 Try.underlying43 rfl (by rw [bArr_size]; kernel_rfl)) rfl ?_
      exact Ret.mk (below_setRow hE (by omega) _) rfl
end Go.Proofs.Ytfbamdkalamliaa
