/- patset.Check, walked. -/
import Derived.Test.YtfbamdkalamliaaPatE
import Derived.Test.YtfbamdkalamliaaRF
namespace Go.Proofs.Ytfbamdkalamliaa
open Go.RowKit Go.Shelf LetM SetM
def ctsL (ws : List (List UInt8)) : Cts := ws.foldl (fun c w => c.put w.length) ⟨0, 0, 0, 0⟩
theorem ctsL_snoc (ws : List (List UInt8)) (k : Nat) (h : k < ws.length) : ctsL (ws.take (k + 1)) = (ctsL (ws.take k)).put ws[k].length := by
  unfold ctsL
  rw [List.take_succ_eq_append_getElem h, List.foldl_append]
  rfl
theorem ctsL_facts (ws : List (List UInt8)) : ∀ k, k ≤ ws.length → (ctsL (ws.take k)).a = k ∧ (ctsL (ws.take k)).b = (ws.take k).flatten.length ∧ (ctsL (ws.take k)).l ≤ (ctsL (ws.take k)).b ∧ (ctsL (ws.take k)).s ≤ (ctsL (ws.take k)).b ∧
    (32 < (ctsL (ws.take k)).l ↔ ∃ w ∈ ws.take k, 32 < w.length) ∧ (0 < k → ((ctsL (ws.take k)).s = 0 ↔ ∃ w ∈ ws.take k, w = [])) := by
  intro k
  induction k with
  | zero => intro _; simp [ctsL]
  | succ k ih =>
    intro hk
    obtain ⟨h1, h2, h3, h4, h5, h6⟩ := ih (by omega)
    have hlt : k < ws.length := by omega
    rw [ctsL_snoc ws k hlt, flat_snoc ws k hlt]
    have hmem : ∀ p : List UInt8 → Prop, (∃ w ∈ ws.take (k + 1), p w) ↔ (∃ w ∈ ws.take k, p w) ∨ p ws[k] := fun p => by
      rw [List.take_succ_eq_append_getElem hlt]
      simp only [List.mem_append, List.mem_singleton]
      constructor
      · rintro ⟨w, hw | hw, hp⟩
        · exact .inl ⟨w, hw, hp⟩
        · subst hw; exact .inr hp
      · rintro (⟨w, hw, hp⟩ | hp)
        · exact ⟨w, .inl hw, hp⟩
        · exact ⟨_, .inr rfl, hp⟩
    have hnil : ws[k] = [] ↔ ws[k].length = 0 := ⟨fun e => by rw [e]; rfl, fun e => List.eq_nil_of_length_eq_zero e⟩
    rw [hmem (fun w => 32 < w.length), hmem (fun w => w = []), ← h5, hnil]
    generalize ctsL (ws.take k) = c at *
    unfold Cts.put
    dsimp only
    refine ⟨by omega, by omega, by omega, ?_, by omega, fun _ => ?_⟩
    · split <;> omega
    · by_cases hk0 : k = 0
      · subst hk0
        rw [if_pos (by omega)]
        simp
      · have h7 := h6 (by omega)
        rw [← h7]
        split <;> omega
/-- The errors' questions, by number. -/
def askB (c : Cts) (nd : Nat) : Nat → Bool
  | 0 => decide ((c.a : Int) = 0)
  | 1 => decide (64 < (c.a : Int))
  | 2 => decide ((c.s : Int) = 0)
  | 3 => decide (32 < (c.l : Int))
  | 4 => decide (600 < (c.b : Int))
  | _ => decide (400 < (nd : Int))
theorem check_facts (_fold : Bool) (ws : List (List UInt8)) (cs : Cts) (hc : ctsL ws = cs) : cs.a = ws.length ∧ cs.b = ws.flatten.length ∧ (32 < cs.l ↔ ∃ w ∈ ws, 32 < w.length) ∧ (0 < ws.length → (cs.s = 0 ↔ ∃ w ∈ ws, w = [])) := by
  obtain ⟨h1, h2, _, _, h5, h6⟩ := ctsL_facts ws ws.length (Nat.le_refl _)
  rw [List.take_length, hc] at h1 h2 h5 h6
  exact ⟨h1, h2, h5, h6⟩
theorem check_first (fold : Bool) (ws : List (List UInt8)) (cs : Cts) (nd : Nat) (hc : ctsL ws = cs) (hn : nodesR fold ws = nd) (k : Nat) (hk : k < 6) (hno : ∀ i, i < k → askB cs nd i = false) (hyes : askB cs nd k = true) : checkR fold ws = 50 + (k : Int) := by
  obtain ⟨h1, h2, h3, h4⟩ := check_facts fold ws cs hc
  unfold checkR
  have n0 : 0 < k → ¬ ws.length = 0 := fun h => by have := hno 0 h; simp [askB] at this; omega
  have n1 : 1 < k → ¬ 64 < ws.length := fun h => by have := hno 1 h; simp [askB] at this; omega
  have n2 : 2 < k → ¬ ∃ w ∈ ws, w = [] := fun h => by have := hno 2 h; have := n0 (by omega); rw [← h4 (by omega)]; simp [askB] at *; omega
  have n3 : 3 < k → ¬ ∃ w ∈ ws, 32 < w.length := fun h => by have := hno 3 h; rw [← h3]; simp [askB] at this; omega
  have n4 : 4 < k → ¬ 600 < ws.flatten.length := fun h => by have := hno 4 h; simp [askB] at this; omega
  rcases k with _ | _ | _ | _ | _ | _ | k
  · rw [if_pos (by simp [askB] at hyes; omega)]; rfl
  · rw [if_neg (n0 (by omega)), if_pos (by simp [askB] at hyes; omega)]; rfl
  · rw [if_neg (n0 (by omega)), if_neg (n1 (by omega)), if_pos ((h4 (by have := n0 (by omega); omega)).1 (by simp [askB] at hyes; omega))]; rfl
  · rw [if_neg (n0 (by omega)), if_neg (n1 (by omega)), if_neg (n2 (by omega)), if_pos (h3.1 (by simp [askB] at hyes; omega))]; rfl
  · rw [if_neg (n0 (by omega)), if_neg (n1 (by omega)), if_neg (n2 (by omega)), if_neg (n3 (by omega)), if_pos (by simp [askB] at hyes; omega)]; rfl
  · rw [if_neg (n0 (by omega)), if_neg (n1 (by omega)), if_neg (n2 (by omega)), if_neg (n3 (by omega)), if_neg (n4 (by omega)), if_pos (by simp [askB] at hyes; omega)]; rfl
  · omega
theorem check_none (fold : Bool) (ws : List (List UInt8)) (cs : Cts) (nd : Nat) (hc : ctsL ws = cs) (hn : nodesR fold ws = nd) (hno : ∀ i, i < 6 → askB cs nd i = false) : checkR fold ws = 0 := by
  obtain ⟨h1, h2, h3, h4⟩ := check_facts fold ws cs hc
  unfold checkR
  have n0 : ¬ ws.length = 0 := by have := hno 0 (by omega); simp [askB] at this; omega
  have n1 : ¬ 64 < ws.length := by have := hno 1 (by omega); simp [askB] at this; omega
  have n2 : ¬ ∃ w ∈ ws, w = [] := by have := hno 2 (by omega); rw [← h4 (by omega)]; simp [askB] at *; omega
  have n3 : ¬ ∃ w ∈ ws, 32 < w.length := by have := hno 3 (by omega); rw [← h3]; simp [askB] at this; omega
  have n4 : ¬ 600 < ws.flatten.length := by have := hno 4 (by omega); simp [askB] at this; omega
  have n5 : ¬ 400 < nodesR fold ws := by have := hno 5 (by omega); simp [askB] at this; omega
  rw [if_neg n0, if_neg n1, if_neg n2, if_neg n3, if_neg n4, if_neg n5]
set_option maxRecDepth 100000 in
set_option maxHeartbeats 4000000 in
theorem pcheck_any (fold : Bool) (ws : List (List UInt8)) (v : Value) (w : World) (hP : VParts ws v w) (hlen : ws.flatten.length ≤ 1000000) (hn : ws.length ≤ 1000000) : Calls Try.prog 43 #[.bool fold, v] w (Ret w (VEq (.int .i64 (checkR fold ws)))) := by
  have hP0 := hP
  obtain ⟨A, c, rfl, hc1, hc2, hx⟩ := VParts.form hP
  unfold maxLen at hc2
  clear hP
  have hb := Box.new w 81 #[.int .i64 0, .int .i64 0, .int .i64 0, .int .i64 0, .bool fold, .slice A ws.length c]
  have hX : Ext w (w.alloc (.cells #[.int .i64 0, .int .i64 0, .int .i64 0, .int .i64 0, .bool fold, .slice A ws.length c] 81)) := ext_alloc _ _
  have HB := hide hb
  have HX := hide hX
  clear hb hX
  go_enter Try.func43, Try.ntmps43
  go_wp2
  go_loopw [15] (fun i wr => ∃ k : Nat, k ≤ ws.length ∧ i = .int .i64 (k : Int) ∧ Hid (Box wr w.heap.size 81 (ctsA (ctsL (ws.take k)) (.bool fold) (.slice A ws.length c))) ∧ Hid (Below w.heap.size w wr)) (fun i _ => ws.length - (intOf i).toNat)
  case atStart => exact ⟨0, by omega, rfl, HB, HX⟩
  case round =>
    clear HB HX
    obtain ⟨k, hk, rfl, HB, HE⟩ := hrel
    have hEr : Ext w wr := HE.out
    obtain ⟨f1, f2, f3, f4, -, -⟩ := ctsL_facts ws k hk
    have hfl : (ws.take k).flatten.length ≤ ws.flatten.length := by
      conv => rhs; rw [← List.take_append_drop k ws, List.flatten_append, List.length_append]
      omega
    by_cases hlt : k < ws.length
    · obtain ⟨b, off, rfl, hb, hcell⟩ := hx (by omega)
      obtain ⟨x, hx1, hx2⟩ := hcell k hlt
      have hx3 := (hEr.cell (p := ⟨b, off + k, none⟩) hb).trans hx1
      obtain ⟨A2, c2, rfl, -⟩ := VBytes.form hx2
      have hwl := flat_le hlt
      have hct := count_any (ctsL (ws.take k)) w.heap.size (.bool fold) (.slice (some ⟨b, off, none⟩) ws.length c) A2 ws[k].length c2 wr HB.out (by omega) (by omega) (by omega) (by omega) (by omega)
      rw [← ctsL_snoc ws k hlt] at hct
      clear hcell hx hx1 hx2 f1 f2 f3 f4 hfl
      generalize ws[k].length = n at *
      go_wp2_with fail
      refine hct.mono ?_
      rintro e w2 ⟨rfl, hg2, hb2⟩
      have HB2 := hide hb2
      have HE2 : Hid (Below w.heap.size w w2) := hide (hEr.grown hg2 hEr.size (fun j e => by cases e; exact Nat.le_refl _))
      clear hct hg2 hb2
      go_wp2
      exact ⟨⟨k + 1, by omega, by go_num, HB2, HE2⟩, by simp [intOf]; omega⟩
    · obtain rfl : k = ws.length := by omega
      rw [List.take_length] at HB f1 f2 f3 f4
      obtain ⟨cs, hcs⟩ : ∃ cs, ctsL ws = cs := ⟨_, rfl⟩
      rw [hcs] at HB f1 f2 f3 f4
      have Hcs := hide hcs
      have hbL := HB.out
      clear hx hcs
      go_wp2_with fail
      refine (asks_any _ _).mono ?_
      rintro e w3 ⟨rfl, rfl⟩
      obtain ⟨g, hg⟩ : ∃ g, w.heap.size = g := ⟨_, rfl⟩
      have hbQ := (Box.new wr 89 #[.pointer (some ⟨w.heap.size, 0, none⟩)]).alloc (.cells (asksA wr.heap.size) 86)
      have hbA := Box.new (wr.alloc (.cells #[.pointer (some ⟨w.heap.size, 0, none⟩)] 89)) 86 (asksA wr.heap.size)
      have hX3 : Ext wr ((wr.alloc (.cells #[.pointer (some ⟨w.heap.size, 0, none⟩)] 89)).alloc (.cells (asksA wr.heap.size) 86)) := (ext_alloc _ _).tr (ext_alloc _ _)
      rw [World.size_alloc] at hbA
      have HL := hide (hbL.ext hX3)
      have HE3 : Hid (Below w.heap.size w ((wr.alloc (.cells #[.pointer (some ⟨w.heap.size, 0, none⟩)] 89)).alloc (.cells (asksA wr.heap.size) 86))) := hide (hEr.tr hX3)
      have HQ := hide hbQ
      have HA := hide hbA
      clear hbQ hbA hX3 hbL HB HE hEr
      generalize (wr.alloc (.cells #[.pointer (some ⟨w.heap.size, 0, none⟩)] 89)).alloc (.cells (asksA wr.heap.size) 86) = W3 at *
      generalize wr.heap.size = q at *
      rw [hg] at HL HQ ⊢
      go_wp2
      go_loopw [25] (fun i wr => ∃ k : Nat, k ≤ 6 ∧ i = .int .i64 (k : Int) ∧ Hid (∀ i, i < k → askB cs (nodesR fold ws) i = false) ∧ Hid (Box wr q 89 #[.pointer (some ⟨g, 0, none⟩)]) ∧ Hid (Box wr (q + 1) 86 (asksA q)) ∧ Hid (Box wr g 81 (ctsA cs (.bool fold) (.slice A ws.length c))) ∧ Hid (Below w.heap.size w wr)) (fun i _ => 6 - (intOf i).toNat)
      case atStart => exact ⟨0, by omega, rfl, hide (fun i h => by omega), HQ, HA, HL, HE3⟩
      case round =>
        clear HQ HA HL HE3
        obtain ⟨k, hk, rfl, HS, HQ, HA, HL, HE⟩ := hrel
        by_cases hk6 : k < 6
        · have : k = 0 ∨ k = 1 ∨ k = 2 ∨ k = 3 ∨ k = 4 ∨ k = 5 := by omega
          rcases this with rfl | rfl | rfl | rfl | rfl | rfl
          · have hbq := HQ.out
            have hbA := HA.out
            have hbL := HL.out
            have hP := VP.st _ _ _ _ hP0 (show Ext w wr from HE.out)
            have hca := hbA.at_ 0 rfl
            have hcb := hbA.at_ 1 rfl
            unfold fnA at hcb
            have hX : Ext wr (wr.alloc (.cells #[.int .i64 50, .func (.func 52) #[] #[.pointer (some ⟨q, 0, none⟩)]] 86)) := ext_alloc _ _
            have hak := ask1_any cs q g (.bool fold) (.slice A ws.length c) _ (hbq.ext hX) (hbL.ext hX)
            have hE : Ext w wr := HE.out
            clear hP
            go_wp2_with fail
            refine hak.mono ?_
            rintro e w4 ⟨u, rfl, hE4, rfl⟩
            have hE4' := hX.tr hE4
            have HQ2 := hide (hbq.ext hE4')
            have HA2 := hide (hbA.ext hE4')
            have HL2 := hide (hbL.ext hE4')
            have hEf := hE.tr hE4'
            have hb9 := (Box.new wr 86 #[.int .i64 50, .func (.func 52) #[] #[.pointer (some ⟨q, 0, none⟩)]]).ext hE4
            have hc9 := hb9.at_ 0 rfl
            have HE2 : Hid (Below w.heap.size w w4) := hide hEf
            clear hak hX hbq hbA hbL hca hcb hE4 hE4' hE hb9
            cases hv : askB cs (nodesR fold ws) 0
            · have HS2 : Hid (∀ i, i < 1 → askB cs (nodesR fold ws) i = false) := fun i hi => by
                by_cases e : i = 0
                · subst e; exact hv
                · exact HS.out i (by omega)
              have hv2 : (decide ((cs.a : Int) = 0)) = false := hv
              rw [hv2]
              clear hv hv2 hc9
              go_wp2
              exact ⟨⟨1, by omega, by go_num, HS2, HQ2, HA2, HL2, HE2⟩, by simp [intOf]⟩
            · have hres := check_first fold ws cs (nodesR fold ws) Hcs.out rfl 0 (by omega) HS.out hv
              have Hres := hide hres
              have hv2 : (decide ((cs.a : Int) = 0)) = true := hv
              rw [hv2]
              clear hv hv2 hres
              go_wp2
              go_ret
              exact Ret.mk hEf (congrArg (Value.int .i64) (by rw [Hres.out]; rfl))
          · have hbq := HQ.out
            have hbA := HA.out
            have hbL := HL.out
            have hP := VP.st _ _ _ _ hP0 (show Ext w wr from HE.out)
            have hca := hbA.at_ 2 rfl
            have hcb := hbA.at_ 3 rfl
            unfold fnA at hcb
            have hX : Ext wr (wr.alloc (.cells #[.int .i64 51, .func (.func 53) #[] #[.pointer (some ⟨q, 0, none⟩)]] 86)) := ext_alloc _ _
            have hak := ask2_any cs q g (.bool fold) (.slice A ws.length c) _ (hbq.ext hX) (hbL.ext hX)
            have hE : Ext w wr := HE.out
            clear hP
            go_wp2_with fail
            refine hak.mono ?_
            rintro e w4 ⟨u, rfl, hE4, rfl⟩
            have hE4' := hX.tr hE4
            have HQ2 := hide (hbq.ext hE4')
            have HA2 := hide (hbA.ext hE4')
            have HL2 := hide (hbL.ext hE4')
            have hEf := hE.tr hE4'
            have hb9 := (Box.new wr 86 #[.int .i64 51, .func (.func 53) #[] #[.pointer (some ⟨q, 0, none⟩)]]).ext hE4
            have hc9 := hb9.at_ 0 rfl
            have HE2 : Hid (Below w.heap.size w w4) := hide hEf
            clear hak hX hbq hbA hbL hca hcb hE4 hE4' hE hb9
            cases hv : askB cs (nodesR fold ws) 1
            · have HS2 : Hid (∀ i, i < 2 → askB cs (nodesR fold ws) i = false) := fun i hi => by
                by_cases e : i = 1
                · subst e; exact hv
                · exact HS.out i (by omega)
              have hv2 : (decide (64 < (cs.a : Int))) = false := hv
              rw [hv2]
              clear hv hv2 hc9
              go_wp2
              exact ⟨⟨2, by omega, by go_num, HS2, HQ2, HA2, HL2, HE2⟩, by simp [intOf]⟩
            · have hres := check_first fold ws cs (nodesR fold ws) Hcs.out rfl 1 (by omega) HS.out hv
              have Hres := hide hres
              have hv2 : (decide (64 < (cs.a : Int))) = true := hv
              rw [hv2]
              clear hv hv2 hres
              go_wp2
              go_ret
              exact Ret.mk hEf (congrArg (Value.int .i64) (by rw [Hres.out]; rfl))
          · have hbq := HQ.out
            have hbA := HA.out
            have hbL := HL.out
            have hP := VP.st _ _ _ _ hP0 (show Ext w wr from HE.out)
            have hca := hbA.at_ 4 rfl
            have hcb := hbA.at_ 5 rfl
            unfold fnA at hcb
            have hX : Ext wr (wr.alloc (.cells #[.int .i64 52, .func (.func 54) #[] #[.pointer (some ⟨q, 0, none⟩)]] 86)) := ext_alloc _ _
            have hak := ask3_any cs q g (.bool fold) (.slice A ws.length c) _ (hbq.ext hX) (hbL.ext hX)
            have hE : Ext w wr := HE.out
            clear hP
            go_wp2_with fail
            refine hak.mono ?_
            rintro e w4 ⟨u, rfl, hE4, rfl⟩
            have hE4' := hX.tr hE4
            have HQ2 := hide (hbq.ext hE4')
            have HA2 := hide (hbA.ext hE4')
            have HL2 := hide (hbL.ext hE4')
            have hEf := hE.tr hE4'
            have hb9 := (Box.new wr 86 #[.int .i64 52, .func (.func 54) #[] #[.pointer (some ⟨q, 0, none⟩)]]).ext hE4
            have hc9 := hb9.at_ 0 rfl
            have HE2 : Hid (Below w.heap.size w w4) := hide hEf
            clear hak hX hbq hbA hbL hca hcb hE4 hE4' hE hb9
            cases hv : askB cs (nodesR fold ws) 2
            · have HS2 : Hid (∀ i, i < 3 → askB cs (nodesR fold ws) i = false) := fun i hi => by
                by_cases e : i = 2
                · subst e; exact hv
                · exact HS.out i (by omega)
              have hv2 : (decide ((cs.s : Int) = 0)) = false := hv
              rw [hv2]
              clear hv hv2 hc9
              go_wp2
              exact ⟨⟨3, by omega, by go_num, HS2, HQ2, HA2, HL2, HE2⟩, by simp [intOf]⟩
            · have hres := check_first fold ws cs (nodesR fold ws) Hcs.out rfl 2 (by omega) HS.out hv
              have Hres := hide hres
              have hv2 : (decide ((cs.s : Int) = 0)) = true := hv
              rw [hv2]
              clear hv hv2 hres
              go_wp2
              go_ret
              exact Ret.mk hEf (congrArg (Value.int .i64) (by rw [Hres.out]; rfl))
          · have hbq := HQ.out
            have hbA := HA.out
            have hbL := HL.out
            have hP := VP.st _ _ _ _ hP0 (show Ext w wr from HE.out)
            have hca := hbA.at_ 6 rfl
            have hcb := hbA.at_ 7 rfl
            unfold fnA at hcb
            have hX : Ext wr (wr.alloc (.cells #[.int .i64 53, .func (.func 55) #[] #[.pointer (some ⟨q, 0, none⟩)]] 86)) := ext_alloc _ _
            have hak := ask4_any cs q g (.bool fold) (.slice A ws.length c) _ (hbq.ext hX) (hbL.ext hX)
            have hE : Ext w wr := HE.out
            clear hP
            go_wp2_with fail
            refine hak.mono ?_
            rintro e w4 ⟨u, rfl, hE4, rfl⟩
            have hE4' := hX.tr hE4
            have HQ2 := hide (hbq.ext hE4')
            have HA2 := hide (hbA.ext hE4')
            have HL2 := hide (hbL.ext hE4')
            have hEf := hE.tr hE4'
            have hb9 := (Box.new wr 86 #[.int .i64 53, .func (.func 55) #[] #[.pointer (some ⟨q, 0, none⟩)]]).ext hE4
            have hc9 := hb9.at_ 0 rfl
            have HE2 : Hid (Below w.heap.size w w4) := hide hEf
            clear hak hX hbq hbA hbL hca hcb hE4 hE4' hE hb9
            cases hv : askB cs (nodesR fold ws) 3
            · have HS2 : Hid (∀ i, i < 4 → askB cs (nodesR fold ws) i = false) := fun i hi => by
                by_cases e : i = 3
                · subst e; exact hv
                · exact HS.out i (by omega)
              have hv2 : (decide (32 < (cs.l : Int))) = false := hv
              rw [hv2]
              clear hv hv2 hc9
              go_wp2
              exact ⟨⟨4, by omega, by go_num, HS2, HQ2, HA2, HL2, HE2⟩, by simp [intOf]⟩
            · have hres := check_first fold ws cs (nodesR fold ws) Hcs.out rfl 3 (by omega) HS.out hv
              have Hres := hide hres
              have hv2 : (decide (32 < (cs.l : Int))) = true := hv
              rw [hv2]
              clear hv hv2 hres
              go_wp2
              go_ret
              exact Ret.mk hEf (congrArg (Value.int .i64) (by rw [Hres.out]; rfl))
          · have hbq := HQ.out
            have hbA := HA.out
            have hbL := HL.out
            have hP := VP.st _ _ _ _ hP0 (show Ext w wr from HE.out)
            have hca := hbA.at_ 8 rfl
            have hcb := hbA.at_ 9 rfl
            unfold fnA at hcb
            have hX : Ext wr (wr.alloc (.cells #[.int .i64 54, .func (.func 56) #[] #[.pointer (some ⟨q, 0, none⟩)]] 86)) := ext_alloc _ _
            have hak := ask5_any cs q g (.bool fold) (.slice A ws.length c) _ (hbq.ext hX) (hbL.ext hX)
            have hE : Ext w wr := HE.out
            clear hP
            go_wp2_with fail
            refine hak.mono ?_
            rintro e w4 ⟨u, rfl, hE4, rfl⟩
            have hE4' := hX.tr hE4
            have HQ2 := hide (hbq.ext hE4')
            have HA2 := hide (hbA.ext hE4')
            have HL2 := hide (hbL.ext hE4')
            have hEf := hE.tr hE4'
            have hb9 := (Box.new wr 86 #[.int .i64 54, .func (.func 56) #[] #[.pointer (some ⟨q, 0, none⟩)]]).ext hE4
            have hc9 := hb9.at_ 0 rfl
            have HE2 : Hid (Below w.heap.size w w4) := hide hEf
            clear hak hX hbq hbA hbL hca hcb hE4 hE4' hE hb9
            cases hv : askB cs (nodesR fold ws) 4
            · have HS2 : Hid (∀ i, i < 5 → askB cs (nodesR fold ws) i = false) := fun i hi => by
                by_cases e : i = 4
                · subst e; exact hv
                · exact HS.out i (by omega)
              have hv2 : (decide (600 < (cs.b : Int))) = false := hv
              rw [hv2]
              clear hv hv2 hc9
              go_wp2
              exact ⟨⟨5, by omega, by go_num, HS2, HQ2, HA2, HL2, HE2⟩, by simp [intOf]⟩
            · have hres := check_first fold ws cs (nodesR fold ws) Hcs.out rfl 4 (by omega) HS.out hv
              have Hres := hide hres
              have hv2 : (decide (600 < (cs.b : Int))) = true := hv
              rw [hv2]
              clear hv hv2 hres
              go_wp2
              go_ret
              exact Ret.mk hEf (congrArg (Value.int .i64) (by rw [Hres.out]; rfl))
          · have hbq := HQ.out
            have hbA := HA.out
            have hbL := HL.out
            have hP := VP.st _ _ _ _ hP0 (show Ext w wr from HE.out)
            have hca := hbA.at_ 10 rfl
            have hcb := hbA.at_ 11 rfl
            unfold fnA at hcb
            have hX : Ext wr (wr.alloc (.cells #[.int .i64 55, .func (.func 57) #[] #[.pointer (some ⟨q, 0, none⟩)]] 86)) := ext_alloc _ _
            have hak := ask6_any cs q g fold ws (.slice A ws.length c) _ (VP.st _ _ _ _ hP hX) hlen (hbq.ext hX) (hbL.ext hX)
            have hE : Ext w wr := HE.out
            clear hP
            go_wp2_with fail
            refine hak.mono ?_
            rintro e w4 ⟨u, rfl, hE4, rfl⟩
            have hE4' := hX.tr hE4
            have HQ2 := hide (hbq.ext hE4')
            have HA2 := hide (hbA.ext hE4')
            have HL2 := hide (hbL.ext hE4')
            have hEf := hE.tr hE4'
            have hb9 := (Box.new wr 86 #[.int .i64 55, .func (.func 57) #[] #[.pointer (some ⟨q, 0, none⟩)]]).ext hE4
            have hc9 := hb9.at_ 0 rfl
            have HE2 : Hid (Below w.heap.size w w4) := hide hEf
            clear hak hX hbq hbA hbL hca hcb hE4 hE4' hE hb9
            cases hv : askB cs (nodesR fold ws) 5
            · have HS2 : Hid (∀ i, i < 6 → askB cs (nodesR fold ws) i = false) := fun i hi => by
                by_cases e : i = 5
                · subst e; exact hv
                · exact HS.out i (by omega)
              have hv2 : (decide (400 < (nodesR fold ws : Int))) = false := hv
              rw [hv2]
              clear hv hv2 hc9
              go_wp2
              exact ⟨⟨6, by omega, by go_num, HS2, HQ2, HA2, HL2, HE2⟩, by simp [intOf]⟩
            · have hres := check_first fold ws cs (nodesR fold ws) Hcs.out rfl 5 (by omega) HS.out hv
              have Hres := hide hres
              have hv2 : (decide (400 < (nodesR fold ws : Int))) = true := hv
              rw [hv2]
              clear hv hv2 hres
              go_wp2
              go_ret
              exact Ret.mk hEf (congrArg (Value.int .i64) (by rw [Hres.out]; rfl))
        · obtain rfl : k = 6 := by omega
          have Hres := hide (check_none fold ws cs (nodesR fold ws) Hcs.out rfl HS.out)
          have hE : Ext w wr := HE.out
          clear HS HQ HA HL
          go_wp2
          go_ret
          exact Ret.mk hE (congrArg (Value.int .i64) Hres.out.symm)
end Go.Proofs.Ytfbamdkalamliaa
