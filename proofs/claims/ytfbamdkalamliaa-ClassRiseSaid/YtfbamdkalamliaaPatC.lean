/- patset.Nodes, walked. -/
import Derived.Test.YtfbamdkalamliaaPatB
import Derived.Test.YtfbamdkalamliaaRF
import Derived.RangeFuncWrites
namespace Go.Proofs.Ytfbamdkalamliaa
open Go.RowKit Go.Shelf LetM SetM
attribute [local go_sem] Oper.semAt_some
/-- What a round of Nodes keeps. -/
def NodI (b g5 g6 g7 : Nat) (pre : List (Bool × UInt8)) (W : World) : Prop :=
  MapN W b (nrun (1, 0, []) pre).2.2 ∧ Box W g5 91 #[.map (some b)] ∧ Box W g6 3 #[.int .i64 ((nrun (1, 0, []) pre).1 : Int)] ∧ Box W g7 3 #[.int .i64 ((nrun (1, 0, []) pre).2.1 : Int)]
theorem MapN.ext {w w' : World} {b : Nat} {l : Tab} (h : MapN w b l) (hE : Ext w w') : MapN w' b l := h.same (hE.block b h.lt)
theorem PartsK.wide {K K' : Nat → Prop} {ps : List (List UInt8)} {v : Value} {w : World} (h : PartsK K ps v w) (hK : ∀ k, K k → K' k) : PartsK K' ps v w := by
  obtain ⟨A, c, h1, h2, h3, h4⟩ := h
  refine ⟨A, c, h1, h2, h3, fun hp => ?_⟩
  obtain ⟨b, off, rfl, hb, hcell⟩ := h4 hp
  refine ⟨b, off, rfl, hK b hb, fun j hj => ?_⟩
  obtain ⟨A2, c2, h5, h6, h7, h8⟩ := hcell j hj
  refine ⟨A2, c2, h5, h6, h7, fun hq => ?_⟩
  obtain ⟨b2, off2, rfl, hb2, hc2⟩ := h8 hq
  exact ⟨b2, off2, rfl, hK b2 hb2, hc2⟩
theorem keepK_set {K : Nat → Prop} {W : World} (p : Addr) (u : Value) (hp : ¬ K p.block) : KeepK K W (W.setCell p u) := ⟨by simp, fun k hk => Below.heap_setCell W p u k (fun e => hp (e ▸ hk))⟩
theorem keepK_grown {K : Nat → Prop} {W W' : World} {r : Nat} (hg : W.grownBy W' (some r)) (hK : ∀ k, K k → k < W.heap.size) (hr : ¬ K r) : KeepK K W W' := ⟨hg.size, fun k hk => hg.block k (hK k hk) (fun e => hr (by cases e; exact hk))⟩
theorem nodI_own (B b g5 g6 g7 : Nat) (hb : b < B) (h5 : g5 < B) (h6 : g6 < B) (h7 : g7 < B) : OwnFrom B (NodI b g5 g6 g7) := by
  intro s W W' row hs hg hr
  obtain ⟨h1, h2, h3, h4⟩ := hs
  have st : ∀ g, g < B → g < W.heap.size → W'.heap[g]? = W.heap[g]? := fun g hB hW => hg.block g hW (fun e => by have := (hr g e.symm).1; omega)
  exact ⟨h1.same (st b hb h1.lt), (st g5 h5 h2.lt).trans h2, (st g6 h6 h3.lt).trans h3, (st g7 h7 h4.lt).trans h4⟩
set_option maxRecDepth 100000 in
set_option maxHeartbeats 4000000 in
theorem pnodes_any (fold : Bool) (ws : List (List UInt8)) (v : Value) (w : World) (hP : VParts ws v w) (hlen : ws.flatten.length ≤ 1000000) : Calls Try.prog 58 #[.bool fold, v] w (Ret w (VEq (.int .i64 (nodesR fold ws : Int)))) := by
  have hP0 := hP
  obtain ⟨A, c, rfl, hc1, hc2, -⟩ := VParts.form hP
  unfold maxLen at hc2
  clear hP
  refine (callsIn_wide (n := 9)).1 ?_
  have h1 : 1 ≤ 9 := by omega
  refine callsIn_of_wp_marks Try.func58 rfl trivial ?_ rfl
  simp only [Try.ntmps58, List.size_toArray, List.length_cons, List.length_nil, Nat.reduceAdd, Nat.reduceSub, Array.replicate_succ, Array.replicate_zero, List.push_toArray, List.append_toArray, List.nil_append, List.cons_append]
  have hmk : (Instr.makeMap 91 none).run Try.prog w = .ok (.map (some w.heap.size)) (w.alloc (.map #[] 0)) := by simp [Instr.makeMap, newObj, Sem.run]
  gi_wp2_with (refine ⟨trivial, ?_⟩; gi_at_call 61; refine (callsIn_wide.2 (beginnings_any _ _ _ _ _)).mono ?_; rintro e w2 ⟨rfl, rfl⟩)
  clear hmk
  obtain ⟨s, hs⟩ : ∃ s, w.heap.size = s := ⟨_, rfl⟩
  have hM0 := MapN.made w
  have hx1 : Ext w (w.alloc (.map #[] 0)) := ext_alloc _ _
  have hb5 := Box.new (w.alloc (.map #[] 0)) 91 #[.map (some w.heap.size)]
  have hx2 : Ext (w.alloc (.map #[] 0)) ((w.alloc (.map #[] 0)).alloc (.cells #[.map (some w.heap.size)] 91)) := ext_alloc _ _
  have hb6 := Box.new ((w.alloc (.map #[] 0)).alloc (.cells #[.map (some w.heap.size)] 91)) 3 #[.int .i64 1]
  have hx3 : Ext ((w.alloc (.map #[] 0)).alloc (.cells #[.map (some w.heap.size)] 91)) (((w.alloc (.map #[] 0)).alloc (.cells #[.map (some w.heap.size)] 91)).alloc (.cells #[.int .i64 1] 3)) := ext_alloc _ _
  have hb7 := Box.new (((w.alloc (.map #[] 0)).alloc (.cells #[.map (some w.heap.size)] 91)).alloc (.cells #[.int .i64 1] 3)) 3 #[.int .i64 0]
  have hx4 : Ext (((w.alloc (.map #[] 0)).alloc (.cells #[.map (some w.heap.size)] 91)).alloc (.cells #[.int .i64 1] 3)) ((((w.alloc (.map #[] 0)).alloc (.cells #[.map (some w.heap.size)] 91)).alloc (.cells #[.int .i64 1] 3)).alloc (.cells #[.int .i64 0] 3)) := ext_alloc _ _
  obtain ⟨W4, hW4⟩ : ∃ W4, ((((w.alloc (.map #[] 0)).alloc (.cells #[.map (some w.heap.size)] 91)).alloc (.cells #[.int .i64 1] 3)).alloc (.cells #[.int .i64 0] 3)) = W4 := ⟨_, rfl⟩
  have hM4 := ((hM0.ext hx2).ext hx3).ext hx4
  have hB5 := (hb5.ext hx3).ext hx4
  have hB6 := hb6.ext hx4
  have hE4 := ((hx1.tr hx2).tr hx3).tr hx4
  have hz4 : W4.heap.size = s + 1 + 1 + 1 + 1 := by rw [← hW4, ← hs]; simp
  rw [World.size_alloc] at hB5
  rw [World.size_alloc, World.size_alloc] at hB6
  rw [World.size_alloc, World.size_alloc, World.size_alloc] at hb7
  rw [hW4] at hM4 hB5 hB6 hb7 hE4 ⊢
  clear hM0 hx1 hb5 hx2 hb6 hx3 hx4 hW4
  have hbf := Box.new W4 4 #[.bool fold]
  have hbp := Box.new (W4.alloc (.cells #[.bool fold] 4)) 22 #[.slice A ws.length c]
  rw [World.size_alloc] at hbp
  have hx5 : Ext W4 (W4.alloc (.cells #[.bool fold] 4)) := ext_alloc _ _
  have hx6 : Ext (W4.alloc (.cells #[.bool fold] 4)) ((W4.alloc (.cells #[.bool fold] 4)).alloc (.cells #[.slice A ws.length c] 22)) := ext_alloc _ _
  have hbf := hbf.ext hx6
  have hM4 := (hM4.ext hx5).ext hx6
  have hB5 := (hB5.ext hx5).ext hx6
  have hB6 := (hB6.ext hx5).ext hx6
  have hb7 := (hb7.ext hx5).ext hx6
  have hE6 := (hE4.tr hx5).tr hx6
  have hz6 : ((W4.alloc (.cells #[.bool fold] 4)).alloc (.cells #[.slice A ws.length c] 22)).heap.size = s + 1 + 1 + 1 + 1 + 1 + 1 := by simp [hz4]
  rw [hz4] at hbf hbp
  generalize (W4.alloc (.cells #[.bool fold] 4)).alloc (.cells #[.slice A ws.length c] 22) = W0 at *
  rw [hs] at hM4 hB5 hB6 hb7 ⊢
  clear hx5 hx6 hE4 hz4
  have hKlt : ∀ k, (k < s ∨ k = s + 1 + 1 + 1 + 1) → k < W0.heap.size := fun k hk => by omega
  have hPK : PartsK (fun k => k < s ∨ k = s + 1 + 1 + 1 + 1) ws (.slice A ws.length c) W0 := PartsK.wide (partsK_ext (K := fun k => k < s) (PartsK.of hP0 fun k hk => by omega) hE6 (fun k hk => by omega)) (fun k hk => Or.inl hk)
  refine wpIn_rangeFunc_ownG (F := Fence.wide) rfl h1 (gf := 64) (lb := #[.pointer (some ⟨s + 1 + 1 + 1 + 1 + 1, 0, none⟩), .pointer (some ⟨s + 1 + 1 + 1 + 1, 0, none⟩)]) rfl trivial (enters_of Try.func64 (by kernel_rfl) rfl)
    (beg_stops 8 (by omega) (s + 1 + 1 + 1 + 1 + 1) (s + 1 + 1 + 1 + 1) (fun k => k < s ∨ k = s + 1 + 1 + 1 + 1) (Or.inr rfl) fold ws _ W0 hPK (hbp.at_ 0 rfl) (hbf.at_ 0 rfl) hKlt) KeepK.t (keepK_b hKlt) (Below.refl _ _) (fun _ => rfl)
    (fun pre W => NodI s (s + 1) (s + 1 + 1) (s + 1 + 1 + 1) pre W ∧ Below s w W ∧ W0.heap.size ≤ W.heap.size) (fun _ _ _ => False)
    (OwnFrom.and (nodI_own W0.heap.size _ _ _ _ (by omega) (by omega) (by omega) (by omega)) (OwnFrom.and (ownFrom_below (by omega) (by omega)) (fun _ _ _ _ hs hg _ => Nat.le_trans hs hg.size)))
    (fun _ _ _ _ _ hs _ _ => hs) ⟨⟨hM4, hB5, hB6, hb7⟩, by rw [← hs]; exact hE6, Nat.le_refl _⟩
    (fun x => { tmps := #[.bool fold, .slice A ws.length c, undef, undef, .int .i64 0, .pointer (some ⟨s + 1, 0, none⟩), .pointer (some ⟨s + 1 + 1, 0, none⟩), .pointer (some ⟨s + 1 + 1 + 1, 0, none⟩), .bool x.1, .int .u8 (x.2.toNat : Int), undef, undef, undef,
      .map (some s), .bool fold, .slice A ws.length c, .func (.func 64) #[] #[.pointer (some ⟨s + 1 + 1 + 1 + 1 + 1, 0, none⟩), .pointer (some ⟨s + 1 + 1 + 1 + 1, 0, none⟩)], .bool x.1, .int .u8 (x.2.toNat : Int),
      undef, undef, undef, undef, undef, undef, undef, undef, undef, undef, undef, undef, undef, undef, undef, undef, undef, undef, undef, undef], defers := [] }) ?assign ?body ?done ?stop
  case assign =>
    intro l x W K hK
    unfold begV
    gi_wp2
    exact hK
  case body =>
    rintro l pre ⟨first, ch⟩ W ⟨⟨hM, hb5, hb6, hb7⟩, hB, hWs⟩ hpl
    have hmany := (nrun_le (1, 0, []) pre).1
    rw [begs_length] at hpl
    have hsn := nrun_snoc (1, 0, []) pre (first, ch)
    generalize nrun (1, 0, []) pre = st at *
    obtain ⟨many, node, tab⟩ := st
    dsimp only at *
    have hmb : many ≤ 1000001 := by omega
    have Hsn := hide hsn
    clear hsn
    cases first
    · have hMa := hM
      have hba5 := hb5
      have hba6 := hb6
      have hba7 := hb7
      have hBa : Below s w W := hB
      have hKoa := KeepsFrom.refl W0.heap.size W
      have hKka := KeepK.rf (fun k => k < s ∨ k = s + 1 + 1 + 1 + 1) W
      clear hM hb5 hb6 hb7 hB
      have hX : Ext W (W.alloc (.cells #[.int .i64 (node : Int), .int .u8 (ch.toNat : Int)] 96)) := ext_alloc _ _
      have hbe := Box.new W 96 #[.int .i64 (node : Int), .int .u8 (ch.toNat : Int)]
      have hMb := hMa.ext hX
      have hb5 := hba5.ext hX
      have hb6 := hba6.ext hX
      have hb7 := hba7.ext hX
      have hBb := hBa.trans (Below.mono hX (by have := hBa.size; omega))
      have hKo := hKoa.trans ((KeepsOthers.alloc _ (.cells #[.int .i64 (node : Int), .int .u8 (ch.toNat : Int)] 96)).from _)
      have hKk := hKka.t (KeepK.of_ext hX (fun k hk => Nat.lt_of_lt_of_le (hKlt k hk) (Nat.le_trans hWs hKka.1)))
      have hlk := hMb.lookup (node, ch)
      have hc5 := hb5.at_ 0 rfl
      have hc6 := hb6.at_ 0 rfl
      have hc7 := hb7.at_ 0 rfl
      have hf6 := hb6.frozen 0
      have hf7 := hb7.frozen 0
      have he0 := hbe.at_ 0 rfl
      have hcw7 := hba7.at_ 0 rfl
      have he1 := hbe.at_ 1 rfl
      clear hX hMa hba5 hba6 hba7 hBa hKoa hKka hbe
      cases hf : findN tab (node, ch) with
      | some j =>
        rw [hf] at hlk
        unfold edgeV at hlk
        dsimp only at hlk
        gi_wp2
        refine ⟨hKo.trans ((KeepsOthers.setCell (W.alloc (.cells #[.int .i64 (node : Int), .int .u8 (ch.toNat : Int)] 96)) ⟨s + 1 + 1 + 1, 0, none⟩ (.int .i64 (j : Int))).from _), hKk.t (keepK_set _ _ (by simp only; omega)), ⟨?_, hBb.setCell (p := ⟨s + 1 + 1 + 1, 0, none⟩) (by simp only; omega) _, by have := hKo.size; simp; omega⟩⟩
        unfold NodI
        rw [Hsn.out]
        unfold stepN
        dsimp only
        simp only [if_false, Bool.false_eq_true]
        rw [hf]
        exact ⟨hMb.same (Below.heap_setCell _ _ _ _ (by simp only; omega)), (Below.heap_setCell _ _ _ _ (by simp only; omega)).trans hb5, (Below.heap_setCell _ _ _ _ (by simp only; omega)).trans hb6, hb7.set_ 0 _⟩
      | none =>
        rw [hf] at hlk
        obtain ⟨w3, hup, hM3, hg3, hs3, -⟩ := hMb.push (node, ch) many hf
        unfold edgeV at hlk hup
        dsimp only at hlk hup
        have hq5 := (hg3.block (s + 1) hb5.lt (by simp)).trans hb5
        have hq6 : Box w3 (s + 1 + 1) 3 #[.int .i64 (many : Int)] := (hg3.block (s + 1 + 1) hb6.lt (by simp; omega)).trans hb6
        have hq7 : Box w3 (s + 1 + 1 + 1) 3 #[.int .i64 (node : Int)] := (hg3.block (s + 1 + 1 + 1) hb7.lt (by simp; omega)).trans hb7
        have hr6 := hq6.at_ 0 rfl
        have hr7 := hq7.at_ 0 rfl
        have hi6 := hq6.frozen 0
        have hi7 := hq7.frozen 0
        have hK3 := hKo.trans (KeepsFrom.of_grownBy (B := W0.heap.size) hg3 (fun j e => by cases e; omega))
        have hKk3 := hKk.t (keepK_grown hg3 (fun k hk => by have := hKlt k hk; have := hKo.size; omega) (by omega))
        have hB3 := hBb.grown hg3 (by have := hBb.size; omega) (fun k e => by cases e; exact Nat.le_refl _)
        clear hc7 hf6 hf7
        gi_wp2
        refine ⟨(hK3.trans ((KeepsOthers.setCell w3 ⟨s + 1 + 1, 0, none⟩ (.int .i64 ((many : Int) + 1))).from _)).trans ((KeepsOthers.setCell _ ⟨s + 1 + 1 + 1, 0, none⟩ (.int .i64 (many : Int))).from _), (hKk3.t (keepK_set _ _ (by simp only; omega))).t (keepK_set _ _ (by simp only; omega)), ⟨?_, (hB3.setCell (p := ⟨s + 1 + 1, 0, none⟩) (by simp only; omega) _).setCell (p := ⟨s + 1 + 1 + 1, 0, none⟩) (by simp only; omega) _, by have := hK3.size; simp; omega⟩⟩
        unfold NodI
        rw [Hsn.out]
        unfold stepN
        dsimp only
        simp only [if_false, Bool.false_eq_true]
        rw [hf]
        dsimp only
        rw [show ((many + 1 : Nat) : Int) = (many : Int) + 1 by omega]
        exact ⟨hM3.same ((Below.heap_setCell _ _ _ _ (by simp only; omega)).trans (Below.heap_setCell _ _ _ _ (by simp only; omega))), ((Below.heap_setCell _ _ _ _ (by simp only; omega)).trans (Below.heap_setCell _ _ _ _ (by simp only; omega))).trans hq5, (Below.heap_setCell _ _ _ _ (by simp only; omega)).trans (hq6.set_ 0 _), Box.set_ ((Below.heap_setCell _ _ _ _ (by simp only; omega)).trans hq7) 0 _⟩
    · have hMa := hM.same (Below.heap_setCell W ⟨s + 1 + 1 + 1, 0, none⟩ (.int .i64 0) s (by simp only; omega))
      have hba5 : Box (W.setCell ⟨s + 1 + 1 + 1, 0, none⟩ (.int .i64 0)) _ _ _ := (Below.heap_setCell W ⟨s + 1 + 1 + 1, 0, none⟩ (.int .i64 0) (s + 1) (by simp only; omega)).trans hb5
      have hba6 : Box (W.setCell ⟨s + 1 + 1 + 1, 0, none⟩ (.int .i64 0)) (s + 1 + 1) 3 #[.int .i64 (many : Int)] := (Below.heap_setCell W ⟨s + 1 + 1 + 1, 0, none⟩ (.int .i64 0) (s + 1 + 1) (by simp only; omega)).trans hb6
      have hba7 := hb7.set_ 0 (.int .i64 0)
      have hBa := hB.setCell (p := ⟨s + 1 + 1 + 1, 0, none⟩) (by simp only; omega) (.int .i64 0)
      have hKoa := (KeepsOthers.setCell W ⟨s + 1 + 1 + 1, 0, none⟩ (.int .i64 0)).from W0.heap.size
      have hKka : KeepK (fun k => k < s ∨ k = s + 1 + 1 + 1 + 1) W (W.setCell ⟨s + 1 + 1 + 1, 0, none⟩ (.int .i64 0)) := keepK_set _ _ (by simp only; omega)
      have hw7 := hb7.at_ 0 rfl
      have hg7 := hb7.frozen 0
      clear hM hb5 hb6 hb7 hB
      have hX : Ext (W.setCell ⟨s + 1 + 1 + 1, 0, none⟩ (.int .i64 0)) ((W.setCell ⟨s + 1 + 1 + 1, 0, none⟩ (.int .i64 0)).alloc (.cells #[.int .i64 0, .int .u8 (ch.toNat : Int)] 96)) := ext_alloc _ _
      have hbe := Box.new (W.setCell ⟨s + 1 + 1 + 1, 0, none⟩ (.int .i64 0)) 96 #[.int .i64 0, .int .u8 (ch.toNat : Int)]
      have hMb := hMa.ext hX
      have hb5 := hba5.ext hX
      have hb6 := hba6.ext hX
      have hb7 := hba7.ext hX
      have hBb := hBa.trans (Below.mono hX (by have := hBa.size; omega))
      have hKo := hKoa.trans ((KeepsOthers.alloc _ (.cells #[.int .i64 0, .int .u8 (ch.toNat : Int)] 96)).from _)
      have hKk := hKka.t (KeepK.of_ext hX (fun k hk => Nat.lt_of_lt_of_le (hKlt k hk) (Nat.le_trans hWs hKka.1)))
      have hlk := hMb.lookup (0, ch)
      have hc5 := hb5.at_ 0 rfl
      have hc6 := hb6.at_ 0 rfl
      have hc7 := hb7.at_ 0 rfl
      have hf6 := hb6.frozen 0
      have hf7 := hb7.frozen 0
      have he0 := hbe.at_ 0 rfl
      have hcw7 := hba7.at_ 0 rfl
      have he1 := hbe.at_ 1 rfl
      clear hX hMa hba5 hba6 hba7 hBa hKoa hKka hbe
      cases hf : findN tab (0, ch) with
      | some j =>
        rw [hf] at hlk
        unfold edgeV at hlk
        dsimp only at hlk
        rw [show ((0 : Nat) : Int) = 0 from rfl] at hlk
        gi_wp2
        refine ⟨hKo.trans ((KeepsOthers.setCell ((W.setCell ⟨s + 1 + 1 + 1, 0, none⟩ (.int .i64 0)).alloc (.cells #[.int .i64 0, .int .u8 (ch.toNat : Int)] 96)) ⟨s + 1 + 1 + 1, 0, none⟩ (.int .i64 (j : Int))).from _), hKk.t (keepK_set _ _ (by simp only; omega)), ⟨?_, hBb.setCell (p := ⟨s + 1 + 1 + 1, 0, none⟩) (by simp only; omega) _, by have := hKo.size; simp; omega⟩⟩
        unfold NodI
        rw [Hsn.out]
        unfold stepN
        dsimp only
        simp only [if_true]
        rw [hf]
        exact ⟨hMb.same (Below.heap_setCell _ _ _ _ (by simp only; omega)), (Below.heap_setCell _ _ _ _ (by simp only; omega)).trans hb5, (Below.heap_setCell _ _ _ _ (by simp only; omega)).trans hb6, hb7.set_ 0 _⟩
      | none =>
        rw [hf] at hlk
        obtain ⟨w3, hup, hM3, hg3, hs3, -⟩ := hMb.push (0, ch) many hf
        unfold edgeV at hlk hup
        dsimp only at hlk hup
        rw [show ((0 : Nat) : Int) = 0 from rfl] at hlk hup
        have hq5 := (hg3.block (s + 1) hb5.lt (by simp)).trans hb5
        have hq6 : Box w3 (s + 1 + 1) 3 #[.int .i64 (many : Int)] := (hg3.block (s + 1 + 1) hb6.lt (by simp; omega)).trans hb6
        have hq7 : Box w3 (s + 1 + 1 + 1) 3 #[.int .i64 0] := (hg3.block (s + 1 + 1 + 1) hb7.lt (by simp; omega)).trans hb7
        have hr6 := hq6.at_ 0 rfl
        have hr7 := hq7.at_ 0 rfl
        have hi6 := hq6.frozen 0
        have hi7 := hq7.frozen 0
        have hK3 := hKo.trans (KeepsFrom.of_grownBy (B := W0.heap.size) hg3 (fun j e => by cases e; omega))
        have hKk3 := hKk.t (keepK_grown hg3 (fun k hk => by have := hKlt k hk; have := hKo.size; omega) (by omega))
        have hB3 := hBb.grown hg3 (by have := hBb.size; omega) (fun k e => by cases e; exact Nat.le_refl _)
        clear hc7 hf6 hf7
        gi_wp2
        refine ⟨(hK3.trans ((KeepsOthers.setCell w3 ⟨s + 1 + 1, 0, none⟩ (.int .i64 ((many : Int) + 1))).from _)).trans ((KeepsOthers.setCell _ ⟨s + 1 + 1 + 1, 0, none⟩ (.int .i64 (many : Int))).from _), (hKk3.t (keepK_set _ _ (by simp only; omega))).t (keepK_set _ _ (by simp only; omega)), ⟨?_, (hB3.setCell (p := ⟨s + 1 + 1, 0, none⟩) (by simp only; omega) _).setCell (p := ⟨s + 1 + 1 + 1, 0, none⟩) (by simp only; omega) _, by have := hK3.size; simp; omega⟩⟩
        unfold NodI
        rw [Hsn.out]
        unfold stepN
        dsimp only
        simp only [if_true]
        rw [hf]
        dsimp only
        rw [show ((many + 1 : Nat) : Int) = (many : Int) + 1 by omega]
        exact ⟨hM3.same ((Below.heap_setCell _ _ _ _ (by simp only; omega)).trans (Below.heap_setCell _ _ _ _ (by simp only; omega))), ((Below.heap_setCell _ _ _ _ (by simp only; omega)).trans (Below.heap_setCell _ _ _ _ (by simp only; omega))).trans hq5, (Below.heap_setCell _ _ _ _ (by simp only; omega)).trans (hq6.set_ 0 _), Box.set_ ((Below.heap_setCell _ _ _ _ (by simp only; omega)).trans hq7) 0 _⟩
  case done =>
    rintro D ys W hD rfl ⟨⟨hM, hb5, hb6, hb7⟩, hB, hWs⟩ hK
    have hres := nrun_nodesR fold ws
    have hc6 := hb6.at_ 0 rfl
    have hDs : s ≤ D := by omega
    clear hM hb5 hb7
    rw [hres] at hc6
    gi_wp2
    refine ⟨by simp, .inl ⟨_, _, rfl, run_takeDeferred hK, ?_⟩⟩
    refine ⟨.int .i64 (nodesR fold ws : Int), by simp [results, Try.results58, go_sem], ?_⟩
    have hBw : Ext w W := by rw [← hs] at hB; exact hB
    exact Ret.mk (hBw.trans (belowK_b (w := w) (Nat.le_refl _) _ D _ _ (by omega) hK rfl rfl)) rfl
  case stop =>
    rintro D c pre W _ _ h _
    exact h.elim
end Go.Proofs.Ytfbamdkalamliaa
