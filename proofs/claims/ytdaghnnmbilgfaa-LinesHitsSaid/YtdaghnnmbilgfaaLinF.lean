/- sort.SearchInts, walked. -/
import Derived.Test.YtdaghnnmbilgfaaLinE
namespace Go.Proofs.Ytdaghnnmbilgfaa
open Go.RowKit Go.Shelf LinM
section
variable {P : Program} {Q : Exit → Act → World → Prop} {ops : Array Oper} {M m : Nat} {a0 : Act} {w0 : World} {K : List Oper → List VP → Prop} {o : Oper} {rest : List Oper} {env : List VP}
/-- The load of a cell of which a fact is known. -/
theorem VWalk.loadF {F : VP} {v : Value} {p : Addr} {w : World} (t : TypeId) (x : Operand) (ho : o.op = .load t x) (hw : Want ops M a0 w0 env o true) (hx : Opd ops M a0 w0 env o x (VEq (.pointer (some p))))
    (hagg : ∀ w : World, (isAgg t).run P w = .ok false w) (hc : w.cell? p = some v) (hF : F v w) (hE : Ext w w0)
    (hr : VWalk P Q ops M a0 w0 K m rest (F :: env)) : VWalk P Q ops M a0 w0 K (m + 1) (o :: rest) env :=
  .loadV t x ho hw hx (fun q w1 hE1 hq => by
    obtain rfl : q = .pointer (some p) := hq
    have h1 : w1.cell? p = some v := ((hE.tr hE1).cell (World.block_lt_of_cell? w p hc)).trans hc
    exact ⟨v, by simp [Instr.loadAt, Instr.sureAddr, loadVar, Sem.run_bind, hagg, h1], VP.st _ _ _ _ hF (hE.tr hE1)⟩) hr
end
set_option maxRecDepth 100000 in
set_option maxHeartbeats 1000000 in
theorem search1_any (ns : List Int) (x : Int) (k g1 g2 : Nat) (v : Value) (w : World) (h1 : w.cell? ⟨g1, 0, none⟩ = some v) (h2 : w.cell? ⟨g2, 0, none⟩ = some (.int .i64 x)) (hN : VInts ns v w) (hk : k < ns.length) :
    Calls Try.prog 39 #[.int .i64 (k : Int), .pointer (some ⟨g1, 0, none⟩), .pointer (some ⟨g2, 0, none⟩)] w (Ret w (VEq (.bool (decide (x ≤ ns[k]))))) := by
  go_enter Try.func39, Try.ntmps39
  by_cases hx : x ≤ ns[k]
  · rw [decide_eq_true hx]
    go_upto_region 1 with (fail)
    refine vregion 6 [] (by kernel_rfl) (by kernel_rfl) (fun _ _ _ _ _ h => h) ?_
    refine VWalk.loadF 72 _ rfl (want_none rfl) (opd_frame 1 rfl (by kernel_rfl)) (fun _ => by kernel_rfl) h1 hN (ext_drew _) ?_
    refine VWalk.move _ rfl (want_none rfl) (opd_frame 0 rfl (by kernel_rfl)) ?_
    refine VWalk.indexI 72 3 _ _ .i64 k rfl Try.underlying72 (by kernel_rfl) (want_none rfl) (opd_dep 0 5 1 rfl rfl rfl rfl) (opd_dep 1 6 0 rfl rfl rfl rfl) hk ?_
    refine VWalk.loadP 3 _ rfl (want_none rfl) (opd_dep 2 7 0 rfl rfl rfl rfl) (fun _ => by kernel_rfl) ?_
    refine VWalk.load1 3 _ rfl (want_none rfl) (opd_frame 2 rfl (by kernel_rfl)) (fun _ => by kernel_rfl) h2 (ext_drew _) ?_
    refine VWalk.geqT _ _ _ _ rfl (want_none rfl) (opd_dep 3 8 1 rfl rfl rfl rfl) (opd_dep 4 9 0 rfl rfl rfl rfl) hx ?_
    refine ⟨rfl, fun W1 hE1 => ?_⟩
    refine VFin.any fun v1_0 hv1_0 => ?_
    refine VFin.eq ?_  -- 1
    refine VFin.any fun v1_2 hv1_2 => ?_
    refine VFin.eq ?_  -- 3
    refine VFin.eq ?_  -- 4
    refine VFin.eq ?_  -- 5
    refine VFin.nil ?_
    simp only [Act.put, List.setIfInBounds_toArray, List.set_cons_zero, List.set_cons_succ]
    clear hv1_0 hv1_2
    have hE := ((ext_drew _).tr hE1)
    go_wp2
    go_ret
    exact Ret.mk hE rfl
  · rw [decide_eq_false hx]
    go_upto_region 1 with (fail)
    refine vregion 6 [] (by kernel_rfl) (by kernel_rfl) (fun _ _ _ _ _ h => h) ?_
    refine VWalk.loadF 72 _ rfl (want_none rfl) (opd_frame 1 rfl (by kernel_rfl)) (fun _ => by kernel_rfl) h1 hN (ext_drew _) ?_
    refine VWalk.move _ rfl (want_none rfl) (opd_frame 0 rfl (by kernel_rfl)) ?_
    refine VWalk.indexI 72 3 _ _ .i64 k rfl Try.underlying72 (by kernel_rfl) (want_none rfl) (opd_dep 0 5 1 rfl rfl rfl rfl) (opd_dep 1 6 0 rfl rfl rfl rfl) hk ?_
    refine VWalk.loadP 3 _ rfl (want_none rfl) (opd_dep 2 7 0 rfl rfl rfl rfl) (fun _ => by kernel_rfl) ?_
    refine VWalk.load1 3 _ rfl (want_none rfl) (opd_frame 2 rfl (by kernel_rfl)) (fun _ => by kernel_rfl) h2 (ext_drew _) ?_
    refine VWalk.geqF _ _ _ _ rfl (want_none rfl) (opd_dep 3 8 1 rfl rfl rfl rfl) (opd_dep 4 9 0 rfl rfl rfl rfl) (by omega) ?_
    refine ⟨rfl, fun W1 hE1 => ?_⟩
    refine VFin.any fun v1_0 hv1_0 => ?_
    refine VFin.eq ?_  -- 1
    refine VFin.any fun v1_2 hv1_2 => ?_
    refine VFin.eq ?_  -- 3
    refine VFin.eq ?_  -- 4
    refine VFin.eq ?_  -- 5
    refine VFin.nil ?_
    simp only [Act.put, List.setIfInBounds_toArray, List.set_cons_zero, List.set_cons_succ]
    clear hv1_0 hv1_2
    have hE := ((ext_drew _).tr hE1)
    go_wp2
    go_ret
    exact Ret.mk hE rfl
set_option maxRecDepth 100000 in
set_option maxHeartbeats 1000000 in
theorem search_any (ns : List Int) (x : Int) (g1 g2 : Nat) (v : Value) (w : World) (h1 : w.cell? ⟨g1, 0, none⟩ = some v) (h2 : w.cell? ⟨g2, 0, none⟩ = some (.int .i64 x)) (hN : VInts ns v w) (r : Nat) (hr : r ≤ ns.length) (hlt : ∀ j (h : j < ns.length), j < r → ns[j] < x) (hge : ∀ j (h : j < ns.length), r ≤ j → x ≤ ns[j]) (hlen : ns.length ≤ 2000000) :
    Calls Try.prog 38 #[.int .i64 (ns.length : Int), .func (.func 39) #[] #[.pointer (some ⟨g1, 0, none⟩), .pointer (some ⟨g2, 0, none⟩)]] w (Ret w (VEq (.int .i64 (r : Int)))) := by
  have hs := fun (k : Nat) w' h1 h2 h3 => search1_any ns x k g1 g2 v w' h1 h2 h3
  go_enter Try.func38, Try.ntmps38
  go_wp2
  go_loopw [5, 6] (fun i j wr => ∃ a b : Nat, a ≤ r ∧ r ≤ b ∧ b ≤ ns.length ∧ i = .int .i64 (a : Int) ∧ j = .int .i64 (b : Int) ∧ Below w.heap.size w wr) (fun i j _ => (intOf j).toNat - (intOf i).toNat)
  case atStart => exact ⟨0, ns.length, by omega, hr, by omega, rfl, rfl, Below.refl _ _⟩
  case round =>
    obtain ⟨a, b, ha, hb, hbl, rfl, rfl, hR⟩ := hrel
    have hE : Ext w wr := hR
    by_cases hab : a < b
    · go_wp2_with fail
      rw [show ((a : Int) + b) / 2 = (((a + b) / 2 : Nat) : Int) by omega]
      have hk : (a + b) / 2 < ns.length := by omega
      have hk1 : a ≤ (a + b) / 2 := by omega
      have hk2 : (a + b) / 2 < b := by omega
      generalize (a + b) / 2 = k at *
      refine (hs k wr ((hE.cell (World.block_lt_of_cell? w _ h1)).trans h1) ((hE.cell (World.block_lt_of_cell? w _ h2)).trans h2) (VP.st _ _ _ _ hN hE) hk).mono ?_
      rintro e w2 ⟨u, rfl, hE2, rfl⟩
      have hR2 : Below w.heap.size w w2 := hE.tr hE2
      by_cases hx : x ≤ ns[k]
      · have hkr : r ≤ k := by
          rcases Nat.lt_or_ge k r with h | h
          · have := hlt k hk h; omega
          · exact h
        rw [decide_eq_true hx]
        clear hs h1 h2 hlt hge hx
        go_wp2
        go_roundw
        case rel => exact ⟨a, k, ha, hkr, by omega, rfl, rfl, hR2⟩
        case measure => simp [intOf]; omega
      · have hkr : k < r := by
          rcases Nat.lt_or_ge k r with h | h
          · exact h
          · exact absurd (hge k hk h) hx
        rw [decide_eq_false hx]
        clear hs h1 h2 hlt hge hx
        go_wp2
        go_roundw
        case rel => exact ⟨k + 1, b, by omega, hb, hbl, by go_num, rfl, hR2⟩
        case measure => simp [intOf]; omega
    · obtain rfl : a = r := by omega
      obtain rfl : a = b := by omega
      go_wp2
      go_ret
      exact Ret.mk hE rfl
set_option maxRecDepth 100000 in
set_option maxHeartbeats 1000000 in
theorem searchInts_any (ns : List Int) (x : Int) (v : Value) (w : World) (hN : VInts ns v w) (r : Nat) (hr : r ≤ ns.length) (hlt : ∀ j (h : j < ns.length), j < r → ns[j] < x) (hge : ∀ j (h : j < ns.length), r ≤ j → x ≤ ns[j]) (hlen : ns.length ≤ 2000000) :
    Calls Try.prog 32 #[v, .int .i64 x] w (Ret w (VEq (.int .i64 (r : Int)))) := by
  have hN0 := hN
  obtain ⟨A, c, rfl, hc1, hc2, -⟩ := VInts.form hN
  have hE1 : Ext w ((w.alloc (.cells #[.slice A ns.length c] 72)).alloc (.cells #[.int .i64 x] 3)) := (ext_alloc _ _).tr (ext_alloc _ _)
  have hs := search_any ns x w.heap.size (w.heap.size + 1) _ ((w.alloc (.cells #[.slice A ns.length c] 72)).alloc (.cells #[.int .i64 x] 3)) (((Box.new w 72 #[.slice A ns.length c]).alloc _).at_ 0 rfl)
    (by have := (Box.new (w.alloc (.cells #[.slice A ns.length c] 72)) 3 #[.int .i64 x]).at_ 0 rfl; rwa [World.size_alloc] at this) (VP.st _ _ _ _ hN hE1) r hr hlt hge hlen
  clear hN0 hN hlt hge
  unfold maxLen at hc2
  go_enter Try.func32, Try.ntmps32
  go_wp2_with fail
  refine hs.mono ?_
  rintro e w2 ⟨u, rfl, hE2, rfl⟩
  go_wp2
  go_ret
  exact Ret.mk (hE1.tr hE2) rfl
end Go.Proofs.Ytdaghnnmbilgfaa
