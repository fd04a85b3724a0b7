/- Slices of pairs of numbers (Place, Hit); teaselref16.Same and Right, walked. -/
import Derived.Test.YtdaghnnmbilgfaaLinH
import Derived.Laws.StructEq
import Derived.Laws.Cover2
namespace Go.Proofs.Ytdaghnnmbilgfaa
open Go.RowKit Go.Shelf LinM
def VPairsP (ps : List (Int × Int)) (u : Value) (w : World) : Prop := ∃ A c, u = .slice A ps.length c ∧ ps.length ≤ c ∧ c ≤ maxLen ∧
  (0 < ps.length → ∃ b off, A = some ⟨b, off, none⟩ ∧ b < w.heap.size ∧ ∀ j (h : j < ps.length), w.cell? ⟨b, off + j * 2, none⟩ = some (.int .i64 ps[j].1) ∧ w.cell? ⟨b, off + j * 2 + 1, none⟩ = some (.int .i64 ps[j].2))
/-- A slice of pairs. -/
def VPairs (ps : List (Int × Int)) : VP := ⟨VPairsP ps, fun u w w' ⟨A, c, h1, h2, h3, h4⟩ hE => ⟨A, c, h1, h2, h3, fun hp => by
  obtain ⟨b, off, hA, hb, hc⟩ := h4 hp
  exact ⟨b, off, hA, Nat.lt_of_lt_of_le hb hE.size, fun j h => ⟨(hE.cell hb).trans (hc j h).1, (hE.cell hb).trans (hc j h).2⟩⟩⟩⟩
/-- Where a pair stands. -/
def VPtr2 (p : Int × Int) : VP := ⟨fun u w => ∃ b o, u = .pointer (some ⟨b, o, none⟩) ∧ b < w.heap.size ∧ w.cell? ⟨b, o, none⟩ = some (.int .i64 p.1) ∧ w.cell? ⟨b, o + 1, none⟩ = some (.int .i64 p.2), fun _ _ _ ⟨b, o, h1, h2, h3, h4⟩ hE =>
  ⟨b, o, h1, Nat.lt_of_lt_of_le h2 hE.size, (hE.cell h2).trans h3, (hE.cell h2).trans h4⟩⟩
section
variable {P : Program} {Q : Exit → Act → World → Prop} {ops : Array Oper} {M m : Nat} {a0 : Act} {w0 : World} {K : List Oper → List VP → Prop} {o : Oper} {rest : List Oper} {env : List VP}
theorem VWalk.index2 {ps : List (Int × Int)} (t e : TypeId) (x y : Operand) (k : IntKind) (i : Nat) (ho : o.op = .indexAddr t x y) (hu : P.underlying t = some (.slice e)) (hsz : (P.info? e).map (·.size) = some 2)
    (hw : Want ops M a0 w0 env o true) (hx : Opd ops M a0 w0 env o x (VPairs ps)) (hy : Opd ops M a0 w0 env o y (VEq (.int k (i : Int)))) (hlt : i < ps.length)
    (hr : VWalk P Q ops M a0 w0 K m rest (VPtr2 ps[i] :: env)) : VWalk P Q ops M a0 w0 K (m + 1) (o :: rest) env :=
  .val hw (fun a w hE hC hD => by
    have hX := hx a w hE hC hD
    have hY : a.eval y = .int k (i : Int) := hy a w hE hC hD
    obtain ⟨A, c, hA, _, _, hcell⟩ := hX
    obtain ⟨b, off, rfl, hb, hc⟩ := hcell (by omega)
    obtain ⟨h1, h2⟩ := hc i hlt
    have he : P.elem t = e := by unfold Program.elem; rw [hu]
    cases hi' : P.info? e with
    | none => simp [hi'] at hsz
    | some ie =>
      simp only [hi', Option.map_some, Option.some.injEq] at hsz
      refine ⟨.pointer (some ⟨b, off + i * 2, none⟩), ?_, b, off + i * 2, rfl, hb, h1, h2⟩
      have hu' : P.underlying t = some (.slice (P.elem t)) := by rw [he]; exact hu
      revert hA hY
      generalize a.eval = ρ
      intro hA hY
      unfold execOp
      simp [ho, hA, hY, run_indexAt_slice (h := hu'), hu, sizeOf, typeInfo, hi', hsz, hlt, addr_add, go_sem, Result.andThen]) hr
theorem run_load2 (w : World) (b o : Nat) (t : TypeId) (p : Int × Int) (d : TypeDesc) (hu : P.underlying t = some d) (hd : (match d with | .struct _ | .array _ _ => true | _ => false) = true) (hi : (P.info? t).map (·.size) = some 2) (h1 : w.cell? ⟨b, o, none⟩ = some (.int .i64 p.1)) (h2 : w.cell? ⟨b, o + 1, none⟩ = some (.int .i64 p.2)) :
    (loadVar t ⟨b, o, none⟩).run P w = .ok (plcV p) w := by
  cases hi' : P.info? t with
  | none => simp [hi'] at hi
  | some ie =>
    simp only [hi', Option.map_some, Option.some.injEq] at hi
    unfold loadVar isAgg
    cases d <;> simp at hd <;> simp [hu, Sem.run_bind, run_underlying hu, Go.sizeOf, typeInfo, hi', hi, loadCells, loadCellsFrom, h1, h2, addr_add, plcV, go_sem]
theorem VWalk.load2 {p : Int × Int} (t : TypeId) (x : Operand) (ho : o.op = .load t x) (hw : Want ops M a0 w0 env o true) (hx : Opd ops M a0 w0 env o x (VPtr2 p))
    {d : TypeDesc} (hu : P.underlying t = some d) (hd : (match d with | .struct _ | .array _ _ => true | _ => false) = true) (hi : (P.info? t).map (·.size) = some 2)
    (hr : VWalk P Q ops M a0 w0 K m rest (VEq (plcV p) :: env)) : VWalk P Q ops M a0 w0 K (m + 1) (o :: rest) env :=
  .loadV t x ho hw hx (fun u w1 _ ⟨b, of, h1, _, h3, h4⟩ => ⟨plcV p, by subst h1; simp [Instr.loadAt, Instr.sureAddr, Sem.run_bind, run_load2 w1 b of t p d hu hd hi h3 h4], rfl⟩) hr
end
section
variable {Q : Exit → Act → World → Prop} {ops : Array Oper} {M m : Nat} {a0 : Act} {w0 : World} {K : List Oper → List VP → Prop} {o : Oper} {rest : List Oper} {env : List VP}
theorem eq_plc (a b c d : Int) (w : World) : (Op.equalIn 10000 27 (.agg #[.int .i64 a, .int .i64 b]) (.agg #[.int .i64 c, .int .i64 d])).run Try.prog w = .ok (a == c && b == d) w := by
  have hS : Try.prog.underlying 27 = some (.struct (Try.prog.fieldsOf 27)) := by kernel_rfl
  have hp : Try.prog.stoodInHeld 27 = false := by kernel_rfl
  rw [show (10000 : Nat) = 9999 + 1 from rfl, run_equalIn_agg w 9999 27 _ _ hS hp]
  simp only [Program.fieldsOf, Try.underlying27]
  go_simp
  by_cases h1 : a = c <;> by_cases h2 : b = d <;> simp [h1, h2]
theorem eq_cnt (a b e c d f : Int) (w : World) : (Op.equalIn 10000 25 (.agg #[.int .i64 a, .int .i64 b, .int .i64 e]) (.agg #[.int .i64 c, .int .i64 d, .int .i64 f])).run Try.prog w = .ok (a == c && b == d && e == f) w := by
  have hS : Try.prog.underlying 25 = some (.struct (Try.prog.fieldsOf 25)) := by kernel_rfl
  have hp : Try.prog.stoodInHeld 25 = false := by kernel_rfl
  rw [show (10000 : Nat) = 9999 + 1 from rfl, run_equalIn_agg w 9999 25 _ _ hS hp]
  simp only [Program.fieldsOf, Try.underlying25]
  go_simp
  by_cases h1 : a = c <;> by_cases h2 : b = d <;> by_cases h3 : e = f <;> simp [h1, h2, h3]
theorem ne_pair {s t : Int × Int} (hab : s ≠ t) : (s.1 == t.1 && s.2 == t.2) = false := by
  cases h : (s.1 == t.1 && s.2 == t.2) with
  | false => rfl
  | true =>
    simp only [Bool.and_eq_true, beq_iff_eq] at h
    exact absurd (Prod.ext h.1 h.2) hab
theorem ne_cnt {s t : Cnt} (hab : s ≠ t) : (s.1 == t.1 && s.2.1 == t.2.1 && s.2.2 == t.2.2) = false := by
  cases h : (s.1 == t.1 && s.2.1 == t.2.1 && s.2.2 == t.2.2) with
  | false => rfl
  | true =>
    simp only [Bool.and_eq_true, beq_iff_eq] at h
    exact absurd (Prod.ext h.1.1 (Prod.ext h.1.2 h.2)) hab
theorem VWalk.neS {s t : Int × Int} (ty ty' : TypeId) (x y : Operand) (hty : ty = 27) (ho : o.op = .binOp .neq ty x y ty') (hw : Want ops M a0 w0 env o true) (hx : Opd ops M a0 w0 env o x (VEq (plcV s))) (hy : Opd ops M a0 w0 env o y (VEq (plcV t)))
    (hab : s = t)
    (hr : VWalk Try.prog Q ops M a0 w0 K m rest (VEq (.bool false) :: env)) : VWalk Try.prog Q ops M a0 w0 K (m + 1) (o :: rest) env :=
  .det2 x y hw hx hy (fun ρ w _ h1 h2 => by
    subst hab
    subst hty
    have hg : Try.prog.eqGuardType Try.prog.depth 27 = false := by kernel_rfl
    unfold execOp
    simp [ho, h1, h2, plcV, run_eqGuard_agg, hg, run_neq_struct, eq_plc, go_sem]) hr
theorem VWalk.neS' {s t : Int × Int} (ty ty' : TypeId) (x y : Operand) (hty : ty = 27) (ho : o.op = .binOp .neq ty x y ty') (hw : Want ops M a0 w0 env o true) (hx : Opd ops M a0 w0 env o x (VEq (plcV s))) (hy : Opd ops M a0 w0 env o y (VEq (plcV t)))
    (hab : s ≠ t)
    (hr : VWalk Try.prog Q ops M a0 w0 K m rest (VEq (.bool true) :: env)) : VWalk Try.prog Q ops M a0 w0 K (m + 1) (o :: rest) env :=
  .det2 x y hw hx hy (fun ρ w _ h1 h2 => by
    subst hty
    have hg : Try.prog.eqGuardType Try.prog.depth 27 = false := by kernel_rfl
    have hne := ne_pair hab
    unfold execOp
    simp [ho, h1, h2, plcV, run_eqGuard_agg, hg, run_neq_struct, eq_plc, hne, go_sem]) hr
theorem VWalk.eqS {s t : Int × Int} (ty ty' : TypeId) (x y : Operand) (hty : ty = 27) (ho : o.op = .binOp .eql ty x y ty') (hw : Want ops M a0 w0 env o true) (hx : Opd ops M a0 w0 env o x (VEq (plcV s))) (hy : Opd ops M a0 w0 env o y (VEq (plcV t)))
    (hab : s = t)
    (hr : VWalk Try.prog Q ops M a0 w0 K m rest (VEq (.bool true) :: env)) : VWalk Try.prog Q ops M a0 w0 K (m + 1) (o :: rest) env :=
  .det2 x y hw hx hy (fun ρ w _ h1 h2 => by
    subst hab
    subst hty
    have hg : Try.prog.eqGuardType Try.prog.depth 27 = false := by kernel_rfl
    unfold execOp
    simp [ho, h1, h2, plcV, run_eqGuard_agg, hg, run_eql_struct, eq_plc, go_sem]) hr
theorem VWalk.eqC {s t : Cnt} (ty ty' : TypeId) (x y : Operand) (hty : ty = 25) (ho : o.op = .binOp .eql ty x y ty') (hw : Want ops M a0 w0 env o true) (hx : Opd ops M a0 w0 env o x (VEq (cntV s))) (hy : Opd ops M a0 w0 env o y (VEq (cntV t)))
    (hab : s = t)
    (hr : VWalk Try.prog Q ops M a0 w0 K m rest (VEq (.bool true) :: env)) : VWalk Try.prog Q ops M a0 w0 K (m + 1) (o :: rest) env :=
  .det2 x y hw hx hy (fun ρ w _ h1 h2 => by
    subst hab
    subst hty
    have hg : Try.prog.eqGuardType Try.prog.depth 25 = false := by kernel_rfl
    unfold execOp
    simp [ho, h1, h2, cntV, run_eqGuard_agg, hg, run_eql_struct, eq_cnt, go_sem]) hr
theorem VWalk.neC {s t : Cnt} (ty ty' : TypeId) (x y : Operand) (hty : ty = 25) (ho : o.op = .binOp .neq ty x y ty') (hw : Want ops M a0 w0 env o true) (hx : Opd ops M a0 w0 env o x (VEq (cntV s))) (hy : Opd ops M a0 w0 env o y (VEq (cntV t)))
    (hab : s = t)
    (hr : VWalk Try.prog Q ops M a0 w0 K m rest (VEq (.bool false) :: env)) : VWalk Try.prog Q ops M a0 w0 K (m + 1) (o :: rest) env :=
  .det2 x y hw hx hy (fun ρ w _ h1 h2 => by
    subst hab
    subst hty
    have hg : Try.prog.eqGuardType Try.prog.depth 25 = false := by kernel_rfl
    unfold execOp
    simp [ho, h1, h2, cntV, run_eqGuard_agg, hg, run_neq_struct, eq_cnt, go_sem]) hr
end
set_option maxRecDepth 100000 in
set_option maxHeartbeats 2000000 in
theorem same_any (ps qs : List (Int × Int)) (u v : Value) (w : World) (hP : VPairs ps u w) (hQ : VPairs qs v w) : Calls Try.prog 16 #[u, v] w (Ret w (VEq (.bool (decide (ps = qs))))) := by
  have hP0 := hP
  have hQ0 := hQ
  obtain ⟨A, c, rfl, hc1, hc2, -⟩ := hP
  obtain ⟨B, d, rfl, hd1, hd2, -⟩ := hQ
  unfold maxLen at hc2 hd2
  obtain ⟨r, hr⟩ : ∃ r, decide (ps = qs) = r := ⟨_, rfl⟩
  rw [hr]
  have Hr := hide hr
  clear hr
  by_cases hl : ps.length = qs.length
  · go_enter Try.func16, Try.ntmps16
    have HP := hide hP0
    have HQ := hide hQ0
    have Hl := hide hl
    clear hP0 hQ0
    go_wp2
    go_loopw [5] (fun i wr => ∃ k : Nat, k ≤ ps.length ∧ i = .int .i64 (k : Int) ∧ ps.take k = qs.take k ∧ Below w.heap.size w wr) (fun i _ => ps.length - (intOf i).toNat)
    case atStart => exact ⟨0, by omega, rfl, rfl, Below.refl _ _⟩
    case round =>
      obtain ⟨k, hk, rfl, ht, hR⟩ := hrel
      have hE : Ext w wr := hR
      have hP := VP.st _ _ _ _ HP.out hE
      have hQ := VP.st _ _ _ _ HQ.out hE
      by_cases hlt : k < ps.length
      · have hlt2 : k < qs.length := by omega
        by_cases he : ps[k] = qs[k]
        · have ht2 := hide (show ps.take (k + 1) = qs.take (k + 1) by rw [List.take_succ_eq_append_getElem hlt, List.take_succ_eq_append_getElem hlt2, ht, he])
          clear ht
          go_upto_region 6 with (fail)
          refine vregion 9 [] (by kernel_rfl) (by kernel_rfl) (fun _ _ _ _ _ h => h) ?_
          refine VWalk.move _ rfl (want_none rfl) (opd_fr 0 rfl hP (ext_drew _) (by kernel_rfl)) ?_
          refine VWalk.move _ rfl (want_none rfl) (opd_frame 5 rfl (by kernel_rfl)) ?_
          refine VWalk.index2 44 27 _ _ .i64 k rfl Try.underlying44 (by kernel_rfl) (want_none rfl) (opd_dep 0 17 1 rfl rfl rfl rfl) (opd_dep 1 18 0 rfl rfl rfl rfl) hlt ?_
          refine VWalk.load2 27 _ rfl (want_none rfl) (opd_dep 2 19 0 rfl rfl rfl rfl) Try.underlying27 rfl (by kernel_rfl) ?_
          refine VWalk.move _ rfl (want_none rfl) (opd_fr 1 rfl hQ (ext_drew _) (by kernel_rfl)) ?_
          refine VWalk.move _ rfl (want_none rfl) (opd_frame 5 rfl (by kernel_rfl)) ?_
          refine VWalk.index2 44 27 _ _ .i64 k rfl Try.underlying44 (by kernel_rfl) (want_none rfl) (opd_dep 4 21 1 rfl rfl rfl rfl) (opd_dep 5 22 0 rfl rfl rfl rfl) hlt2 ?_
          refine VWalk.load2 27 _ rfl (want_none rfl) (opd_dep 6 23 0 rfl rfl rfl rfl) Try.underlying27 rfl (by kernel_rfl) ?_
          refine VWalk.neS _ _ _ _ rfl rfl (want_none rfl) (opd_dep 3 20 4 rfl rfl rfl rfl) (opd_dep 7 24 0 rfl rfl rfl rfl) he ?_
          refine ⟨rfl, fun W6 hE6 => ?_⟩
          refine VFin.any fun v6_0 hv6_0 => ?_
          refine VFin.eq ?_  -- 1
          refine VFin.any fun v6_2 hv6_2 => ?_
          refine VFin.eq ?_  -- 3
          refine VFin.any fun v6_4 hv6_4 => ?_
          refine VFin.eq ?_  -- 5
          refine VFin.any fun v6_6 hv6_6 => ?_
          refine VFin.eq ?_  -- 7
          refine VFin.eq ?_  -- 8
          refine VFin.nil ?_
          simp only [Act.put, List.setIfInBounds_toArray, List.set_cons_zero, List.set_cons_succ]
          clear hv6_0 hv6_2 hv6_4 hv6_6
          have hP := VP.st _ _ _ _ hP ((ext_drew _).tr hE6)
          have hQ := VP.st _ _ _ _ hQ ((ext_drew _).tr hE6)
          have hE := hE.tr ((ext_drew _).tr hE6)
          have hR2 : Below w.heap.size w W6 := hE
          clear he
          go_wp2
          exact ⟨⟨k + 1, by omega, by go_num, ht2.out, hR2⟩, by simp [intOf]; omega⟩
        · have hno : ¬ ps = qs := fun e => by subst e; exact he rfl
          have HNE := hide he
          have hrf : false = r := (decide_eq_false hno).symm.trans Hr.out
          clear ht Hr hno he
          subst hrf
          go_upto_region 6 with (fail)
          refine vregion 9 [] (by kernel_rfl) (by kernel_rfl) (fun _ _ _ _ _ h => h) ?_
          refine VWalk.move _ rfl (want_none rfl) (opd_fr 0 rfl hP (ext_drew _) (by kernel_rfl)) ?_
          refine VWalk.move _ rfl (want_none rfl) (opd_frame 5 rfl (by kernel_rfl)) ?_
          refine VWalk.index2 44 27 _ _ .i64 k rfl Try.underlying44 (by kernel_rfl) (want_none rfl) (opd_dep 0 17 1 rfl rfl rfl rfl) (opd_dep 1 18 0 rfl rfl rfl rfl) hlt ?_
          refine VWalk.load2 27 _ rfl (want_none rfl) (opd_dep 2 19 0 rfl rfl rfl rfl) Try.underlying27 rfl (by kernel_rfl) ?_
          refine VWalk.move _ rfl (want_none rfl) (opd_fr 1 rfl hQ (ext_drew _) (by kernel_rfl)) ?_
          refine VWalk.move _ rfl (want_none rfl) (opd_frame 5 rfl (by kernel_rfl)) ?_
          refine VWalk.index2 44 27 _ _ .i64 k rfl Try.underlying44 (by kernel_rfl) (want_none rfl) (opd_dep 4 21 1 rfl rfl rfl rfl) (opd_dep 5 22 0 rfl rfl rfl rfl) hlt2 ?_
          refine VWalk.load2 27 _ rfl (want_none rfl) (opd_dep 6 23 0 rfl rfl rfl rfl) Try.underlying27 rfl (by kernel_rfl) ?_
          refine VWalk.neS' _ _ _ _ rfl rfl (want_none rfl) (opd_dep 3 20 4 rfl rfl rfl rfl) (opd_dep 7 24 0 rfl rfl rfl rfl) HNE.out ?_
          refine ⟨rfl, fun W6 hE6 => ?_⟩
          refine VFin.any fun v6_0 hv6_0 => ?_
          refine VFin.eq ?_  -- 1
          refine VFin.any fun v6_2 hv6_2 => ?_
          refine VFin.eq ?_  -- 3
          refine VFin.any fun v6_4 hv6_4 => ?_
          refine VFin.eq ?_  -- 5
          refine VFin.any fun v6_6 hv6_6 => ?_
          refine VFin.eq ?_  -- 7
          refine VFin.eq ?_  -- 8
          refine VFin.nil ?_
          simp only [Act.put, List.setIfInBounds_toArray, List.set_cons_zero, List.set_cons_succ]
          clear hv6_0 hv6_2 hv6_4 hv6_6
          have hP := VP.st _ _ _ _ hP ((ext_drew _).tr hE6)
          have hQ := VP.st _ _ _ _ hQ ((ext_drew _).tr hE6)
          have hE := hE.tr ((ext_drew _).tr hE6)
          go_wp2
          go_ret
          exact Ret.mk hE rfl
      · obtain rfl : k = ps.length := by omega
        have hyes : ps = qs := by rw [List.take_length] at ht; rw [ht, hl, List.take_length]
        have hrf : true = r := (decide_eq_true hyes).symm.trans Hr.out
        clear hyes ht Hr
        subst hrf
        go_wp2
        go_ret
        exact Ret.mk hE rfl
  · have hno : ¬ ps = qs := fun e => hl (by rw [e])
    have hrf : false = r := (decide_eq_false hno).symm.trans Hr.out
    clear hno hP0 hQ0 Hr
    subst hrf
    go_enter Try.func16, Try.ntmps16
    go_wp2
    go_ret
    exact Ret.mk (Ext.rf _) rfl
end Go.Proofs.Ytdaghnnmbilgfaa
