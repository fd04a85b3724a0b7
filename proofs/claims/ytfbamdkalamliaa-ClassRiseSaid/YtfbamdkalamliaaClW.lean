/- The wakes, walked. -/
import Derived.Test.YtfbamdkalamliaaClM
namespace Go.Proofs.Ytfbamdkalamliaa
open Go.RowKit LetM SetM
section
variable {Q : Exit → Act → World → Prop} {ops : Array Oper} {M m : Nat} {a0 : Act} {w0 : World} {K : List Oper → List VP → Prop} {o : Oper} {rest : List Oper} {env : List VP}
theorem run_indexAt_arr {P : Program} {t e : TypeId} {n g i : Nat} {k : IntKind} (hu : P.underlying t = some (.array n e)) (hs : (P.info? e).map (·.size) = some 1) (hi : i < n) (w : World) :
    (Instr.indexAt t (.pointer (some ⟨g, 0, none⟩)) (.int k (i : Int))).run P w = .ok (.pointer (some ⟨g, i, none⟩)) w := by
  cases hq : P.info? e with
  | none => simp [hq] at hs
  | some ie =>
    have hs : ie.size = 1 := by simpa [hq] using hs
    have h1 : (i : Int) < (n : Int) := by omega
    simp [Instr.indexAt, Instr.sureAddr, asIntOf, run_underlying hu, sizeOf, typeInfo, hq, hs, hi, Sem.run_bind, Addr.add]
    exact fun h => h.symm
theorem VWalk.indexArr {P : Program} {g n i : Nat} (t e : TypeId) (x y : Operand) (k : IntKind) (ho : o.op = .indexAddr t x y) (hu : P.underlying t = some (.array n e)) (hs : (P.info? e).map (·.size) = some 1) (hi : i < n)
    (hw : Want ops M a0 w0 env o true) (hx : Opd ops M a0 w0 env o x (VEq (.pointer (some ⟨g, 0, none⟩)))) (hy : Opd ops M a0 w0 env o y (VEq (.int k (i : Int))))
    (hr : VWalk P Q ops M a0 w0 K m rest (VEq (.pointer (some ⟨g, i, none⟩)) :: env)) : VWalk P Q ops M a0 w0 K (m + 1) (o :: rest) env :=
  .det2 x y hw hx hy (fun ρ w _ h1 h2 => by
    unfold execOp
    simp only [ho, h1, h2, Sem.run_bind, run_indexAt_arr hu hs hi, Sem.run_pure, Result.andThen_ok]) hr
theorem VWalk.buildSetO {ws : List (List UInt8)} (b : Bool) (y x : Operand) (ho : o.op = .build 24 #[(0, y), (1, x)]) (hw : Want ops M a0 w0 env o true) (hy : Opd ops M a0 w0 env o y (VEq (.bool b))) (hx : Opd ops M a0 w0 env o x (VParts ws))
    (hr : VWalk Try.prog Q ops M a0 w0 K m rest (VSet b ws :: env)) : VWalk Try.prog Q ops M a0 w0 K (m + 1) (o :: rest) env :=
  .val hw (fun a w hE hC hD => by
    have hX := hx a w hE hC hD
    have hY : a.eval y = .bool b := hy a w hE hC hD
    refine ⟨.agg #[.bool b, a.eval x], ?_, a.eval x, rfl, hX⟩
    obtain ⟨A, c, hA, -⟩ := VParts.form hX
    revert hA hY
    generalize a.eval = ρ
    intro hA hY
    unfold execOp
    simp [ho, hA, hY, go_sem]) hr
end
theorem results_cellS {P : Program} {fn : Func} {t : Tmp} {ty : TypeId} (h : fn.results = #[.cell t ty]) (tmps : Array Value) (w : World) (g : Nat) (T : TypeId) (cs : Array Value) (d : TypeDesc) (ht : tmps.getD t undef = .pointer (some ⟨g, 0, none⟩)) (hb : Box w g T cs) (hu : P.underlying ty = some d) (hd : (match d with | .struct _ | .array _ _ => true | _ => false) = true) (hi : (P.info? ty).map (·.size) = some cs.size) :
    (results fn tmps).run P w = .ok (.agg cs) w := by
  have hl := run_loadVar_row w g T ty cs (0, 0) d hb hu hd hi
  rw [Array.getD_eq_getD_getElem?] at ht
  simp [results, h, ht, asAddr, hl]
theorem setRow_cell {w : World} {g b : Nat} (cs : Array Value) (h : b ≠ g) (o : Nat) : (w.setRow g cs).cell? ⟨b, o, none⟩ = w.cell? ⟨b, o, none⟩ := by
  have : (w.setRow g cs).heap[b]? = w.heap[b]? := by unfold World.setRow; simp [Array.getElem?_modify, Ne.symm h]
  unfold World.cell?; simp only [this]
theorem setRow_size {w : World} {g : Nat} (cs : Array Value) : (w.setRow g cs).heap.size = w.heap.size := by unfold World.setRow; simp
/-- A set's variable that is empty yet holds no part of a word. -/
theorem empty_cell {w : World} {g : Nat} {T : TypeId} {x : Bool} (hb : Box w g T #[.bool x, .slice none 0 0]) {b o : Nat} {v : Value} (hv : w.cell? ⟨b, o, none⟩ = some v) (h1 : ∀ y, v ≠ .bool y) (h2 : v ≠ .slice none 0 0) : b ≠ g := by
  rintro rfl
  rw [hb.cell o] at hv
  match o, hv with
  | 0, hv => cases hv; exact h1 _ rfl
  | 1, hv => cases hv; exact h2 rfl
  | n + 2, hv => simp at hv
theorem vbytes_setRow {bs : List UInt8} {v : Value} {w : World} {g : Nat} {T : TypeId} {x : Bool} (h : VBytes bs v w) (hb : Box w g T #[.bool x, .slice none 0 0]) (cs : Array Value) : VBytes bs v (w.setRow g cs) := by
  obtain ⟨A, c, rfl, h1, h2, h3⟩ := VBytes.form h
  refine VBytes.of h1 h2 fun hp => ?_
  obtain ⟨b, off, rfl, hbl, hc⟩ := h3 hp
  refine ⟨b, off, rfl, by rw [setRow_size]; exact hbl, fun j hj => ?_⟩
  rw [setRow_cell cs (empty_cell hb (hc j hj) (fun _ => by simp) (by simp)), hc j hj]
theorem vparts_setRow {ps : List (List UInt8)} (hps : ∀ p ∈ ps, p ≠ []) {v : Value} {w : World} {g : Nat} {T : TypeId} {x : Bool} (h : VParts ps v w) (hb : Box w g T #[.bool x, .slice none 0 0]) (cs : Array Value) : VParts ps v (w.setRow g cs) := by
  obtain ⟨A, c, rfl, h1, h2, h3⟩ := h
  refine ⟨A, c, rfl, h1, h2, fun hp => ?_⟩
  obtain ⟨b, off, rfl, hbl, hc⟩ := h3 hp
  refine ⟨b, off, rfl, by rw [setRow_size]; exact hbl, fun j F hj => ?_⟩
  obtain ⟨y, hy, hF⟩ := hc j F hj
  rw [List.getElem?_map] at hj
  obtain ⟨p, hpj, rfl⟩ := Option.map_eq_some_iff.1 hj
  have hne := hps p (List.mem_of_getElem? hpj)
  have hlp : 0 < p.length := List.length_pos_iff.2 hne
  have hF2 := hF
  obtain ⟨A2, c2, rfl, -⟩ := VBytes.form hF2
  exact ⟨_, by rw [setRow_cell cs (empty_cell hb hy (fun _ => by simp) (fun e => by injection e with e1 e2 e3; omega)), hy], vbytes_setRow hF hb cs⟩
def lShe : List (List UInt8) := [[104, 101], [115, 104, 101]]
set_option maxRecDepth 100000 in
set_option maxHeartbeats 2000000 in
theorem she_any (b : Bool) (w : World) : Calls Try.prog 22 #[.bool b] w (Ret w (VSet b lShe)) := by
  go_enter Try.func22, Try.ntmps22
  go_upto_region 1 with (fail)
  have hb := Box.new w 24 #[.bool false, .slice none 0 0]
  have hE : Ext w (w.alloc (.cells #[.bool false, .slice none 0 0] 24)) := ext_alloc _ _
  have hlt := hb.lt
  go_upto_region 1 with (fail)
  refine vregion0 7 (by kernel_rfl) ?_
  refine VWalk.move _ rfl (want_none rfl) (opd_frame 0 rfl (by kernel_rfl)) ?_
  refine VWalk.litB [104, 101] 26 5 2 _ rfl rfl (by decide) (by decide) rfl Try.underlying26 (by kernel_rfl) (by kernel_rfl) (want_none rfl) ?_
  refine VWalk.mark 26 5 _ rfl Try.underlying26 Try.underlying5 (want_none rfl) (opd_dep 1 4 0 rfl rfl rfl rfl) ?_
  refine VWalk.litB [115, 104, 101] 26 5 3 _ rfl rfl (by decide) (by decide) rfl Try.underlying26 (by kernel_rfl) (by kernel_rfl) (want_none rfl) ?_
  refine VWalk.mark 26 5 _ rfl Try.underlying26 Try.underlying5 (want_none rfl) (opd_dep 3 6 0 rfl rfl rfl rfl) ?_
  refine VWalk.lit (Fs := [_, _]) [Operand.tmp 5, Operand.tmp 7] 22 26 2 _ rfl rfl (by decide) (by decide) rfl Try.underlying22 (by kernel_rfl) (by kernel_rfl) ⟨oneCell_sl _, oneCell_sl _, trivial⟩ (want_none rfl) ⟨(opd_dep 2 5 2 rfl rfl rfl rfl), (opd_dep 4 7 0 rfl rfl rfl rfl), trivial⟩ ?_
  refine VWalk.buildSetO (ws := lShe) b _ _ rfl (want_none rfl) (opd_dep 0 3 5 rfl rfl rfl rfl) (opd_dep 5 8 0 rfl rfl rfl rfl) ?_
  refine ⟨rfl, fun W1 hE1 => ?_⟩
  refine VFin.eq ?_  -- 0
  refine VFin.any fun v1_1 hv1_1 => ?_
  refine VFin.any fun v1_2 hv1_2 => ?_
  refine VFin.any fun v1_3 hv1_3 => ?_
  refine VFin.any fun v1_4 hv1_4 => ?_
  refine VFin.any fun v1_5 hv1_5 => ?_
  refine VFin.any fun v1_6 hv1_6 => ?_
  refine VFin.nil ?_
  simp only [Act.put, List.setIfInBounds_toArray, List.set_cons_zero, List.set_cons_succ]
  clear hv1_1 hv1_2 hv1_3 hv1_4 hv1_5
  have hb := hb.ext hE1
  have hE := hE.tr hE1
  have hv := hv1_6
  obtain ⟨sl, rfl, hP⟩ := hv1_6
  obtain ⟨A, c, rfl, -⟩ := VParts.form hP
  have hps : ∀ p ∈ lShe, p ≠ [] := by decide
  have hP2 := vparts_setRow hps hP hb #[.bool b, .slice A lShe.length c]
  refine wpList_store_row rfl 24 _ _ rfl w.heap.size #[.bool b, .slice A lShe.length c] rfl rfl 24 _ hb (by kernel_rfl) rfl (by simp [Value.oneCell']) ?_
  have hE2 : Below w.heap.size w (W1.setRow w.heap.size #[.bool b, .slice A lShe.length c]) := below_setRow hE (Nat.le_refl _) _
  have hb2 : Box (W1.setRow w.heap.size #[.bool b, .slice A lShe.length c]) w.heap.size 24 #[.bool b, .slice A lShe.length c] := hb.setRow_
  clear hv hP
  go_wp2
  exact bodyPost_ret (results_cellS Try.results22 _ _ w.heap.size 24 #[.bool b, .slice A lShe.length c] _ rfl hb2 Try.underlying24 rfl (by kernel_rfl)) rfl (Ret.mk hE2 ⟨_, rfl, hP2⟩)
end Go.Proofs.Ytfbamdkalamliaa
