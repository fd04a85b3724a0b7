/- class.Of, Classes, walked. -/
import Derived.Test.YtfbamdkalamliaaClB
namespace Go.Proofs.Ytfbamdkalamliaa
open Go.RowKit LetM SetM
def iArr (f : Nat → Int) : Array Value := arr 256 fun i => .int .i64 (f i)
theorem iArr_size (f : Nat → Int) : (iArr f).size = 256 := arr_size _ _
theorem iArr_get (f : Nat → Int) {i : Nat} (hi : i < 256) : (iArr f)[i]? = some (.int .i64 (f i)) := arr_get hi
theorem cArr_iArr (f : Nat → Int) (m : Int) {i : Nat} {v : Value} (h : (iArr f)[i]? = some v) : (cArr f m)[i]? = some v := by
  by_cases hi : i < 256
  · rw [iArr_get f hi] at h
    rw [cArr_get f m hi, h]
  · unfold iArr at h; rw [arr_out hi] at h; cases h
theorem zeroI : (Try.prog.info? 29).bind (·.zero) = some (.agg (iArr fun _ => 0)) := by kernel_rfl
/-- What Of tells: classes, how many, the error. -/
def clsO (f : Bool) (ws : List (List UInt8)) : (Nat → Int) × Int × Int := if rightS f ws then ((cRun f (hasB f ws.flatten) 256).1, (cRun f (hasB f ws.flatten) 256).2, 0) else (fun _ => 0, 0, 2)
section
variable {P : Program} {ops : Array Oper} {w : World}
theorem wpStill_load_at {Q : Act → Prop} {a : Act} {o : Oper} {rest : List Oper} (hgd : o.guard = none) (ty : TypeId) (x : Operand) (ho : o.op = .load ty x)
    (g off : Nat) (hx : a.eval x = .pointer (some ⟨g, off, none⟩)) (cs : Array Value) {d : TypeDesc} (hc : ∀ j v, cs[j]? = some v → w.cell? ⟨g, off + j, none⟩ = some v)
    (hu : P.underlying ty = some d) (hd : (match d with | .struct _ | .array _ _ => true | _ => false) = true) (hi : (P.info? ty).map (·.size) = some cs.size)
    (h : wpStill P ops w Q rest (a.put o.dst (.agg cs))) : wpStill P ops w Q (o :: rest) a := by
  have hw : Region.wanted o (yielded ops a.tmps) = true := by simp [Region.wanted, hgd]
  refine wpStill_step fun K hK => ?_
  rw [if_pos hw]
  unfold Oper.still execOp
  simp only [ho, hx, Instr.loadAt, Instr.sureAddr, Sem.run_bind, Sem.run_pure, Result.andThen_ok, run_loadVar_at hc hu hd hi, Oper.stillUpon]
  exact ⟨trivial, hK _ h⟩
end
/-- An operation's law, behind a wall: the elaborator must not run it. -/
structure OW (P : Program) (o : Oper) (a : Act) (w : World) (K : Act → World → Prop) (Q : Exit → Act → World → Prop) : Prop where
  h : Oper.wp P o a w K Q
section
variable {P : Program} {ops : Array Oper} {w : World} {o : Oper} {a : Act} {K : Act → World → Prop} {Q : Exit → Act → World → Prop}
theorem step_run (v : Value) (w' : World) (hrun : (execOp a.eval o).run P w = .ok (.value v) w') (hK : K (a.put o.dst v) w') : OW P o a w K Q :=
  ⟨by unfold Oper.wp; rw [hrun, Oper.upon_value]; exact hK⟩
theorem step_load_at (ty : TypeId) (x : Operand) (ho : o.op = .load ty x)
    (g off : Nat) (hx : a.eval x = .pointer (some ⟨g, off, none⟩)) (cs : Array Value) {d : TypeDesc} (hc : ∀ j v, cs[j]? = some v → w.cell? ⟨g, off + j, none⟩ = some v)
    (hu : P.underlying ty = some d) (hd : (match d with | .struct _ | .array _ _ => true | _ => false) = true) (hi : (P.info? ty).map (·.size) = some cs.size)
    (hK : K (a.put o.dst (.agg cs)) w) : OW P o a w K Q :=
  step_run _ _ (by unfold execOp; simp only [ho, hx, Instr.loadAt, Instr.sureAddr, Sem.run_bind, Sem.run_pure, Result.andThen_ok, run_loadVar_at hc hu hd hi]) hK
theorem step_load1 (ty : TypeId) (x : Operand) (ho : o.op = .load ty x) {p : Addr} (hx : a.eval x = .pointer (some p)) {v : Value} (hc : w.cell? p = some v)
    (ha : ∀ w : World, (isAgg ty).run P w = .ok false w) (hK : K (a.put o.dst v) w) : OW P o a w K Q :=
  step_run _ _ (by unfold execOp; simp [ho, hx, Instr.loadAt, Instr.sureAddr, loadVar, Sem.run_bind, ha, hc]) hK
theorem step_assign (x : Operand) (ho : o.op = .assign x) (hK : K (a.put o.dst (a.eval x)) w) : OW P o a w K Q :=
  step_run _ _ (by unfold execOp; simp only [ho]; rfl) hK
theorem step_store_row (ty : TypeId) (x y : Operand) (ho : o.op = .store ty x y) (g : Nat) (cells : Array Value) (hx : a.eval x = .pointer (some ⟨g, 0, none⟩)) (hy : a.eval y = .agg cells)
    {t : TypeId} {old : Array Value} (hg : Box w g t old) (hi : (P.info? ty).map (·.size) = some cells.size) (hold : old.size = cells.size) (h1 : cells.all (·.oneCell') = true)
    (hK : K (a.put o.dst undef) (w.setRow g cells)) : OW P o a w K Q :=
  ⟨wp_store_row ty x y ho g cells hx hy t old hg hi hold h1 hK⟩
end
section
variable {P : Program} {l : List Oper} {Q : Exit → Act → World → Prop}
theorem consN {fuel : Nat} {listed : Array Bool} {a : Act} {w : World} {i : Nat} {o : Oper} {rs : List Nat} (ho : nth l i = some o) (hgd : o.guard = none)
    (h : ∀ K' : Act → World → Prop, (∀ a w, wpAny P .any l.toArray Q fuel (listed.setIfInBounds i true) a w → K' a w) → OW P o a w K' Q)
    (hs : AllReady P .any l.toArray Q fuel listed a w rs) : AllReady P .any l.toArray Q fuel listed a w (i :: rs) := AllReady.cons (by rw [nth_eq] at ho; simpa using ho) (fun K' hK => by rw [if_pos (by simp [Region.wanted, hgd])]; exact (h K' hK).h) hs
theorem takeN {i : Nat} {oi : Oper} {v : Value} {fuel : Nat} {listed : Array Bool} {a : Act} {w : World} (hi : nth l i = some oi)
    (hs : Region.noSelect l.toArray = true) (hf : Region.free .any l.toArray listed i = true) (hr : (Region.ready .any l.toArray listed).contains i = true)
    (hQ : ∀ c a w, Q (.panic c) (a.put oi.dst v) w → Q (.panic c) a w) (hy : Yields P l.toArray oi v a)
    (h : wpAny P .any l.toArray Q fuel (listed.setIfInBounds i true) (a.put oi.dst v) w) : wpAny P .any l.toArray Q (fuel + 1) listed a w := wpAny_take (by rw [nth_eq] at hi; simpa using hi) hs hf hr hQ hy h
end
theorem results_cell3 {P : Program} {fn : Func} {t u v : Tmp} {ty : TypeId} (h : fn.results = #[.cell t ty, .tmp u, .tmp v]) (tmps : Array Value) (w : World) (g : Nat) (T : TypeId) (cs : Array Value) (d : TypeDesc) (ht : tmps.getD t undef = .pointer (some ⟨g, 0, none⟩)) (hb : Box w g T cs) (hu : P.underlying ty = some d)
    (hd : (match d with | .struct _ | .array _ _ => true | _ => false) = true) (hi : (P.info? ty).map (·.size) = some cs.size) {x y : Value} (hx : tmps.getD u undef = x) (hy : tmps.getD v undef = y) : (results fn tmps).run P w = .ok (.tuple #[.agg cs, x, y]) w := by
  have ht' : tmps[t]?.getD undef = .pointer (some ⟨g, 0, none⟩) := by simpa using ht
  have hx' : tmps[u]?.getD undef = x := by simpa using hx
  have hy' : tmps[v]?.getD undef = y := by simpa using hy
  simp [results, h, ht', hx', hy', asAddr, run_loadVar_row w g T ty cs (0, 0) d hb hu hd hi]
set_option maxRecDepth 100000 in
set_option maxHeartbeats 1000000 in
theorem clcount_no (f : Bool) (ws : List (List UInt8)) (u : Value) (w : World) (hS : VSet f ws u w) (hlen : ws.flatten.length ≤ 1000000) (hn : ws.length ≤ 1000000) (hr : rightS f ws = false) : Calls Try.prog 23 #[u] w (Ret w (VEq (.tuple #[.pointer none, .bool false]))) := by
  have hS0 := hS
  obtain ⟨sl, rfl, hP⟩ := hS
  obtain ⟨A, c, rfl, -⟩ := VParts.form hP
  have hX := ext_alloc w (.cells #[.bool f, .slice A ws.length c] 24)
  have hrt := pright_any f ws _ _ (VP.st _ _ _ _ hS0 hX) hlen hn
  rw [hr] at hrt
  clear hP
  go_enter Try.func23, Try.ntmps23
  go_wp2_with fail
  refine hrt.mono ?_
  rintro _ w1 ⟨u, rfl, hE1, rfl⟩
  go_wp2
  exact bodyPost_ret (v := .tuple #[.pointer none, .bool false]) (by simp [results, Try.results23, go_sem]) rfl (Ret.mk (hX.tr hE1) rfl)
set_option maxRecDepth 100000 in
set_option maxHeartbeats 2000000 in
theorem clOf_any (f : Bool) (ws : List (List UInt8)) (u : Value) (w : World) (hS : VSet f ws u w) (hlen : ws.flatten.length ≤ 1000000) (hn : ws.length ≤ 1000000) : Calls Try.prog 9 #[u] w (Ret w (VTup [VEq (.agg (iArr (clsO f ws).1)), VEq (.int .i64 (clsO f ws).2.1), VEq (.int .i64 (clsO f ws).2.2)])) := by
  have hS0 := hS
  obtain ⟨sl, rfl, hP⟩ := hS
  obtain ⟨A, c, rfl, -⟩ := VParts.form hP
  clear hP
  have hX : Ext w ((w.alloc (.cells #[.bool f, .slice A ws.length c] 24)).alloc (.cells (iArr fun _ => 0) 29)) := (ext_alloc _ _).tr (ext_alloc _ _)
  have hb1 := (Box.new w 24 #[.bool f, .slice A ws.length c]).alloc (.cells (iArr fun _ => 0) 29)
  have hb2 := Box.new (w.alloc (.cells #[.bool f, .slice A ws.length c] 24)) 29 (iArr fun _ => 0)
  rw [World.size_alloc] at hb2
  go_enter Try.func9, Try.ntmps9
  go_upto_region 1 with (refine wpList_allocZ rfl 29 rfl _ zeroI ?_)
  generalize ((w.alloc (.cells #[.bool f, .slice A ws.length c] 24)).alloc (.cells (iArr fun _ => 0) 29)) = w1 at *
  have hd0 := hb1.at_ 0 rfl
  have hd1 := hb1.at_ 1 rfl
  have hS1 := VP.st _ _ _ _ hS0 hX
  by_cases hr : rightS f ws = true
  · have e : clsO f ws = ((cRun f (hasB f ws.flatten) 256).1, (cRun f (hasB f ws.flatten) 256).2, 0) := by unfold clsO; rw [if_pos hr]
    have He := hide e
    have hct := clcount_any f ws _ w1 hS1 hlen hn hr
    clear e hr hS0 hS1 hb1
    go_wp2_with fail
    refine hct.mono ?_
    rintro _ w2 ⟨g, rfl, hE2, hge, hbg⟩
    have hb3 := hb2.ext hE2
    have hlt := hb2.lt
    have HE := hide (hX.tr hE2)
    clear hct hd0 hd1 hE2 hX hb2
    go_wp2_with fail
    have hm := (hbg.cell 256).trans (cArr_many _ _)
    have hbgd := hbg.drew
    have hb3d := hb3.drew
    have hmd := (hbgd.cell 256).trans (cArr_many _ _)
    have hb4 : Box (w2.drew.setRow (w.heap.size + 1) (iArr (cRun f (hasB f ws.flatten) 256).1)) (w.heap.size + 1) 29 (iArr (cRun f (hasB f ws.flatten) 256).1) := hb3d.setRow_
    have hbg4 : Box (w2.drew.setRow (w.heap.size + 1) (iArr (cRun f (hasB f ws.flatten) 256).1)) g 53 (cArr (cRun f (hasB f ws.flatten) 256).1 (cRun f (hasB f ws.flatten) 256).2) := by
      unfold Box World.setRow at *
      simpa [Array.getElem?_modify, show w.heap.size + 1 ≠ g by omega] using hbgd
    have hm4 := (hbg4.cell 256).trans (cArr_many _ _)
    have HE4 := hide (below_setRow (HE.out.drew) (g := w.heap.size + 1) (by omega) (iArr (cRun f (hasB f ws.flatten) 256).1))
    refine wp_region_any (by kernel_rfl) ?_
    change wpAny _ _ _ _ _ _ _ w2.drew
    clear hbg hb3 hm HE
    have hbg := hbgd
    have hb3 := hb3d
    have hm := hmd
    clear hbgd hb3d hmd
    generalize w2.drew = w3 at *
    refine takeN (i := 0) (v := .pointer (some ⟨g, 0, none⟩)) rfl (by kernel_rfl) (by kernel_rfl) (by kernel_rfl) (fun _ _ _ h => h) (Or.inl ⟨by rfl, fun w => by go_simp⟩) ?_
    refine takeN (i := 1) (v := .pointer (some ⟨g, 0, none⟩)) rfl (by kernel_rfl) (by kernel_rfl) (by kernel_rfl) (fun _ _ _ h => h) (Or.inl ⟨by rfl, fun w => by go_simp⟩) ?_
    refine takeN (i := 2) (v := .pointer (some ⟨g, 0, none⟩)) rfl (by kernel_rfl) (by kernel_rfl) (by kernel_rfl) (fun _ _ _ h => h) (Or.inl ⟨by rfl, fun w => by go_simp⟩) ?_
    refine takeN (i := 3) (v := .pointer (some ⟨g, 0, none⟩)) rfl (by kernel_rfl) (by kernel_rfl) (by kernel_rfl) (fun _ _ _ h => h) (Or.inl ⟨by rfl, fun w => by go_simp⟩) ?_
    refine takeN (i := 5) (v := .pointer (some ⟨g, 0, none⟩)) rfl (by kernel_rfl) (by kernel_rfl) (by kernel_rfl) (fun _ _ _ h => h) (Or.inl ⟨by rfl, fun w => by go_simp⟩) ?_
    refine takeN (i := 6) (v := .pointer (some ⟨g, 0, none⟩)) rfl (by kernel_rfl) (by kernel_rfl) (by kernel_rfl) (fun _ _ _ h => h) (Or.inl ⟨by rfl, fun w => by go_simp⟩) ?_
    refine takeN (i := 7) (v := .pointer (some ⟨g, 256, none⟩)) rfl (by kernel_rfl) (by kernel_rfl) (by kernel_rfl) (fun _ _ _ h => h) (Or.inl ⟨by rfl, fun w => by go_simp⟩) ?_
    refine wpAny_ready (rs := [4, 8]) (by kernel_rfl) (by simp) ?_
    refine consN rfl rfl (fun K hK => ?_) ?_
    · refine step_load_at 29 _ rfl g 0 (by kernel_rfl) (iArr (cRun f (hasB f ws.flatten) 256).1) (fun j v h => by rw [Nat.zero_add, hbg.cell j]; exact cArr_iArr _ _ h) Try.underlying29 rfl (by rw [iArr_size]; kernel_rfl) (hK _ _ ?_)
      clear hK K
      refine wpAny_ready (rs := [8, 9]) (by kernel_rfl) (by simp) ?_
      refine consN rfl rfl (fun K hK => ?_) ?_
      · refine step_load1 3 _ rfl (by kernel_rfl) hm (fun _ => by kernel_rfl) (hK _ _ ?_)
        clear hK K
        refine wpAny_ready (rs := [9]) (by kernel_rfl) (by simp) ?_
        refine consN rfl rfl (fun K hK => ?_) ?_
        · refine step_store_row 29 _ _ rfl (w.heap.size + 1) (iArr (cRun f (hasB f ws.flatten) 256).1) (by kernel_rfl) (by kernel_rfl) hb3 (by rw [iArr_size]; kernel_rfl) (by rw [iArr_size, iArr_size]) (arr_one fun _ _ => rfl) (hK _ _ ?_)
          clear hK K
          refine wpAny_ready (rs := [10]) (by kernel_rfl) (by simp) ?_
          refine consN rfl rfl (fun K hK => ?_) ?_
          · refine step_assign _ rfl (hK _ _ ?_)
            clear hK K
            refine wpAny_ready (rs := [11]) (by kernel_rfl) (by simp) ?_
            refine consN rfl rfl (fun K hK => ?_) ?_
            · refine step_assign _ rfl (hK _ _ ?_)
              clear hK K
              refine wpAny_done (by kernel_rfl) ?_ _
              simp only [Act.put, List.setIfInBounds_toArray, List.set_cons_zero, List.set_cons_succ]
              go_wp2
              exact bodyPost_ret (results_cell3 Try.results9 _ _ (w.heap.size + 1) 29 _ _ rfl hb4 Try.underlying29 rfl (by rw [iArr_size]; kernel_rfl) rfl rfl) rfl (by rw [He.out]; exact Ret.mk HE4.out (VTup.three rfl rfl rfl))
            exact AllReady.nil
          exact AllReady.nil
        exact AllReady.nil
      refine consN rfl rfl (fun K hK => ?_) ?_
      · refine step_store_row 29 _ _ rfl (w.heap.size + 1) (iArr (cRun f (hasB f ws.flatten) 256).1) (by kernel_rfl) (by kernel_rfl) hb3 (by rw [iArr_size]; kernel_rfl) (by rw [iArr_size, iArr_size]) (arr_one fun _ _ => rfl) (hK _ _ ?_)
        clear hK K
        refine wpAny_ready (rs := [8]) (by kernel_rfl) (by simp) ?_
        refine consN rfl rfl (fun K hK => ?_) ?_
        · refine step_load1 3 _ rfl (by kernel_rfl) hm4 (fun _ => by kernel_rfl) (hK _ _ ?_)
          clear hK K
          refine wpAny_ready (rs := [10]) (by kernel_rfl) (by simp) ?_
          refine consN rfl rfl (fun K hK => ?_) ?_
          · refine step_assign _ rfl (hK _ _ ?_)
            clear hK K
            refine wpAny_ready (rs := [11]) (by kernel_rfl) (by simp) ?_
            refine consN rfl rfl (fun K hK => ?_) ?_
            · refine step_assign _ rfl (hK _ _ ?_)
              clear hK K
              refine wpAny_done (by kernel_rfl) ?_ _
              simp only [Act.put, List.setIfInBounds_toArray, List.set_cons_zero, List.set_cons_succ]
              go_wp2
              exact bodyPost_ret (results_cell3 Try.results9 _ _ (w.heap.size + 1) 29 _ _ rfl hb4 Try.underlying29 rfl (by rw [iArr_size]; kernel_rfl) rfl rfl) rfl (by rw [He.out]; exact Ret.mk HE4.out (VTup.three rfl rfl rfl))
            exact AllReady.nil
          exact AllReady.nil
        exact AllReady.nil
      exact AllReady.nil
    refine consN rfl rfl (fun K hK => ?_) ?_
    · refine step_load1 3 _ rfl (by kernel_rfl) hm (fun _ => by kernel_rfl) (hK _ _ ?_)
      clear hK K
      refine wpAny_ready (rs := [4]) (by kernel_rfl) (by simp) ?_
      refine consN rfl rfl (fun K hK => ?_) ?_
      · refine step_load_at 29 _ rfl g 0 (by kernel_rfl) (iArr (cRun f (hasB f ws.flatten) 256).1) (fun j v h => by rw [Nat.zero_add, hbg.cell j]; exact cArr_iArr _ _ h) Try.underlying29 rfl (by rw [iArr_size]; kernel_rfl) (hK _ _ ?_)
        clear hK K
        refine wpAny_ready (rs := [9]) (by kernel_rfl) (by simp) ?_
        refine consN rfl rfl (fun K hK => ?_) ?_
        · refine step_store_row 29 _ _ rfl (w.heap.size + 1) (iArr (cRun f (hasB f ws.flatten) 256).1) (by kernel_rfl) (by kernel_rfl) hb3 (by rw [iArr_size]; kernel_rfl) (by rw [iArr_size, iArr_size]) (arr_one fun _ _ => rfl) (hK _ _ ?_)
          clear hK K
          refine wpAny_ready (rs := [10]) (by kernel_rfl) (by simp) ?_
          refine consN rfl rfl (fun K hK => ?_) ?_
          · refine step_assign _ rfl (hK _ _ ?_)
            clear hK K
            refine wpAny_ready (rs := [11]) (by kernel_rfl) (by simp) ?_
            refine consN rfl rfl (fun K hK => ?_) ?_
            · refine step_assign _ rfl (hK _ _ ?_)
              clear hK K
              refine wpAny_done (by kernel_rfl) ?_ _
              simp only [Act.put, List.setIfInBounds_toArray, List.set_cons_zero, List.set_cons_succ]
              go_wp2
              exact bodyPost_ret (results_cell3 Try.results9 _ _ (w.heap.size + 1) 29 _ _ rfl hb4 Try.underlying29 rfl (by rw [iArr_size]; kernel_rfl) rfl rfl) rfl (by rw [He.out]; exact Ret.mk HE4.out (VTup.three rfl rfl rfl))
            exact AllReady.nil
          exact AllReady.nil
        exact AllReady.nil
      exact AllReady.nil
    exact AllReady.nil
  · have hr : rightS f ws = false := by simpa using hr
    have e : clsO f ws = (fun _ => 0, 0, 2) := by unfold clsO; rw [hr]; rfl
    have He := hide e
    have hct := clcount_no f ws _ w1 hS1 hlen hn hr
    have hlt := hb2.lt
    clear e hr hS0 hS1 hb1
    go_wp2_with fail
    refine hct.mono ?_
    rintro _ w2 ⟨u, rfl, hE2, rfl⟩
    have hb3 := hb2.ext hE2
    have HE := hide (hX.tr hE2)
    clear hct hd0 hd1 hE2 hX hb2
    go_wp2_with (first | (refine wpList_load_box rfl 29 _ rfl (w.heap.size + 1) rfl _ hb3 Try.underlying29 rfl (by rw [iArr_size]; kernel_rfl) ?_) | (refine wpList_store_row rfl 29 _ _ rfl (w.heap.size + 1) (iArr fun _ => 0) rfl rfl 29 (iArr fun _ => 0) hb3 (by rw [iArr_size]; kernel_rfl) rfl (arr_one fun _ _ => rfl) ?_))
    have hb4 : Box (w2.setRow (w.heap.size + 1) (iArr fun _ => 0)) (w.heap.size + 1) 29 (iArr fun _ => 0) := hb3.setRow_
    exact bodyPost_ret (results_cell3 Try.results9 _ _ (w.heap.size + 1) 29 _ _ rfl hb4 Try.underlying29 rfl (by rw [iArr_size]; kernel_rfl) rfl rfl) rfl (by rw [He.out]; exact Ret.mk (below_setRow HE.out (by omega) _) (VTup.three rfl rfl rfl))
end Go.Proofs.Ytfbamdkalamliaa
