/- Steps for the walk of a region that draws its order, and predicates on values. -/
import Derived.Test.YtfbamdkalamliaaV
namespace Go.Proofs.Ytfbamdkalamliaa
open Go.RowKit

section
variable {P : Program} {Q : Exit → Act → World → Prop} {ops : Array Oper} {M m : Nat} {a0 : Act} {w0 : World} {K : List Oper → List VP → Prop} {o : Oper} {rest : List Oper} {env : List VP}

/-- What an operand is, of what the operation may lean on. -/
def Opd (ops : Array Oper) (M : Nat) (a0 : Act) (w0 : World) (env : List VP) (o : Oper) (x : Operand) (F : VP) : Prop :=
  ∀ a w, Ext w0 w → Ctx ops M a0 a → Dep ops (envOf env) o a w → F (a.eval x) w
def notDst (ops : Array Oper) (M t : Nat) : Bool := (List.range M).all fun i => dstOf ops i != some t
def afterB (o : Oper) (j : Nat) : Bool := o.after.toList.any fun e => Region.binds .any e && e.on == j

theorem opd_const (v : Value) : Opd ops M a0 w0 env o (.const v) (VEq v) := fun _ _ _ _ _ => rfl
/-- The n-th of a list that is written out: it comes to the very term. -/
def nth {α : Type} : List α → Nat → Option α
  | [], _ => none
  | x :: _, 0 => some x
  | _ :: xs, n + 1 => nth xs n
theorem nth_eq {α : Type} : ∀ (l : List α) (n : Nat), nth l n = l[n]?
  | [], _ => by simp [nth]
  | _ :: _, 0 => by simp [nth]
  | _ :: xs, n + 1 => by simp [nth, nth_eq xs n]
theorem opd_frame (t : Nat) {v : Value} (h0 : nth a0.tmps.toList t = some v) (hn : notDst ops M t = true) : Opd ops M a0 w0 env o (.tmp t) (VEq v) := fun a w _ hC _ => by
  have h : a0.tmps[t]? = some v := by rw [nth_eq] at h0; simpa using h0
  have h1 := hC.frame t fun i hi e => by
    have := List.all_eq_true.1 hn i (List.mem_range.2 hi)
    rw [e] at this; simp at this
  show a.tmps.getD t undef = v
  rw [Array.getD_eq_getD_getElem?, h1, h]; rfl
theorem opd_dep (j t r : Nat) {F : VP} (ha : afterB o j = true) (hd : dstOf ops j = some t) (hr : env.length = j + r + 1) (hF : nth env r = some F) : Opd ops M a0 w0 env o (.tmp t) F := fun a w _ _ hD => by
  obtain ⟨e, he, hb⟩ := List.any_eq_true.1 ha
  simp only [Bool.and_eq_true, beq_iff_eq] at hb
  have := hD e (Array.mem_toList_iff.1 he) hb.1 t (by rw [hb.2]; exact hd)
  rw [hb.2] at this
  unfold envOf at this
  rw [List.getD_eq_getElem?_getD, List.getElem?_reverse (by omega), show env.length - 1 - j = r by omega, ← nth_eq, hF] at this
  exact this

theorem ext_drew (w : World) : Ext w w.drew := (Below.refl _ _).drew
theorem ext_alloc (w : World) (x : Obj) : Ext w (w.alloc x) := (Below.refl _ _).alloc (Nat.le_refl _) _
/-- An operand that the region finds in its slot, of which a predicate holds. -/
theorem opd_fr (t : Nat) {v : Value} {F : VP} {w : World} (h : nth a0.tmps.toList t = some v) (hF : F v w) (hE : Ext w w0) (hn : notDst ops M t = true) : Opd ops M a0 w0 env o (.tmp t) F := fun a w1 hE1 hC hD => by
  rw [show a.eval (.tmp t) = v from opd_frame t h hn a w1 hE1 hC hD]
  exact F.st _ _ _ hF (hE.tr hE1)
theorem opd_mono {x : Operand} {F G : VP} (h : Opd ops M a0 w0 env o x F) (hFG : ∀ v w, F v w → G v w) : Opd ops M a0 w0 env o x G := fun a w hE hC hD => hFG _ _ (h a w hE hC hD)

/-- Is the operation wanted? -/
def Want (ops : Array Oper) (M : Nat) (a0 : Act) (w0 : World) (env : List VP) (o : Oper) (b : Bool) : Prop :=
  ∀ a w, Ext w0 w → Ctx ops M a0 a → Dep ops (envOf env) o a w → Region.wanted o (yielded ops a.tmps) = b
theorem want_none (h : o.guard = none) : Want ops M a0 w0 env o true := fun _ _ _ _ _ => by simp [Region.wanted, h]
theorem want_guard_ (j t r : Nat) {c b : Bool} (hg : o.guard = some (j, b)) (hlt : Nat.ble (t + 1) a0.tmps.size = true) (ha : afterB o j = true) (hd : dstOf ops j = some t) (hr : env.length = j + r + 1) (hF : nth env r = some (VEq (.bool c))) : Want ops M a0 w0 env o (c == b) := fun a w hE hC hD => by
  have h1 : a.tmps.getD t undef = .bool c := opd_dep (M := M) (a0 := a0) (w0 := w0) j t r ha hd hr hF a w hE hC hD
  have h2 : a.tmps[t]? = some (.bool c) := by
    have hlt' : t < a.tmps.size := by rw [hC.size]; exact Nat.le_of_ble_eq_true hlt
    simp [hlt'] at h1 ⊢; exact h1
  have h3 : yielded ops a.tmps j = some c := by
    unfold dstOf at hd
    simp [yielded, hd, h2]
  simp [Region.wanted, hg, h3]

theorem want_tt (j t r : Nat) (hg : o.guard = some (j, true)) (hlt : Nat.ble (t + 1) a0.tmps.size = true) (ha : afterB o j = true) (hd : dstOf ops j = some t) (hr : env.length = j + r + 1) (hF : nth env r = some (VEq (.bool true))) : Want ops M a0 w0 env o true := want_guard_ j t r hg hlt ha hd hr hF
theorem want_ff (j t r : Nat) (hg : o.guard = some (j, false)) (hlt : Nat.ble (t + 1) a0.tmps.size = true) (ha : afterB o j = true) (hd : dstOf ops j = some t) (hr : env.length = j + r + 1) (hF : nth env r = some (VEq (.bool false))) : Want ops M a0 w0 env o true := want_guard_ j t r hg hlt ha hd hr hF
theorem want_ft (j t r : Nat) (hg : o.guard = some (j, true)) (hlt : Nat.ble (t + 1) a0.tmps.size = true) (ha : afterB o j = true) (hd : dstOf ops j = some t) (hr : env.length = j + r + 1) (hF : nth env r = some (VEq (.bool false))) : Want ops M a0 w0 env o false := want_guard_ j t r hg hlt ha hd hr hF
theorem want_tf (j t r : Nat) (hg : o.guard = some (j, false)) (hlt : Nat.ble (t + 1) a0.tmps.size = true) (ha : afterB o j = true) (hd : dstOf ops j = some t) (hr : env.length = j + r + 1) (hF : nth env r = some (VEq (.bool true))) : Want ops M a0 w0 env o false := want_guard_ j t r hg hlt ha hd hr hF

theorem want_un (j t r : Nat) {b : Bool} (hg : o.guard = some (j, b)) (hlt : Nat.ble (t + 1) a0.tmps.size = true) (ha : afterB o j = true) (hd : dstOf ops j = some t) (hr : env.length = j + r + 1) (hF : nth env r = some (VEq undef)) : Want ops M a0 w0 env o false := fun a w hE hC hD => by
  have h1 : a.tmps.getD t undef = undef := opd_dep (M := M) (a0 := a0) (w0 := w0) j t r ha hd hr hF a w hE hC hD
  have h2 : a.tmps[t]? = some undef := by
    have hlt' : t < a.tmps.size := by rw [hC.size]; exact Nat.le_of_ble_eq_true hlt
    simp [hlt'] at h1 ⊢; exact h1
  have h3 : yielded ops a.tmps j = none := by
    unfold dstOf at hd
    simp [yielded, hd, h2, undef]
  simp [Region.wanted, hg, h3]
theorem VWalk.skip (hw : Want ops M a0 w0 env o false) (hr : VWalk P Q ops M a0 w0 K m rest (VEq undef :: env)) : VWalk P Q ops M a0 w0 K (m + 1) (o :: rest) env :=
  ⟨VEq undef, fun a w hE hC hD => by rw [hw a w hE hC hD]; exact rfl, hr⟩

/-- The operation yields a value of which F holds, in whatever world it comes up; the world stays. -/
theorem VWalk.val {F : VP} (hw : Want ops M a0 w0 env o true) (h : ∀ a w, Ext w0 w → Ctx ops M a0 a → Dep ops (envOf env) o a w → ∃ v, (execOp a.eval o).run P w = .ok (.value v) w ∧ F v w)
    (hr : VWalk P Q ops M a0 w0 K m rest (F :: env)) : VWalk P Q ops M a0 w0 K (m + 1) (o :: rest) env :=
  ⟨F, fun a w hE hC hD => by
    obtain ⟨v, h1, h2⟩ := h a w hE hC hD
    rw [hw a w hE hC hD, if_pos rfl]
    unfold Oper.wp
    rw [h1]
    exact ⟨v, rfl, (Ext.rf _).grow hE.size, h2⟩, hr⟩

/-- It yields a value of which F holds; what was there is as it was. -/
theorem VWalk.new {F : VP} (hw : Want ops M a0 w0 env o true) (h : ∀ a w, Ext w0 w → Ctx ops M a0 a → Dep ops (envOf env) o a w → ∃ v w', (execOp a.eval o).run P w = .ok (.value v) w' ∧ Ext w w' ∧ F v w')
    (hr : VWalk P Q ops M a0 w0 K m rest (F :: env)) : VWalk P Q ops M a0 w0 K (m + 1) (o :: rest) env :=
  ⟨F, fun a w hE hC hD => by
    obtain ⟨v, w', h1, h2, h3⟩ := h a w hE hC hD
    rw [hw a w hE hC hD, if_pos rfl]
    unfold Oper.wp
    rw [h1]
    exact ⟨v, rfl, h2.grow hE.size, h3⟩, hr⟩

theorem VWalk.move {F : VP} (x : Operand) (ho : o.op = .move x) (hw : Want ops M a0 w0 env o true) (hx : Opd ops M a0 w0 env o x F)
    (hr : VWalk P Q ops M a0 w0 K m rest (F :: env)) : VWalk P Q ops M a0 w0 K (m + 1) (o :: rest) env :=
  .val hw (fun a w hE hC hD => ⟨a.eval x, by unfold execOp; rw [ho]; rfl, hx a w hE hC hD⟩) hr

theorem VWalk.assign {F : VP} (x : Operand) (ho : o.op = .assign x) (hw : Want ops M a0 w0 env o true) (hx : Opd ops M a0 w0 env o x F)
    (hr : VWalk P Q ops M a0 w0 K m rest (F :: env)) : VWalk P Q ops M a0 w0 K (m + 1) (o :: rest) env :=
  .val hw (fun a w hE hC hD => ⟨a.eval x, by unfold execOp; rw [ho]; rfl, hx a w hE hC hD⟩) hr
theorem VWalk.pickT {F : VP} (c x y : Operand) (ho : o.op = .pick c x y) (hw : Want ops M a0 w0 env o true) (hc : Opd ops M a0 w0 env o c (VEq (.bool true))) (hx : Opd ops M a0 w0 env o x F)
    (hr : VWalk P Q ops M a0 w0 K m rest (F :: env)) : VWalk P Q ops M a0 w0 K (m + 1) (o :: rest) env :=
  .val hw (fun a w hE hC hD => ⟨a.eval x, by
    have h1 : a.eval c = .bool true := hc a w hE hC hD
    unfold execOp; simp only [ho, h1, asBool, Sem.run_bind, Sem.run_pure, Result.andThen_ok]; rfl, hx a w hE hC hD⟩) hr
theorem VWalk.pickF {F : VP} (c x y : Operand) (ho : o.op = .pick c x y) (hw : Want ops M a0 w0 env o true) (hc : Opd ops M a0 w0 env o c (VEq (.bool false))) (hx : Opd ops M a0 w0 env o y F)
    (hr : VWalk P Q ops M a0 w0 K m rest (F :: env)) : VWalk P Q ops M a0 w0 K (m + 1) (o :: rest) env :=
  .val hw (fun a w hE hC hD => ⟨a.eval y, by
    have h1 : a.eval c = .bool false := hc a w hE hC hD
    unfold execOp; simp only [ho, h1, asBool, Sem.run_bind, Sem.run_pure, Result.andThen_ok]; rfl, hx a w hE hC hD⟩) hr

/-- One, two operands that are known: the operation's run at whatever gives them these values. -/
theorem VWalk.det1 {r vx : Value} (x : Operand) (hw : Want ops M a0 w0 env o true) (hx : Opd ops M a0 w0 env o x (VEq vx))
    (h : ∀ (ρ : Operand → Value) w, Ext w0 w → ρ x = vx → (execOp ρ o).run P w = .ok (.value r) w)
    (hr : VWalk P Q ops M a0 w0 K m rest (VEq r :: env)) : VWalk P Q ops M a0 w0 K (m + 1) (o :: rest) env :=
  .val hw (fun a w hE hC hD => ⟨r, h a.eval w hE (hx a w hE hC hD), rfl⟩) hr
theorem VWalk.det2 {r vx vy : Value} (x y : Operand) (hw : Want ops M a0 w0 env o true) (hx : Opd ops M a0 w0 env o x (VEq vx)) (hy : Opd ops M a0 w0 env o y (VEq vy))
    (h : ∀ (ρ : Operand → Value) w, Ext w0 w → ρ x = vx → ρ y = vy → (execOp ρ o).run P w = .ok (.value r) w)
    (hr : VWalk P Q ops M a0 w0 K m rest (VEq r :: env)) : VWalk P Q ops M a0 w0 K (m + 1) (o :: rest) env :=
  .val hw (fun a w hE hC hD => ⟨r, h a.eval w hE (hx a w hE hC hD) (hy a w hE hC hD), rfl⟩) hr
theorem VWalk.det3 {r vx vy vz : Value} (x y z : Operand) (hw : Want ops M a0 w0 env o true) (hx : Opd ops M a0 w0 env o x (VEq vx)) (hy : Opd ops M a0 w0 env o y (VEq vy)) (hz : Opd ops M a0 w0 env o z (VEq vz))
    (h : ∀ (ρ : Operand → Value) w, Ext w0 w → ρ x = vx → ρ y = vy → ρ z = vz → (execOp ρ o).run P w = .ok (.value r) w)
    (hr : VWalk P Q ops M a0 w0 K m rest (VEq r :: env)) : VWalk P Q ops M a0 w0 K (m + 1) (o :: rest) env :=
  .val hw (fun a w hE hC hD => ⟨r, h a.eval w hE (hx a w hE hC hD) (hy a w hE hC hD) (hz a w hE hC hD), rfl⟩) hr
/-- Operands of which predicates hold: the value's own predicate; the world may grow. -/
theorem VWalk.op1 {F Fx : VP} (x : Operand) (hw : Want ops M a0 w0 env o true) (hx : Opd ops M a0 w0 env o x Fx)
    (h : ∀ (ρ : Operand → Value) w, Ext w0 w → Fx (ρ x) w → ∃ v w', (execOp ρ o).run P w = .ok (.value v) w' ∧ Ext w w' ∧ F v w')
    (hr : VWalk P Q ops M a0 w0 K m rest (F :: env)) : VWalk P Q ops M a0 w0 K (m + 1) (o :: rest) env :=
  .new hw (fun a w hE hC hD => h a.eval w hE (hx a w hE hC hD)) hr
theorem VWalk.op2 {F Fx Fy : VP} (x y : Operand) (hw : Want ops M a0 w0 env o true) (hx : Opd ops M a0 w0 env o x Fx) (hy : Opd ops M a0 w0 env o y Fy)
    (h : ∀ (ρ : Operand → Value) w, Ext w0 w → Fx (ρ x) w → Fy (ρ y) w → ∃ v w', (execOp ρ o).run P w = .ok (.value v) w' ∧ Ext w w' ∧ F v w')
    (hr : VWalk P Q ops M a0 w0 K m rest (F :: env)) : VWalk P Q ops M a0 w0 K (m + 1) (o :: rest) env :=
  .new hw (fun a w hE hC hD => h a.eval w hE (hx a w hE hC hD) (hy a w hE hC hD)) hr
theorem VWalk.op3 {F Fx Fy Fz : VP} (x y z : Operand) (hw : Want ops M a0 w0 env o true) (hx : Opd ops M a0 w0 env o x Fx) (hy : Opd ops M a0 w0 env o y Fy) (hz : Opd ops M a0 w0 env o z Fz)
    (h : ∀ (ρ : Operand → Value) w, Ext w0 w → Fx (ρ x) w → Fy (ρ y) w → Fz (ρ z) w → ∃ v w', (execOp ρ o).run P w = .ok (.value v) w' ∧ Ext w w' ∧ F v w')
    (hr : VWalk P Q ops M a0 w0 K m rest (F :: env)) : VWalk P Q ops M a0 w0 K (m + 1) (o :: rest) env :=
  .new hw (fun a w hE hC hD => h a.eval w hE (hx a w hE hC hD) (hy a w hE hC hD) (hz a w hE hC hD)) hr

/-- A call of a Go function. -/
theorem VWalk.call {F : VP} (f : FuncId) (args : Array Operand) (tys : Array TypeId) (ho : o.op = .call { callee := .value (.func f), args := args, argTypes := tys })
    (hent : ∀ as w, (callFunc f as).run P w = .ok (.enter f as) w) (hw : Want ops M a0 w0 env o true)
    (h : ∀ a w, Ext w0 w → Ctx ops M a0 a → Dep ops (envOf env) o a w → Calls P f (args.map a.eval) w (Ret w F))
    (hr : VWalk P Q ops M a0 w0 K m rest (F :: env)) : VWalk P Q ops M a0 w0 K (m + 1) (o :: rest) env :=
  ⟨F, fun a w hE hC hD => by
    rw [hw a w hE hC hD, if_pos rfl]
    have hrun : (execOp a.eval o).run P w = .ok (.enter f (args.map a.eval)) w := by
      unfold execOp
      simp only [ho, resolve, Act.eval, Sem.run_bind]
      simp [go_sem, hent]
    unfold Oper.wp
    rw [hrun]
    refine (h a w hE hC hD).mono ?_
    rintro e w' ⟨v, rfl, h1, h2⟩
    exact ⟨v, rfl, h1.grow hE.size, h2⟩, hr⟩
theorem VWalk.call0 {F : VP} (f : FuncId) (tys : Array TypeId) (ho : o.op = .call { callee := .value (.func f), args := #[], argTypes := tys })
    (hent : ∀ as w, (callFunc f as).run P w = .ok (.enter f as) w) (hw : Want ops M a0 w0 env o true)
    (h : ∀ w, Ext w0 w → Calls P f #[] w (Ret w F))
    (hr : VWalk P Q ops M a0 w0 K m rest (F :: env)) : VWalk P Q ops M a0 w0 K (m + 1) (o :: rest) env :=
  .call f _ tys ho hent hw (fun _ w hE _ _ => by simpa using h w hE) hr
theorem VWalk.call1 {F Fx : VP} (f : FuncId) (x : Operand) (tys : Array TypeId) (ho : o.op = .call { callee := .value (.func f), args := #[x], argTypes := tys })
    (hent : ∀ as w, (callFunc f as).run P w = .ok (.enter f as) w) (hw : Want ops M a0 w0 env o true) (hx : Opd ops M a0 w0 env o x Fx)
    (h : ∀ u w, Ext w0 w → Fx u w → Calls P f #[u] w (Ret w F))
    (hr : VWalk P Q ops M a0 w0 K m rest (F :: env)) : VWalk P Q ops M a0 w0 K (m + 1) (o :: rest) env :=
  .call f _ tys ho hent hw (fun a w hE hC hD => by simpa only [List.map_toArray, List.map_cons, List.map_nil] using h (a.eval x) w hE (hx a w hE hC hD)) hr
theorem VWalk.call2 {F Fx Fy : VP} (f : FuncId) (x y : Operand) (tys : Array TypeId) (ho : o.op = .call { callee := .value (.func f), args := #[x, y], argTypes := tys })
    (hent : ∀ as w, (callFunc f as).run P w = .ok (.enter f as) w) (hw : Want ops M a0 w0 env o true) (hx : Opd ops M a0 w0 env o x Fx) (hy : Opd ops M a0 w0 env o y Fy)
    (h : ∀ u v w, Ext w0 w → Fx u w → Fy v w → Calls P f #[u, v] w (Ret w F))
    (hr : VWalk P Q ops M a0 w0 K m rest (F :: env)) : VWalk P Q ops M a0 w0 K (m + 1) (o :: rest) env :=
  .call f _ tys ho hent hw (fun a w hE hC hD => by simpa only [List.map_toArray, List.map_cons, List.map_nil] using h (a.eval x) (a.eval y) w hE (hx a w hE hC hD) (hy a w hE hC hD)) hr
theorem VWalk.call3 {F Fx Fy Fz : VP} (f : FuncId) (x y z : Operand) (tys : Array TypeId) (ho : o.op = .call { callee := .value (.func f), args := #[x, y, z], argTypes := tys })
    (hent : ∀ as w, (callFunc f as).run P w = .ok (.enter f as) w) (hw : Want ops M a0 w0 env o true) (hx : Opd ops M a0 w0 env o x Fx) (hy : Opd ops M a0 w0 env o y Fy) (hz : Opd ops M a0 w0 env o z Fz)
    (h : ∀ u v s w, Ext w0 w → Fx u w → Fy v w → Fz s w → Calls P f #[u, v, s] w (Ret w F))
    (hr : VWalk P Q ops M a0 w0 K m rest (F :: env)) : VWalk P Q ops M a0 w0 K (m + 1) (o :: rest) env :=
  .call f _ tys ho hent hw (fun a w hE hC hD => by simpa only [List.map_toArray, List.map_cons, List.map_nil] using h (a.eval x) (a.eval y) (a.eval z) w hE (hx a w hE hC hD) (hy a w hE hC hD) (hz a w hE hC hD)) hr
theorem VWalk.call4 {F Fx Fy Fz Fs : VP} (f : FuncId) (x y z s : Operand) (tys : Array TypeId) (ho : o.op = .call { callee := .value (.func f), args := #[x, y, z, s], argTypes := tys })
    (hent : ∀ as w, (callFunc f as).run P w = .ok (.enter f as) w) (hw : Want ops M a0 w0 env o true) (hx : Opd ops M a0 w0 env o x Fx) (hy : Opd ops M a0 w0 env o y Fy) (hz : Opd ops M a0 w0 env o z Fz) (hs : Opd ops M a0 w0 env o s Fs)
    (h : ∀ u v t r w, Ext w0 w → Fx u w → Fy v w → Fz t w → Fs r w → Calls P f #[u, v, t, r] w (Ret w F))
    (hr : VWalk P Q ops M a0 w0 K m rest (F :: env)) : VWalk P Q ops M a0 w0 K (m + 1) (o :: rest) env :=
  .call f _ tys ho hent hw (fun a w hE hC hD => by simpa only [List.map_toArray, List.map_cons, List.map_nil] using h (a.eval x) (a.eval y) (a.eval z) (a.eval s) w hE (hx a w hE hC hD) (hy a w hE hC hD) (hz a w hE hC hD) (hs a w hE hC hD)) hr

/-- A load through a pointer that is known, of what no operation ahead of the stores can turn. -/
theorem VWalk.load {r p : Value} (t : TypeId) (x : Operand) (ho : o.op = .load t x) (hw : Want ops M a0 w0 env o true) (hx : Opd ops M a0 w0 env o x (VEq p))
    (h : ∀ w, Ext w0 w → (Instr.loadAt t p).run P w = .ok r w)
    (hr : VWalk P Q ops M a0 w0 K m rest (VEq r :: env)) : VWalk P Q ops M a0 w0 K (m + 1) (o :: rest) env :=
  .det1 x hw hx (fun ρ w hE hρ => by unfold execOp; simp only [ho, hρ, h w hE, Sem.run_bind, Sem.run_pure, Result.andThen_ok]) hr
theorem VWalk.loadV {F G : VP} (t : TypeId) (x : Operand) (ho : o.op = .load t x) (hw : Want ops M a0 w0 env o true) (hx : Opd ops M a0 w0 env o x G)
    (h : ∀ p w, Ext w0 w → G p w → ∃ r, (Instr.loadAt t p).run P w = .ok r w ∧ F r w)
    (hr : VWalk P Q ops M a0 w0 K m rest (F :: env)) : VWalk P Q ops M a0 w0 K (m + 1) (o :: rest) env :=
  .val hw (fun a w hE hC hD => by
    obtain ⟨r, h1, h2⟩ := h (a.eval x) w hE (hx a w hE hC hD)
    exact ⟨r, by unfold execOp; simp only [ho, h1, Sem.run_bind, Sem.run_pure, Result.andThen_ok], h2⟩) hr
/-- A block that is known whole. -/
def Box (w : World) (g : Nat) (t : TypeId) (cs : Array Value) : Prop := w.heap[g]? = some (.cells cs t (0, 0))
theorem Box.lt {w : World} {g : Nat} {t : TypeId} {cs : Array Value} (h : Box w g t cs) : g < w.heap.size := (Array.getElem?_eq_some_iff.1 h).1
theorem Box.new (w : World) (t : TypeId) (cs : Array Value) : Box (w.alloc (.cells cs t)) w.heap.size t cs := heap_alloc_new w _
theorem Box.ext {w w' : World} {g : Nat} {t : TypeId} {cs : Array Value} (h : Box w g t cs) (hE : Ext w w') : Box w' g t cs := (hE.block g h.lt).trans h
theorem Box.alloc {w : World} {g : Nat} {t : TypeId} {cs : Array Value} (h : Box w g t cs) (o : Obj) : Box (w.alloc o) g t cs := h.ext (ext_alloc w o)
theorem Box.cell {w : World} {g : Nat} {t : TypeId} {cs : Array Value} (h : Box w g t cs) (i : Nat) : w.cell? ⟨g, i, none⟩ = cs[i]? := cell_of_row w g i cs t (0, 0) h
theorem Box.at_ {w : World} {g : Nat} {t : TypeId} {cs : Array Value} {v : Value} (h : Box w g t cs) (i : Nat) (hi : nth cs.toList i = some v) : w.cell? ⟨g, i, none⟩ = some v := by
  rw [h.cell i]; rw [nth_eq] at hi; simpa using hi
theorem Box.frozen {w : World} {g : Nat} {t : TypeId} {cs : Array Value} (h : Box w g t cs) (i : Nat) : w.frozen? ⟨g, i, none⟩ = false := by
  unfold Box at h; simp [World.frozen?, h]
theorem Box.drew {w : World} {g : Nat} {t : TypeId} {cs : Array Value} (h : Box w g t cs) : Box w.drew g t cs := h
theorem Box.set_ {w : World} {g : Nat} {t : TypeId} {cs : Array Value} (h : Box w g t cs) (i : Nat) (u : Value) : Box (w.setCell ⟨g, i, none⟩ u) g t (cs.setIfInBounds i u) := by
  unfold Box at h ⊢
  simp [World.setCell, Array.getElem?_modify, h]
theorem Box.far {w : World} {g : Nat} {t : TypeId} {cs : Array Value} (h : Box w g t cs) {p : Addr} (hp : g ≠ p.block) (u : Value) : Box (w.setCell p u) g t cs := (Below.heap_setCell w p u g hp).trans h

theorem Box.setRow_ {w : World} {g : Nat} {t : TypeId} {old cs : Array Value} (h : Box w g t old) : Box (w.setRow g cs) g t cs := by
  unfold Box World.setRow at *
  have hlt := (Array.getElem?_eq_some_iff.1 h).1
  simp [Array.getElem?_modify, h]
/-- The store into a variable that the region made: what is left of it is that the variable holds the value, and what was there ahead of the region is as it was. -/
theorem wpList_store_new {P : Program} {Q : Exit → Act → World → Prop} {ops : Array Oper} {rest : List Oper} {o : Oper} {a : Act} {w : World} (hgd : o.guard = none) (ty : TypeId) (x y : Operand) (ho : o.op = .store ty x y) (hdst : o.dst = none)
    (g : Nat) (cells : Array Value) (hx : a.eval x = .pointer (some ⟨g, 0, none⟩)) (hy : a.eval y = .agg cells) (t : TypeId) (old : Array Value) (hb : Box w g t old) (hi : (P.info? ty).map (·.size) = some cells.size)
    (hold : old.size = cells.size) (h1 : cells.toList.all (·.oneCell') = true)
    (h : ∀ w', Box w' g t cells → (∀ k, k ≠ g → w'.heap[k]? = w.heap[k]?) → (∀ w0, Ext w0 w → w0.heap.size ≤ g → Ext w0 w') → wpList P ops Q rest a w') : wpList P ops Q (o :: rest) a w := by
  refine wpList_store_row hgd ty x y ho g cells hx hy t old hb hi hold (by rw [← Array.all_toList]; exact h1) ?_
  rw [hdst]
  have hk : ∀ k, k ≠ g → (w.setRow g cells).heap[k]? = w.heap[k]? := fun k hk => by
    unfold World.setRow; simp [Array.getElem?_modify, Ne.symm hk]
  exact h _ hb.setRow_ hk fun w0 hE hg => ⟨hE.os, hE.tape, hE.output, by unfold World.setRow; simpa using hE.size, fun k hlt => (hk k (by omega)).trans (hE.block k hlt)⟩

/-- A load of one cell. -/
theorem VWalk.load1 {v : Value} {p : Addr} {w : World} (t : TypeId) (x : Operand) (ho : o.op = .load t x) (hw : Want ops M a0 w0 env o true) (hx : Opd ops M a0 w0 env o x (VEq (.pointer (some p))))
    (hagg : ∀ w : World, (isAgg t).run P w = .ok false w) (hc : w.cell? p = some v) (hE : Ext w w0)
    (hr : VWalk P Q ops M a0 w0 K m rest (VEq v :: env)) : VWalk P Q ops M a0 w0 K (m + 1) (o :: rest) env :=
  .load t x ho hw hx (fun w1 hE1 => by
    have h1 : w1.cell? p = some v := ((hE.tr hE1).cell (World.block_lt_of_cell? w p hc)).trans hc
    simp [Instr.loadAt, Instr.sureAddr, loadVar, Sem.run_bind, hagg, h1]) hr
/-- A load of a variable of several cells. -/
theorem VWalk.loadBox {g : Nat} {T : TypeId} {cs : Array Value} {w : World} (t : TypeId) (x : Operand) (ho : o.op = .load t x) (hw : Want ops M a0 w0 env o true) (hx : Opd ops M a0 w0 env o x (VEq (.pointer (some ⟨g, 0, none⟩))))
    {d : TypeDesc} (hu : P.underlying t = some d) (hd : (match d with | .struct _ | .array _ _ => true | _ => false) = true) (hi : (P.info? t).map (·.size) = some cs.size) (hb : Box w g T cs) (hE : Ext w w0)
    (hr : VWalk P Q ops M a0 w0 K m rest (VEq (.agg cs) :: env)) : VWalk P Q ops M a0 w0 K (m + 1) (o :: rest) env :=
  .load t x ho hw hx (fun w1 hE1 => by
    simp only [Instr.loadAt, Instr.sureAddr, Sem.run_bind, Sem.run_pure, Result.andThen_ok, run_loadVar_row w1 g T t cs (0, 0) d (hb.ext (hE.tr hE1)) hu hd hi]) hr

theorem VWalk.add64 {a b : Int} (t t' : TypeId) (x y : Operand) (ho : o.op = .binOp .add t x y t') (hw : Want ops M a0 w0 env o true) (hx : Opd ops M a0 w0 env o x (VEq (.int .i64 a))) (hy : Opd ops M a0 w0 env o y (VEq (.int .i64 b)))
    (hb : -9223372036854775808 ≤ a + b ∧ a + b ≤ 9223372036854775807)
    (hr : VWalk P Q ops M a0 w0 K m rest (VEq (.int .i64 (a + b)) :: env)) : VWalk P Q ops M a0 w0 K (m + 1) (o :: rest) env :=
  .det2 x y hw hx hy (fun ρ w _ h1 h2 => by
    have h3 : IntKind.i64.wrap (a + b) = a + b := IntWalk.i64_in _ hb
    unfold execOp
    simp [ho, h1, h2, go_sem, h3]) hr
theorem VWalk.sub64 {a b : Int} (t t' : TypeId) (x y : Operand) (ho : o.op = .binOp .sub t x y t') (hw : Want ops M a0 w0 env o true) (hx : Opd ops M a0 w0 env o x (VEq (.int .i64 a))) (hy : Opd ops M a0 w0 env o y (VEq (.int .i64 b)))
    (hb : -9223372036854775808 ≤ a - b ∧ a - b ≤ 9223372036854775807)
    (hr : VWalk P Q ops M a0 w0 K m rest (VEq (.int .i64 (a - b)) :: env)) : VWalk P Q ops M a0 w0 K (m + 1) (o :: rest) env :=
  .det2 x y hw hx hy (fun ρ w _ h1 h2 => by
    have h3 : IntKind.i64.wrap (a - b) = a - b := IntWalk.i64_in _ hb
    unfold execOp
    simp [ho, h1, h2, go_sem, h3]) hr
theorem VWalk.mul64 {a b : Int} (t t' : TypeId) (x y : Operand) (ho : o.op = .binOp .mul t x y t') (hw : Want ops M a0 w0 env o true) (hx : Opd ops M a0 w0 env o x (VEq (.int .i64 a))) (hy : Opd ops M a0 w0 env o y (VEq (.int .i64 b)))
    (hb : -9223372036854775808 ≤ a * b ∧ a * b ≤ 9223372036854775807)
    (hr : VWalk P Q ops M a0 w0 K m rest (VEq (.int .i64 (a * b)) :: env)) : VWalk P Q ops M a0 w0 K (m + 1) (o :: rest) env :=
  .det2 x y hw hx hy (fun ρ w _ h1 h2 => by
    have h3 : IntKind.i64.wrap (a * b) = a * b := IntWalk.i64_in _ hb
    unfold execOp
    simp [ho, h1, h2, go_sem, h3]) hr

/-- '==' of two equal numbers, strings, Bools. -/
theorem VWalk.eqT {k : IntKind} {a b : Int} (t t' : TypeId) (x y : Operand) (ho : o.op = .binOp .eql t x y t') (hw : Want ops M a0 w0 env o true) (hx : Opd ops M a0 w0 env o x (VEq (.int k a))) (hy : Opd ops M a0 w0 env o y (VEq (.int k b)))
    (hab : a = b)
    (hr : VWalk P Q ops M a0 w0 K m rest (VEq (.bool true) :: env)) : VWalk P Q ops M a0 w0 K (m + 1) (o :: rest) env :=
  .det2 x y hw hx hy (fun ρ w _ h1 h2 => by
    subst hab
    unfold execOp
    simp [ho, h1, h2, go_sem]) hr
theorem VWalk.geqT {k : IntKind} {a b : Int} (t t' : TypeId) (x y : Operand) (ho : o.op = .binOp .geq t x y t') (hw : Want ops M a0 w0 env o true) (hx : Opd ops M a0 w0 env o x (VEq (.int k a))) (hy : Opd ops M a0 w0 env o y (VEq (.int k b)))
    (hab : b ≤ a)
    (hr : VWalk P Q ops M a0 w0 K m rest (VEq (.bool true) :: env)) : VWalk P Q ops M a0 w0 K (m + 1) (o :: rest) env :=
  .det2 x y hw hx hy (fun ρ w _ h1 h2 => by
    unfold execOp
    simp [ho, h1, h2, go_sem]; omega) hr
theorem VWalk.geqF {k : IntKind} {a b : Int} (t t' : TypeId) (x y : Operand) (ho : o.op = .binOp .geq t x y t') (hw : Want ops M a0 w0 env o true) (hx : Opd ops M a0 w0 env o x (VEq (.int k a))) (hy : Opd ops M a0 w0 env o y (VEq (.int k b)))
    (hab : ¬ b ≤ a)
    (hr : VWalk P Q ops M a0 w0 K m rest (VEq (.bool false) :: env)) : VWalk P Q ops M a0 w0 K (m + 1) (o :: rest) env :=
  .det2 x y hw hx hy (fun ρ w _ h1 h2 => by
    unfold execOp
    simp [ho, h1, h2, go_sem]; omega) hr
theorem VWalk.leqT {k : IntKind} {a b : Int} (t t' : TypeId) (x y : Operand) (ho : o.op = .binOp .leq t x y t') (hw : Want ops M a0 w0 env o true) (hx : Opd ops M a0 w0 env o x (VEq (.int k a))) (hy : Opd ops M a0 w0 env o y (VEq (.int k b)))
    (hab : a ≤ b)
    (hr : VWalk P Q ops M a0 w0 K m rest (VEq (.bool true) :: env)) : VWalk P Q ops M a0 w0 K (m + 1) (o :: rest) env :=
  .det2 x y hw hx hy (fun ρ w _ h1 h2 => by
    unfold execOp
    simp [ho, h1, h2, go_sem]; omega) hr
theorem VWalk.leqF {k : IntKind} {a b : Int} (t t' : TypeId) (x y : Operand) (ho : o.op = .binOp .leq t x y t') (hw : Want ops M a0 w0 env o true) (hx : Opd ops M a0 w0 env o x (VEq (.int k a))) (hy : Opd ops M a0 w0 env o y (VEq (.int k b)))
    (hab : ¬ a ≤ b)
    (hr : VWalk P Q ops M a0 w0 K m rest (VEq (.bool false) :: env)) : VWalk P Q ops M a0 w0 K (m + 1) (o :: rest) env :=
  .det2 x y hw hx hy (fun ρ w _ h1 h2 => by
    unfold execOp
    simp [ho, h1, h2, go_sem]; omega) hr
theorem VWalk.gtrT {k : IntKind} {a b : Int} (t t' : TypeId) (x y : Operand) (ho : o.op = .binOp .gtr t x y t') (hw : Want ops M a0 w0 env o true) (hx : Opd ops M a0 w0 env o x (VEq (.int k a))) (hy : Opd ops M a0 w0 env o y (VEq (.int k b)))
    (hab : b < a)
    (hr : VWalk P Q ops M a0 w0 K m rest (VEq (.bool true) :: env)) : VWalk P Q ops M a0 w0 K (m + 1) (o :: rest) env :=
  .det2 x y hw hx hy (fun ρ w _ h1 h2 => by
    unfold execOp
    simp [ho, h1, h2, go_sem]; omega) hr
theorem VWalk.gtrF {k : IntKind} {a b : Int} (t t' : TypeId) (x y : Operand) (ho : o.op = .binOp .gtr t x y t') (hw : Want ops M a0 w0 env o true) (hx : Opd ops M a0 w0 env o x (VEq (.int k a))) (hy : Opd ops M a0 w0 env o y (VEq (.int k b)))
    (hab : ¬ b < a)
    (hr : VWalk P Q ops M a0 w0 K m rest (VEq (.bool false) :: env)) : VWalk P Q ops M a0 w0 K (m + 1) (o :: rest) env :=
  .det2 x y hw hx hy (fun ρ w _ h1 h2 => by
    unfold execOp
    simp [ho, h1, h2, go_sem]; omega) hr
theorem VWalk.lssT {k : IntKind} {a b : Int} (t t' : TypeId) (x y : Operand) (ho : o.op = .binOp .lss t x y t') (hw : Want ops M a0 w0 env o true) (hx : Opd ops M a0 w0 env o x (VEq (.int k a))) (hy : Opd ops M a0 w0 env o y (VEq (.int k b)))
    (hab : a < b)
    (hr : VWalk P Q ops M a0 w0 K m rest (VEq (.bool true) :: env)) : VWalk P Q ops M a0 w0 K (m + 1) (o :: rest) env :=
  .det2 x y hw hx hy (fun ρ w _ h1 h2 => by
    unfold execOp
    simp [ho, h1, h2, go_sem]; omega) hr
theorem VWalk.lssF {k : IntKind} {a b : Int} (t t' : TypeId) (x y : Operand) (ho : o.op = .binOp .lss t x y t') (hw : Want ops M a0 w0 env o true) (hx : Opd ops M a0 w0 env o x (VEq (.int k a))) (hy : Opd ops M a0 w0 env o y (VEq (.int k b)))
    (hab : ¬ a < b)
    (hr : VWalk P Q ops M a0 w0 K m rest (VEq (.bool false) :: env)) : VWalk P Q ops M a0 w0 K (m + 1) (o :: rest) env :=
  .det2 x y hw hx hy (fun ρ w _ h1 h2 => by
    unfold execOp
    simp [ho, h1, h2, go_sem]; omega) hr
theorem VWalk.eqT' {k : IntKind} {a b : Int} (t t' : TypeId) (x y : Operand) (ho : o.op = .binOp .eql t x y t') (hw : Want ops M a0 w0 env o true) (hx : Opd ops M a0 w0 env o x (VEq (.int k a))) (hy : Opd ops M a0 w0 env o y (VEq (.int k b)))
    (hab : a ≠ b)
    (hr : VWalk P Q ops M a0 w0 K m rest (VEq (.bool false) :: env)) : VWalk P Q ops M a0 w0 K (m + 1) (o :: rest) env :=
  .det2 x y hw hx hy (fun ρ w _ h1 h2 => by
    unfold execOp
    simp [ho, h1, h2, go_sem, hab]) hr
theorem VWalk.eqTs {a b : ByteArray} (t t' : TypeId) (x y : Operand) (ho : o.op = .binOp .eql t x y t') (hw : Want ops M a0 w0 env o true) (hx : Opd ops M a0 w0 env o x (VEq (.string a))) (hy : Opd ops M a0 w0 env o y (VEq (.string b)))
    (hab : a = b)
    (hr : VWalk P Q ops M a0 w0 K m rest (VEq (.bool true) :: env)) : VWalk P Q ops M a0 w0 K (m + 1) (o :: rest) env :=
  .det2 x y hw hx hy (fun ρ w _ h1 h2 => by
    subst hab
    unfold execOp
    simp [ho, h1, h2, go_sem]) hr
theorem VWalk.neT {k : IntKind} {a b : Int} (t t' : TypeId) (x y : Operand) (ho : o.op = .binOp .neq t x y t') (hw : Want ops M a0 w0 env o true) (hx : Opd ops M a0 w0 env o x (VEq (.int k a))) (hy : Opd ops M a0 w0 env o y (VEq (.int k b)))
    (hab : a = b)
    (hr : VWalk P Q ops M a0 w0 K m rest (VEq (.bool false) :: env)) : VWalk P Q ops M a0 w0 K (m + 1) (o :: rest) env :=
  .det2 x y hw hx hy (fun ρ w _ h1 h2 => by
    subst hab
    unfold execOp
    simp [ho, h1, h2, go_sem]) hr
theorem VWalk.neT' {k : IntKind} {a b : Int} (t t' : TypeId) (x y : Operand) (ho : o.op = .binOp .neq t x y t') (hw : Want ops M a0 w0 env o true) (hx : Opd ops M a0 w0 env o x (VEq (.int k a))) (hy : Opd ops M a0 w0 env o y (VEq (.int k b)))
    (hab : a ≠ b)
    (hr : VWalk P Q ops M a0 w0 K m rest (VEq (.bool true) :: env)) : VWalk P Q ops M a0 w0 K (m + 1) (o :: rest) env :=
  .det2 x y hw hx hy (fun ρ w _ h1 h2 => by
    unfold execOp
    simp [ho, h1, h2, go_sem, hab]) hr
theorem VWalk.neTs {a b : ByteArray} (t t' : TypeId) (x y : Operand) (ho : o.op = .binOp .neq t x y t') (hw : Want ops M a0 w0 env o true) (hx : Opd ops M a0 w0 env o x (VEq (.string a))) (hy : Opd ops M a0 w0 env o y (VEq (.string b)))
    (hab : a = b)
    (hr : VWalk P Q ops M a0 w0 K m rest (VEq (.bool false) :: env)) : VWalk P Q ops M a0 w0 K (m + 1) (o :: rest) env :=
  .det2 x y hw hx hy (fun ρ w _ h1 h2 => by
    subst hab
    unfold execOp
    simp [ho, h1, h2, go_sem]) hr
theorem VWalk.eqTb {a b : Bool} (t t' : TypeId) (x y : Operand) (ho : o.op = .binOp .eql t x y t') (hw : Want ops M a0 w0 env o true) (hx : Opd ops M a0 w0 env o x (VEq (.bool a))) (hy : Opd ops M a0 w0 env o y (VEq (.bool b)))
    (hd : P.underlying t = some .bool) (hab : a = b)
    (hr : VWalk P Q ops M a0 w0 K m rest (VEq (.bool true) :: env)) : VWalk P Q ops M a0 w0 K (m + 1) (o :: rest) env :=
  .det2 x y hw hx hy (fun ρ w _ h1 h2 => by
    subst hab
    unfold execOp
    simp [ho, h1, h2, go_sem, hd]) hr
theorem VWalk.eqTb' {a b : Bool} (t t' : TypeId) (x y : Operand) (ho : o.op = .binOp .eql t x y t') (hw : Want ops M a0 w0 env o true) (hx : Opd ops M a0 w0 env o x (VEq (.bool a))) (hy : Opd ops M a0 w0 env o y (VEq (.bool b)))
    (hd : P.underlying t = some .bool) (hab : a ≠ b)
    (hr : VWalk P Q ops M a0 w0 K m rest (VEq (.bool false) :: env)) : VWalk P Q ops M a0 w0 K (m + 1) (o :: rest) env :=
  .det2 x y hw hx hy (fun ρ w _ h1 h2 => by
    unfold execOp
    simp [ho, h1, h2, go_sem, hd, hab]) hr
theorem VWalk.neTb {a b : Bool} (t t' : TypeId) (x y : Operand) (ho : o.op = .binOp .neq t x y t') (hw : Want ops M a0 w0 env o true) (hx : Opd ops M a0 w0 env o x (VEq (.bool a))) (hy : Opd ops M a0 w0 env o y (VEq (.bool b)))
    (hd : P.underlying t = some .bool) (hab : a = b)
    (hr : VWalk P Q ops M a0 w0 K m rest (VEq (.bool false) :: env)) : VWalk P Q ops M a0 w0 K (m + 1) (o :: rest) env :=
  .det2 x y hw hx hy (fun ρ w _ h1 h2 => by
    subst hab
    unfold execOp
    simp [ho, h1, h2, go_sem, hd]) hr
theorem VWalk.neTb' {a b : Bool} (t t' : TypeId) (x y : Operand) (ho : o.op = .binOp .neq t x y t') (hw : Want ops M a0 w0 env o true) (hx : Opd ops M a0 w0 env o x (VEq (.bool a))) (hy : Opd ops M a0 w0 env o y (VEq (.bool b)))
    (hd : P.underlying t = some .bool) (hab : a ≠ b)
    (hr : VWalk P Q ops M a0 w0 K m rest (VEq (.bool true) :: env)) : VWalk P Q ops M a0 w0 K (m + 1) (o :: rest) env :=
  .det2 x y hw hx hy (fun ρ w _ h1 h2 => by
    unfold execOp
    simp [ho, h1, h2, go_sem, hd, hab]) hr
/-- A difference, a sum of whatever kind. -/
theorem VWalk.subW {k : IntKind} {a b c : Int} (t t' : TypeId) (x y : Operand) (ho : o.op = .binOp .sub t x y t') (hw : Want ops M a0 w0 env o true) (hx : Opd ops M a0 w0 env o x (VEq (.int k a))) (hy : Opd ops M a0 w0 env o y (VEq (.int k b)))
    (hc : k.wrap (a - b) = c)
    (hr : VWalk P Q ops M a0 w0 K m rest (VEq (.int k c) :: env)) : VWalk P Q ops M a0 w0 K (m + 1) (o :: rest) env :=
  .det2 x y hw hx hy (fun ρ w _ h1 h2 => by
    unfold execOp
    simp [ho, h1, h2, go_sem, hc]) hr
theorem VWalk.addW {k : IntKind} {a b c : Int} (t t' : TypeId) (x y : Operand) (ho : o.op = .binOp .add t x y t') (hw : Want ops M a0 w0 env o true) (hx : Opd ops M a0 w0 env o x (VEq (.int k a))) (hy : Opd ops M a0 w0 env o y (VEq (.int k b)))
    (hc : k.wrap (a + b) = c)
    (hr : VWalk P Q ops M a0 w0 K m rest (VEq (.int k c) :: env)) : VWalk P Q ops M a0 w0 K (m + 1) (o :: rest) env :=
  .det2 x y hw hx hy (fun ρ w _ h1 h2 => by
    unfold execOp
    simp [ho, h1, h2, go_sem, hc]) hr
theorem VWalk.notB {a c : Bool} (t : TypeId) (x : Operand) (ho : o.op = .unOp .not t x) (hw : Want ops M a0 w0 env o true) (hx : Opd ops M a0 w0 env o x (VEq (.bool a))) (hc : (!a) = c)
    (hr : VWalk P Q ops M a0 w0 K m rest (VEq (.bool c) :: env)) : VWalk P Q ops M a0 w0 K (m + 1) (o :: rest) env :=
  .det1 x hw hx (fun ρ w _ h1 => by
    subst hc
    unfold execOp
    simp [ho, h1, go_sem]) hr

/-- A part of several results. -/
def VTup (Fs : List VP) : VP := ⟨fun u w => ∃ vs : List Value, u = .tuple vs.toArray ∧ vs.length = Fs.length ∧ ∀ (i : Nat) (F : VP), Fs[i]? = some F → ∃ v, vs[i]? = some v ∧ F v w, fun u w w' ⟨vs, h1, h2, h3⟩ hE => ⟨vs, h1, h2, fun i F hi => by
  obtain ⟨v, h4, h5⟩ := h3 i F hi
  exact ⟨v, h4, F.wk _ _ _ h5 hE⟩⟩⟩
theorem VTup.two {F G : VP} {u v : Value} {w : World} (h1 : F u w) (h2 : G v w) : VTup [F, G] (.tuple #[u, v]) w := ⟨[u, v], rfl, rfl, fun i X hi => by
  match i with
  | 0 => cases hi; exact ⟨u, rfl, h1⟩
  | 1 => cases hi; exact ⟨v, rfl, h2⟩
  | i + 2 => simp at hi⟩
theorem VTup.three {F G H : VP} {u v x : Value} {w : World} (h1 : F u w) (h2 : G v w) (h3 : H x w) : VTup [F, G, H] (.tuple #[u, v, x]) w := ⟨[u, v, x], rfl, rfl, fun i X hi => by
  match i with
  | 0 => cases hi; exact ⟨u, rfl, h1⟩
  | 1 => cases hi; exact ⟨v, rfl, h2⟩
  | 2 => cases hi; exact ⟨x, rfl, h3⟩
  | i + 3 => simp at hi⟩
theorem VTup.inv2 {F G : VP} {u : Value} {w : World} (h : VTup [F, G] u w) : ∃ a b, u = .tuple #[a, b] ∧ F a w ∧ G b w := by
  obtain ⟨vs, rfl, hl, hv⟩ := h
  match vs, hl with
  | [a, b], _ =>
    obtain ⟨x, h1, h2⟩ := hv 0 F rfl
    obtain ⟨y, h3, h4⟩ := hv 1 G rfl
    cases h1; cases h3
    exact ⟨_, _, rfl, h2, h4⟩
theorem VTup.inv3 {F G H : VP} {u : Value} {w : World} (h : VTup [F, G, H] u w) : ∃ a b c, u = .tuple #[a, b, c] ∧ F a w ∧ G b w ∧ H c w := by
  obtain ⟨vs, rfl, hl, hv⟩ := h
  match vs, hl with
  | [a, b, c], _ =>
    obtain ⟨x, h1, h2⟩ := hv 0 F rfl
    obtain ⟨y, h3, h4⟩ := hv 1 G rfl
    obtain ⟨z, h5, h6⟩ := hv 2 H rfl
    cases h1; cases h3; cases h5
    exact ⟨_, _, _, rfl, h2, h4, h6⟩
theorem VWalk.extract {Fs : List VP} {F : VP} (x : Operand) (i : Nat) (ho : o.op = .extract x i) (hF0 : nth Fs i = some F) (hw : Want ops M a0 w0 env o true) (hx : Opd ops M a0 w0 env o x (VTup Fs))
    (hr : VWalk P Q ops M a0 w0 K m rest (F :: env)) : VWalk P Q ops M a0 w0 K (m + 1) (o :: rest) env :=
  .val hw (fun a w hE hC hD => by
    obtain ⟨vs, h1, _, h3⟩ := hx a w hE hC hD
    have hF : Fs[i]? = some F := by rw [← nth_eq]; exact hF0
    obtain ⟨v, h4, h5⟩ := h3 i F hF
    exact ⟨v, by unfold execOp; simp [ho, h1, Instr.extract, h4], h5⟩) hr
/-- A variable that the region makes: its zero value's cells in a block of its own. -/
def noByte (cs : Array Value) : Bool := match cs[0]? with | some (Value.int IntKind.u8 _) => false | _ => true
theorem noByte_spec {cs : Array Value} (h : noByte cs = true) (z : Int) : cs[0]? ≠ some (Value.int .u8 z) := fun e => by unfold noByte at h; rw [e] at h; cases h
theorem Weak.block_of {w w' : World} (h : Weak w w') {g : Nat} {cs : Array Value} {t : TypeId} {m : Nat × Nat} (hg : w.heap[g]? = some (.cells cs t m)) (hn : noByte cs = true ∨ m ≠ (0, 0)) : w'.heap[g]? = some (.cells cs t m) := by
  rcases h.block g (Array.getElem?_eq_some_iff.1 hg).1 with e | ⟨cs', t', e1, _, z, hz⟩
  · rw [e, hg]
  · rw [hg] at e1; cases e1
    rcases hn with hn | hn
    · exact absurd hz (noByte_spec hn z)
    · exact absurd rfl hn
def VVar (B : Nat) (t : TypeId) (cs : Array Value) : VP := ⟨fun u w => ∃ g, u = .pointer (some ⟨g, 0, none⟩) ∧ B ≤ g ∧ w.heap[g]? = some (.cells cs t (0, 0)) ∧ noByte cs = true, fun _ _ _ ⟨g, h1, h2, h3, h4⟩ hE => ⟨g, h1, h2, hE.block_of h3 (.inl h4), h4⟩⟩
theorem VWalk.alloc {z : Value} (t : TypeId) (ho : o.op = .alloc t) (hw : Want ops M a0 w0 env o true) (hz : (P.info? t).bind (·.zero) = some z) (hn : noByte z.cells = true)
    (hr : VWalk P Q ops M a0 w0 K m rest (VVar w0.heap.size t z.cells :: env)) : VWalk P Q ops M a0 w0 K (m + 1) (o :: rest) env :=
  .new hw (fun a w hE _ _ => by
    cases hi : P.info? t with
    | none => simp [hi] at hz
    | some i =>
      simp only [hi, Option.bind_some] at hz
      refine ⟨.pointer (some ⟨w.heap.size, 0, none⟩), w.alloc (.cells z.cells t), ?_, ext_alloc _ _, ⟨_, rfl, hE.size, heap_alloc_new w _, hn⟩⟩
      unfold execOp
      simp [ho, Instr.alloc, zeroValue, typeInfo, hi, hz, newVar, newRow, Sem.run_bind, Sem.run_pure]) hr

/-- The law's last region: '.. && .. && wakes()', handed back. -/
theorem law_end_in {l : List Oper} {w0 : World} {fn : Func} {r : Value} {R : Ending → World → Prop} {KK : Act → World → Prop} (hKK : ∀ a w, Code.ret.wp P (bodyPost P fn R) a w → KK a w) (M : Nat) (d t : Tmp) (oL : Oper)
    (hoL : oL.op = .assign (.tmp t)) (hgL : oL.guard = none) (hdL : oL.dst = some d) (hres : fn.results = #[.tmp d]) (hlt : Nat.ble (d + 1) a0.tmps.size = true) (hdef : a0.defers = []) (j : Nat) (hj : j + 1 = M) (hjd : dstOf l.toArray j = some t) :
    ∀ (k : Nat) (rest : List Oper) (env : List VP), VWalk P (Exit.then KK (bodyPost P fn R)) l.toArray M a0 w0 (fun tail env => tail = [oL] ∧ env.length = M ∧ env[0]? = some (VEq r) ∧ ∀ w', Ext w0 w' → R (.returned r) w') k rest env →
      VWalk P (Exit.then KK (bodyPost P fn R)) l.toArray M a0 w0 (fun tail env => ∀ a w', Ext w0 w' → Ctx l.toArray M a0 a → EnvAt l.toArray M env a w' → wpList P l.toArray (Exit.then KK (bodyPost P fn R)) tail a w') k rest env := by
  intro k
  induction k with
  | zero =>
    rintro _ env ⟨rfl, hlen, h2, h3⟩ a w' hE hC hF
    obtain ⟨v, hv, hvd⟩ := hF j (by omega)
    have hv' : v = r := by
      unfold envOf at hv
      rw [List.getD_eq_getElem?_getD, List.getElem?_reverse (by omega), show env.length - 1 - j = 0 by omega, h2] at hv; exact hv
    have hat : a.tmps.getD t undef = r := by rw [← hvd t hjd, hv']
    refine wpList_plain hgL fun _ hK => ?_
    unfold Oper.wp execOp
    simp only [hoL, Act.eval, Sem.run_pure]
    refine hK _ _ ?_
    show KK _ w'
    refine hKK _ _ (wp_ret ?_)
    have hlt' : d < a.tmps.size := by rw [hC.size]; exact Nat.le_of_ble_eq_true hlt
    refine ⟨by rw [hdL]; exact hC.defers.trans hdef, r, ?_, h3 w' hE⟩
    rw [hdL]
    unfold results
    simp [hres, Act.put, hlt', hat]
  | succ k ih =>
    intro rest env h
    cases rest with
    | nil => exact h
    | cons o rest =>
      obtain ⟨F, h1, h2⟩ := h
      exact ⟨F, h1, ih _ _ h2⟩
theorem law_end {id : Nat} {l : List Oper} {w : World} {fn : Func} {r : Value} {R : Ending → World → Prop} {KK : Act → World → Prop} (hKK : ∀ a w, Code.ret.wp P (bodyPost P fn R) a w → KK a w) (M : Nat) (fl : List Nat) (d t : Tmp) (oL : Oper) (hm : P.follows .mixedOrders = true) (hB : preB l.toArray M a0.tmps.size fl = true) (hQ : ∀ c a (d : Tmp) v w, Exit.then KK (bodyPost P fn R) (.panic c) { a with tmps := a.tmps.setIfInBounds d v } w → Exit.then KK (bodyPost P fn R) (.panic c) a w) (_ : nth l M = some oL)
    (hoL : oL.op = .assign (.tmp t)) (hgL : oL.guard = none) (hdL : oL.dst = some d) (hres : fn.results = #[.tmp d]) (hlt : Nat.ble (d + 1) a0.tmps.size = true) (hdef : a0.defers = []) (j : Nat) (hj : j + 1 = M) (hjd : dstOf l.toArray j = some t)
    (h : VWalk P (Exit.then KK (bodyPost P fn R)) l.toArray M a0 w.drew (fun tail env => tail = [oL] ∧ env.length = M ∧ env[0]? = some (VEq r) ∧ ∀ w', Ext w.drew w' → R (.returned r) w') M l []) :
    (Code.region id l.toArray true).wp P (Exit.then KK (bodyPost P fn R)) a0 w :=
  vregionA M fl hm hB hQ (law_end_in hKK M d t oL hoL hgL hdL hres hlt hdef j hj hjd _ _ _ h)
theorem law_end0 {id : Nat} {l : List Oper} {w : World} {fn : Func} {r : Value} {R : Ending → World → Prop} {KK : Act → World → Prop} (hKK : ∀ a w, Code.ret.wp P (bodyPost P fn R) a w → KK a w) (M : Nat) (d t : Tmp) (oL : Oper) (hB : preB0 l.toArray M a0.tmps.size = true) (_ : nth l M = some oL)
    (hoL : oL.op = .assign (.tmp t)) (hgL : oL.guard = none) (hdL : oL.dst = some d) (hres : fn.results = #[.tmp d]) (hlt : Nat.ble (d + 1) a0.tmps.size = true) (hdef : a0.defers = []) (j : Nat) (hj : j + 1 = M) (hjd : dstOf l.toArray j = some t)
    (h : VWalk P (Exit.then KK (bodyPost P fn R)) l.toArray M a0 w (fun tail env => tail = [oL] ∧ env.length = M ∧ env[0]? = some (VEq r) ∧ ∀ w', Ext w w' → R (.returned r) w') M l []) :
    (Code.region id l.toArray false).wp P (Exit.then KK (bodyPost P fn R)) a0 w :=
  vregionA0 M hB (law_end_in hKK M d t oL hoL hgL hdL hres hlt hdef j hj hjd _ _ _ h)
/-- The world made a variable: what is known of it stays. -/
theorem gen_world {c : Code} {a : Act} {w : World} (C : World → Prop) (h : C w) (k : ∀ W, C W → c.wp P Q a W) : c.wp P Q a w := k w h
/-- An operation of constants alone. -/
theorem VWalk.det0 {r : Value} (hw : Want ops M a0 w0 env o true) (h : ∀ (ρ : Operand → Value) (w : World), (execOp ρ o).run P w = .ok (.value r) w)
    (hr : VWalk P Q ops M a0 w0 K m rest (VEq r :: env)) : VWalk P Q ops M a0 w0 K (m + 1) (o :: rest) env :=
  VWalk.val hw (fun _ w _ _ _ => ⟨r, h _ w, rfl⟩) hr
/-- The newest value, in another spelling. -/
theorem VWalk.headT {b : Bool} (h : b = true) (hr : VWalk P Q ops M a0 w0 K m rest (VEq (.bool true) :: env)) : VWalk P Q ops M a0 w0 K m rest (VEq (.bool b) :: env) := by subst h; exact hr
theorem VWalk.headF {b : Bool} (h : b = false) (hr : VWalk P Q ops M a0 w0 K m rest (VEq (.bool false) :: env)) : VWalk P Q ops M a0 w0 K m rest (VEq (.bool b) :: env) := by subst h; exact hr
theorem VWalk.headI {k : IntKind} {x y : Int} (h : x = y) (hr : VWalk P Q ops M a0 w0 K m rest (VEq (.int k y) :: env)) : VWalk P Q ops M a0 w0 K m rest (VEq (.int k x) :: env) := by subst h; exact hr
theorem VWalk.head {F G : VP} (h : F = G) (hr : VWalk P Q ops M a0 w0 K m rest (G :: env)) : VWalk P Q ops M a0 w0 K m rest (F :: env) := by subst h; exact hr
end

end Go.Proofs.Ytfbamdkalamliaa
