/- Arrays as functions of a place: an array's cells, its load, its element, its allocation. -/
import Derived.Test.YtfbamdkalamliaaY
import Derived.Laws.Rows
namespace Go.Proofs.Ytfbamdkalamliaa
open Go.RowKit
/-- n cells, by their places. -/
def arr (n : Nat) (f : Nat → Value) : Array Value := Array.ofFn (n := n) fun i => f i.val
theorem arr_size (n : Nat) (f : Nat → Value) : (arr n f).size = n := by unfold arr; simp
theorem arr_get {n : Nat} {f : Nat → Value} {i : Nat} (h : i < n) : (arr n f)[i]? = some (f i) := by unfold arr; simp [h]
theorem arr_out {n : Nat} {f : Nat → Value} {i : Nat} (h : ¬ i < n) : (arr n f)[i]? = none := by unfold arr; simp [h]
theorem arr_set (n : Nat) (f : Nat → Value) (i : Nat) (v : Value) : (arr n f).setIfInBounds i v = arr n fun j => if j = i then v else f j := by
  apply Array.ext_getElem?
  intro j
  by_cases hj : j < n
  · rw [arr_get hj]
    by_cases e : i = j
    · subst e
      rw [Array.getElem?_setIfInBounds_self_of_lt (by rw [arr_size]; exact hj), if_pos rfl]
    · rw [Array.getElem?_setIfInBounds_ne e, arr_get hj, if_neg (Ne.symm e)]
  · rw [arr_out hj, Array.getElem?_eq_none (by rw [Array.size_setIfInBounds, arr_size]; omega)]
theorem arr_congr {n : Nat} {f g : Nat → Value} (h : ∀ i, i < n → f i = g i) : arr n f = arr n g := by
  apply Array.ext_getElem?
  intro j
  by_cases hj : j < n
  · rw [arr_get hj, arr_get hj, h j hj]
  · rw [arr_out hj, arr_out hj]
theorem arr_one {n : Nat} {f : Nat → Value} (h : ∀ i, i < n → (f i).oneCell' = true) : (arr n f).all (·.oneCell') = true := by
  rw [Array.all_eq_true]
  intro i hi
  rw [arr_size] at hi
  have := arr_get (f := f) hi
  rw [Array.getElem?_eq_getElem (by rw [arr_size]; exact hi)] at this
  rw [Option.some.inj this]; exact h i hi
theorem arr_inj {n : Nat} {f g : Nat → Value} (h : arr n f = arr n g) (i : Nat) (hi : i < n) : f i = g i := by
  have := arr_get (f := f) hi
  rw [h, arr_get hi] at this
  exact (Option.some.inj this).symm
theorem below_setRow {B : Nat} {a w : World} (h : Below B a w) {g : Nat} (hg : B ≤ g) (cs : Array Value) : Below B a (w.setRow g cs) :=
  ⟨h.os, h.tape, h.output, by unfold World.setRow; simpa using h.size, fun k hk => by
    have : (w.setRow g cs).heap[k]? = w.heap[k]? := by unfold World.setRow; simp [Array.getElem?_modify, show g ≠ k by omega]
    exact this.trans (h.block k hk)⟩
section
variable {P : Program} {w : World}
/-- A part of a block, loaded as an array (or a struct). -/
theorem run_loadVar_at {ty : TypeId} {g off : Nat} {cs : Array Value} {d : TypeDesc} (hc : ∀ j v, cs[j]? = some v → w.cell? ⟨g, off + j, none⟩ = some v)
    (hu : P.underlying ty = some d) (hd : (match d with | .struct _ | .array _ _ => true | _ => false) = true) (hi : (P.info? ty).map (·.size) = some cs.size) :
    (loadVar ty ⟨g, off, none⟩).run P w = .ok (.agg cs) w := by
  have hl : (loadCells ⟨g, off, none⟩ cs.toList.length).run P w = .ok cs.toList.toArray w :=
    run_loadCells_list (P := P) w ⟨g, off, none⟩ cs.toList (fun j v hv => by
      rw [addr_add]
      exact hc j v (by simpa using hv))
  cases hq : P.info? ty with
  | none => simp [hq] at hi
  | some i =>
    have hs : i.size = cs.size := by simpa [hq] using hi
    have hagg : (isAgg ty).run P w = .ok true w := by
      unfold isAgg
      rw [Sem.run_bind, run_underlying hu w]
      cases d <;> simp_all
    simp only [Array.length_toList, Array.toArray_toList] at hl
    simp [loadVar, Sem.run_bind, hagg, sizeOf, typeInfo, hq, hs, hl]
theorem wpList_load_at {ops : Array Oper} {rest : List Oper} {o : Oper} {a : Act} {Q : Exit → Act → World → Prop} (hgd : o.guard = none) (ty : TypeId) (x : Operand) (ho : o.op = .load ty x)
    (g off : Nat) (hx : a.eval x = .pointer (some ⟨g, off, none⟩)) (cs : Array Value) {d : TypeDesc} (hc : ∀ j v, cs[j]? = some v → w.cell? ⟨g, off + j, none⟩ = some v)
    (hu : P.underlying ty = some d) (hd : (match d with | .struct _ | .array _ _ => true | _ => false) = true) (hi : (P.info? ty).map (·.size) = some cs.size)
    (h : wpList P ops Q rest (a.put o.dst (.agg cs)) w) : wpList P ops Q (o :: rest) a w :=
  wpList_plain hgd fun K hK => by
    unfold Oper.wp execOp
    simp only [ho, hx, Instr.loadAt, Instr.sureAddr, Sem.run_bind, Sem.run_pure, Result.andThen_ok, run_loadVar_at hc hu hd hi]
    exact hK _ _ h
theorem wpList_load_box {ops : Array Oper} {rest : List Oper} {o : Oper} {a : Act} {Q : Exit → Act → World → Prop} (hgd : o.guard = none) (ty : TypeId) (x : Operand) (ho : o.op = .load ty x)
    (g : Nat) (hx : a.eval x = .pointer (some ⟨g, 0, none⟩)) {T : TypeId} (cs : Array Value) {d : TypeDesc} (hb : Box w g T cs)
    (hu : P.underlying ty = some d) (hd : (match d with | .struct _ | .array _ _ => true | _ => false) = true) (hi : (P.info? ty).map (·.size) = some cs.size)
    (h : wpList P ops Q rest (a.put o.dst (.agg cs)) w) : wpList P ops Q (o :: rest) a w :=
  wpList_load_row hgd ty x ho g hx T cs (0, 0) d hb hu hd hi h
/-- A new variable, its zero said by the caller. -/
theorem wpList_allocZ {ops : Array Oper} {rest : List Oper} {o : Oper} {a : Act} {Q : Exit → Act → World → Prop} (hgd : o.guard = none) (t : TypeId) (ho : o.op = .alloc t)
    (cs : Array Value) (hz : (P.info? t).bind (·.zero) = some (.agg cs))
    (h : wpList P ops Q rest (a.put o.dst (.pointer (some ⟨w.heap.size, 0, none⟩))) (w.alloc (.cells cs t))) : wpList P ops Q (o :: rest) a w :=
  wpList_plain hgd fun K hK => by
    have hrun : (execOp a.eval o).run P w = .ok (.value (.pointer (some ⟨w.heap.size, 0, none⟩))) (w.alloc (.cells cs t)) := by
      cases hi : P.info? t with
      | none => simp [hi] at hz
      | some i =>
        simp only [hi, Option.bind_some] at hz
        unfold execOp
        simp [ho, Instr.alloc, zeroValue, typeInfo, hi, hz, newVar, newRow, Sem.run_bind, Sem.run_pure, Value.cells]
    unfold Oper.wp
    rw [hrun, Oper.upon_value]
    exact hK _ _ h
/-- An element of an array's value. -/
theorem run_index_arr {t e : TypeId} {n : Nat} {cs : Array Value} {k : IntKind} {i : Nat} {v : Value} (hu : P.underlying t = some (.array n e)) (hi : i < n) (hv : cs[i]? = some v) (hs : (P.info? e).map (·.size) = some 1) (ha : ∀ w, (isAgg e).run P w = .ok false w) :
    (Instr.index t (.agg cs) (.int k (i : Int))).run P w = .ok v w := by
  cases hq : P.info? e with
  | none => simp [hq] at hs
  | some ie =>
    have hs : ie.size = 1 := by simpa [hq] using hs
    have hn : ((i : Int) < (n : Int)) := by omega
    have h1 : i < cs.size := (Array.getElem?_eq_some_iff.1 hv).1
    simp [Instr.index, asIntOf, run_underlying hu, sizeOf, typeInfo, hq, hs, hi, part, ha, hv, Sem.run_bind]
theorem wpList_index_arr {ops : Array Oper} {rest : List Oper} {o : Oper} {a : Act} {Q : Exit → Act → World → Prop} (hgd : o.guard = none) (t : TypeId) (x y : Operand) (ho : o.op = .index t x y)
    {e : TypeId} {n : Nat} {cs : Array Value} {k : IntKind} {i : Nat} {v : Value} (hx : a.eval x = .agg cs) (hy : a.eval y = .int k (i : Int)) (hu : P.underlying t = some (.array n e)) (hi : i < n) (hv : cs[i]? = some v) (hs : (P.info? e).map (·.size) = some 1) (ha : ∀ w, (isAgg e).run P w = .ok false w)
    (h : wpList P ops Q rest (a.put o.dst v) w) : wpList P ops Q (o :: rest) a w :=
  wpList_plain hgd fun K hK => by
    have hrun : (execOp a.eval o).run P w = .ok (.value v) w := by
      unfold execOp
      simp only [ho, hx, hy, run_index_arr hu hi hv hs ha, Sem.run_bind, Sem.run_pure, Result.andThen_ok]
    unfold Oper.wp
    rw [hrun, Oper.upon_value]
    exact hK _ _ h
end
end Go.Proofs.Ytfbamdkalamliaa
