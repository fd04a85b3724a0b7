/- A table of edges that the call has made: looked up, laid into. -/
import Derived.Test.YtfbamdkalamliaaPatMath
import Derived.Test.YtfbamdkalamliaaY
import Derived.Test.YtfbamdkalamliaaProg
import Derived.Maps.Own
import Derived.Laws.StructEq
import Derived.Laws.Cover2
import Derived.RangeFuncBox
namespace Go.Proofs.Ytfbamdkalamliaa
open Go.RowKit Go.Shelf SetM Go.ChangeMaps
def edgeV (k : Nat × UInt8) : Value := .agg #[.int .i64 (k.1 : Int), .int .u8 (k.2.toNat : Int)]
theorem eq_edge (a b : Nat × UInt8) (w : World) : (Op.equal 96 (edgeV a) (edgeV b)).run Try.prog w = .ok (a == b) w := by
  have hS : Try.prog.underlying 96 = some (.struct (Try.prog.fieldsOf 96)) := by kernel_rfl
  have hp : Try.prog.stoodInHeld 96 = false := by kernel_rfl
  have e3 : (a == b) = (a.1 == b.1 && a.2 == b.2) := rfl
  rw [e3]
  unfold edgeV
  show (Op.equalIn 10000 _ _ _).run _ _ = _
  rw [show (10000 : Nat) = 9999 + 1 from rfl, run_equalIn_agg w 9999 96 _ _ hS hp]
  simp only [Program.fieldsOf, Try.underlying96]
  go_simp
  by_cases h1 : a.1 = b.1
  · rw [if_pos (by omega), show (a.1 == b.1) = true from beq_iff_eq.2 h1, Bool.true_and]
    by_cases h2 : a.2 = b.2
    · rw [if_pos (by rw [h2]), show (a.2 == b.2) = true from beq_iff_eq.2 h2]
    · rw [if_neg (fun h => h2 (UInt8.toNat_inj.1 (by omega))), show (a.2 == b.2) = false from beq_eq_false_iff_ne.2 h2]
  · rw [if_neg (by omega), show (a.1 == b.1) = false from beq_eq_false_iff_ne.2 h1, Bool.false_and]
theorem run_checkInt (e : Bool) (n : Nat) (q : TypeId) (k : IntKind) (z : Int) (w : World) (hq : Try.prog.underlying q = some (.int k)) : (Instr.checkKey e (n + 1) q (.int k z)).run Try.prog w = .ok () w := by
  unfold Instr.checkKey
  simp [run_underlying hq]
theorem run_checkEdge (e : Bool) (n : Nat) (k : Nat × UInt8) (w : World) : (Instr.checkKey e (n + 1 + 1) 96 (edgeV k)).run Try.prog w = .ok () w := by
  have h1 := fun z => run_checkInt e n 3 .i64 z w Try.underlying3
  have h2 := fun z => run_checkInt e n 5 .u8 z w Try.underlying5
  have hu := Try.underlying96
  unfold edgeV
  rw [Instr.checkKey]
  simp only [Sem.run_bind, run_underlying hu, Result.andThen_ok]
  go_simp
theorem run_checkKey (e : Bool) (k : Nat × UInt8) (w : World) : (Instr.checkKey e 10000 96 (edgeV k)).run Try.prog w = .ok () w := run_checkEdge e 9998 k w
/-- The block is a table of edges. -/
def MapN (w : World) (b : Nat) (l : Tab) : Prop := ∃ es clock, w.heap[b]? = some (.map es clock) ∧ es.toList.map (fun e => (e.key, e.val)) = l.map fun x => (edgeV x.1, Value.int .i64 (x.2 : Int))
def findI (k : Nat × UInt8) : Tab → Nat → Option (Nat × Value)
  | [], _ => none
  | x :: l, i => if k = x.1 then some (i, .int .i64 (x.2 : Int)) else findI k l (i + 1)
theorem findI_N (k : Nat × UInt8) : ∀ (l : Tab) (i : Nat), (findI k l i).map (·.2) = (findN l k).map fun (j : Nat) => Value.int .i64 (j : Int)
  | [], i => rfl
  | x :: l, i => by
    have ih := findI_N k l (i + 1)
    unfold findN at *
    unfold findI
    rw [List.find?_cons]
    by_cases h : k = x.1
    · subst h; simp
    · have h2 : (x.1 == k) = false := by rw [beq_eq_false_iff_ne]; exact fun e => h e.symm
      rw [if_neg h, h2, ih]
theorem run_asking (k : Nat × UInt8) (w : World) : ∀ (es : List MapEntry) (l : Tab) (i : Nat), es.map (fun e => (e.key, e.val)) = l.map (fun x => (edgeV x.1, Value.int .i64 (x.2 : Int))) → (Instr.findAsking 96 (edgeV k) es i).run Try.prog w = .ok (findI k l i) w
  | [], [], i, _ => by simp [Instr.findAsking, findI]
  | [], x :: l, i, h => by simp at h
  | e :: es, [], i, h => by simp at h
  | e :: es, x :: l, i, h => by
    simp only [List.map_cons, List.cons.injEq, Prod.mk.injEq] at h
    obtain ⟨⟨h1, h2⟩, h3⟩ := h
    have ih := run_asking k w es l (i + 1) h3
    unfold Instr.findAsking findI
    rw [h1, h2]
    simp only [Sem.run_bind, eq_edge, Result.andThen_ok]
    by_cases hk : k = x.1
    · subst hk; simp
    · have : (k == x.1) = false := by rw [beq_eq_false_iff_ne]; exact hk
      rw [this, if_neg hk]
      simpa using ih
theorem run_findKey (k : Nat × UInt8) (w : World) (es : List MapEntry) (l : Tab) (h : es.map (fun e => (e.key, e.val)) = l.map (fun x => (edgeV x.1, Value.int .i64 (x.2 : Int)))) : (Instr.findKey 96 (edgeV k) es).run Try.prog w = .ok (findI k l 0) w := by
  have hu : Try.prog.underlying 96 = some (.struct (Try.prog.fieldsOf 96)) := by kernel_rfl
  have ha := run_asking k w es l 0 h
  unfold Instr.findKey
  simp only [Sem.run_bind, run_underlying hu, Result.andThen_ok]
  cases es with
  | nil =>
    cases l with
    | nil => simp [Instr.findNow, findI]
    | cons x l => simp at h
  | cons e es => simpa [Instr.findNow, Instr.sameNow] using ha
theorem Try.infoN : (Try.prog.info? 3).map (fun i => (i.zero, i.size, i.bytes)) = some (some (.int .i64 0), 1, 8) := by kernel_rfl
theorem MapN.lookup {w : World} {b : Nat} {l : Tab} (h : MapN w b l) (k : Nat × UInt8) : (Instr.lookup 91 (.map (some b)) (edgeV k) true).run Try.prog w = .ok (match findN l k with | some j => .tuple #[.int .i64 (j : Int), .bool true] | none => .tuple #[.int .i64 0, .bool false]) w := by
  obtain ⟨es, clock, hb, he⟩ := h
  have hu : Try.prog.underlying 91 = some (.map 96 3) := Try.underlying91
  have hf := run_findKey k w es.toList l he
  have hn := findI_N k l 0
  have hg : (getObj b).run Try.prog w = .ok (.map es clock) w := by simp [getObj, Sem.run, hb]
  have hz : (zeroValue 3).run Try.prog w = .ok (.int .i64 0) w := by
    obtain ⟨i0, hi, hz0, -⟩ := info_parts Try.infoN
    simp [zeroValue, typeInfo, hi, hz0]
  unfold Instr.lookup
  simp only [Sem.run_bind, run_underlying hu, hg, Result.andThen_ok, run_checkKey, Sem.run_pure]
  rw [hf]
  simp only [Result.andThen_ok]
  cases hi : findI k l 0 with
  | none =>
    rw [hi] at hn
    cases hj : findN l k with
    | none => simp [hz]
    | some j => rw [hj] at hn; simp at hn
  | some p =>
    rw [hi] at hn
    cases hj : findN l k with
    | none => rw [hj] at hn; simp at hn
    | some j =>
      rw [hj] at hn
      have : p.2 = .int .i64 (j : Int) := by simpa using hn
      obtain ⟨p1, p2⟩ := p
      subst this
      simp
theorem MapN.made (w : World) : MapN (w.alloc (.map #[] 0)) w.heap.size [] := ⟨#[], 0, (MapKept.heap_alloc w _).1, rfl⟩
theorem MapN.lt {w : World} {b : Nat} {l : Tab} (h : MapN w b l) : b < w.heap.size := by obtain ⟨es, clock, hb, _⟩ := h; exact (Array.getElem?_eq_some_iff.1 hb).1
theorem MapN.same {w w' : World} {b : Nat} {l : Tab} (h : MapN w b l) (he : w'.heap[b]? = w.heap[b]?) : MapN w' b l := by obtain ⟨es, clock, hb, h2⟩ := h; exact ⟨es, clock, he.trans hb, h2⟩
theorem MapN.push {w : World} {b : Nat} {l : Tab} (h : MapN w b l) (k : Nat × UInt8) (j : Nat) (hf : findN l k = none) : ∃ w', (Instr.mapUpdate 91 (.map (some b)) (edgeV k) (.int .i64 (j : Int))).run Try.prog w = .ok () w' ∧ MapN w' b (l ++ [(k, j)]) ∧ w.grownBy w' (some b) ∧ w'.heap.size = w.heap.size ∧ ∃ o, w'.heap[b]? = some o ∧ o.isCells = false := by
  obtain ⟨es, clock, hb, he⟩ := h
  have hu : Try.prog.underlying 91 = some (.map 96 3) := Try.underlying91
  have hfk := run_findKey k w es.toList l he
  have hn := findI_N k l 0
  rw [hf] at hn
  have hi : findI k l 0 = none := by cases h : findI k l 0 with
    | none => rfl
    | some p => rw [h] at hn; simp at hn
  rw [hi] at hfk
  have hg : (getObj b).run Try.prog w = .ok (.map es clock) w := by simp [getObj, Sem.run, hb]
  have hs : (setObj b (.map (es.push { key := edgeV k, val := .int .i64 (j : Int), born := clock }) (clock + 1))).run Try.prog w = .ok () (setBlock w b (.map (es.push { key := edgeV k, val := .int .i64 (j : Int), born := clock }) (clock + 1))) := by simp [setObj, Sem.run, hb, setBlock]
  refine ⟨setBlock w b (.map (es.push { key := edgeV k, val := .int .i64 (j : Int), born := clock }) (clock + 1)), ?_, ⟨_, _, heap_setBlock_same hb _, ?_⟩, ⟨rfl, rfl, rfl, by simp [setBlock], fun i _ hi => heap_setBlock_other hb _ (fun e => hi (by rw [e]))⟩, by simp [setBlock], _, heap_setBlock_same hb _, rfl⟩
  · unfold Instr.mapUpdate
    simp only [Sem.run_bind, run_underlying hu, hg, Result.andThen_ok, run_checkKey, hfk, hs]
  · rw [Array.toList_push, List.map_append, he, List.map_append]
    rfl
end Go.Proofs.Ytfbamdkalamliaa
