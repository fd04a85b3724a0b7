/- Fold, and what tells whether two bytes are the same. -/
import Derived.Test.YtfbamdkalamliaaRA
import Derived.Test.YtfbamdkalamliaaProg
import Derived.WalkSpells
import Derived.WalkLawsBesides
import Derived.Deep.Cut
namespace Go.Proofs.Ytfbamdkalamliaa
open Go.RowKit LetM


set_option maxHeartbeats 1000000 in
theorem fold_any (c : UInt8) (w : World) : Calls Try.prog 60 #[byteV c] w (Ret w (VEq (byteV (foldC c)))) := by
  have hc := UInt8.toNat_lt c
  have H1 := hide (@foldC_no c)
  have H2 := hide (@foldC_yes c)
  unfold byteV
  generalize hy : ((foldC c).toNat : Int) = y at *
  generalize c.toNat = x at *
  clear hy
  go_enter Try.func60, Try.ntmps60
  by_cases h1 : (65 : Int) ≤ x
  · by_cases h2 : (x : Int) ≤ 90
    · have e := H2.out (by omega)
      go_wp2
      go_ret
      exact Ret.mk (Ext.rf _) rfl
    · have e := H1.out (by omega)
      go_wp2
      go_ret
      exact Ret.mk (Ext.rf _) rfl
  · have e := H1.out (by omega)
    go_wp2
    go_ret
    exact Ret.mk (Ext.rf _) rfl

set_option maxHeartbeats 1000000 in
theorem exact_any (x y : UInt8) (w : World) : Calls Try.prog 66 #[.agg #[], byteV x, byteV y] w (Ret w (VEq (.bool (decide (x = y))))) := by
  rw [← byte_dec]
  unfold byteV
  generalize (x.toNat : Int) = a
  generalize (y.toNat : Int) = b
  go_enter Try.func66, Try.ntmps66
  go_wp2
  go_ret
  exact Ret.mk (ext_alloc _ _) (congrArg Value.bool (by rw [Bool.eq_iff_iff]; simp))
/-- What tells whether two bytes are the same, as a value. -/
def byF (fold : Bool) : FuncId := if fold then 65 else 66
def byV (fold : Bool) : Value := .func (.func (byF fold)) #[.agg #[]] #[]
theorem run_byteOf0 {P : Program} {w : World} {g : Nat} {e : TypeId} {cs : Array Value} (hb : Box w g e cs) (h0 : P.cellsOf e = 0) : (byteOf ⟨g, 0, none⟩).run P w = .ok 0 w := by
  have hs : w.shape? g = some (e, cs.size) := by unfold World.shape?; rw [show w.heap[g]? = _ from hb]
  simp [byteOf, noView, viewAt, hs, h0, run_program, Result.andThen]
/-- The part of size nothing, at a variable's head: the variable's own place. -/
theorem run_partAt0 {P : Program} {w : World} {g : Nat} {e : TypeId} {cs : Array Value} (hb : Box w g e cs) (h0 : P.cellsOf e = 0) : (partAt ⟨g, 0, none⟩ 0 0).run P w = .ok ⟨g, 0, none⟩ w := by
  simp [partAt, run_byteOf0 hb h0]
set_option maxHeartbeats 1000000 in
theorem by_any (fold : Bool) (w : World) : Calls Try.prog 62 #[.bool fold] w (Ret w (VEq (byV fold))) := by
  cases fold
  · have hp := run_partAt0 (P := Try.prog) (Box.new w 106 #[]) (by kernel_rfl)
    go_enter Try.func62, Try.ntmps62
    go_wp2
    go_ret
    exact Ret.mk (ext_alloc _ _) rfl
  · go_enter Try.func62, Try.ntmps62
    go_wp2
    go_ret
    exact Ret.mk (ext_alloc _ _) rfl
section
variable {w0 : World}
theorem c_fold (c : UInt8) : ∀ v w, Ext w0 w → VEq (byteV c) v w → Calls Try.prog 60 #[v] w (Ret w (VEq (byteV (foldC c)))) := fun v w _ hv => by rw [show v = _ from hv]; exact fold_any c w
theorem c_exact (x y : UInt8) : ∀ u v z w, Ext w0 w → VEq (.agg #[]) u w → VEq (byteV x) v w → VEq (byteV y) z w → Calls Try.prog 66 #[u, v, z] w (Ret w (VEq (.bool (decide (x = y))))) := fun u v z w _ hu hv hz => by
  rw [show u = _ from hu, show v = _ from hv, show z = _ from hz]; exact exact_any x y w
end
set_option maxRecDepth 10000 in
theorem folded_any (x y : UInt8) (w : World) : Calls Try.prog 65 #[.agg #[], byteV x, byteV y] w (Ret w (VEq (.bool (decide (foldC x = foldC y))))) := by
  go_enter Try.func65, Try.ntmps65
  go_upto_region 1 with (fail)
  have hb := (Box.new w 106 #[]).ext (ext_drew _)

  refine law_end (r := .bool (decide (foldC x = foldC y))) (by assumption) 7 [] 6 13 _ (by kernel_rfl) (by kernel_rfl) (fun _ _ _ _ _ h => h) rfl rfl rfl rfl rfl (by kernel_rfl) rfl 6 rfl rfl ?_
  refine VWalk.det1 (r := .pointer (some ⟨w.heap.size, 0, none⟩)) (Operand.tmp 3) (want_none rfl) (opd_frame 3 rfl (by kernel_rfl)) (fun ρ W hE h1 => by
    have hp := run_partAt0 (P := Try.prog) (hb.ext hE) (by kernel_rfl)
    simp [execOp, h1, go_sem, hp]) ?_
  refine VWalk.det1 (r := .agg #[]) (Operand.tmp 7) (want_none rfl) (opd_dep 0 7 0 rfl rfl rfl rfl) (fun ρ W hE h1 => by simp [execOp, h1, go_sem]) ?_
  refine VWalk.move _ rfl (want_none rfl) (opd_frame 1 rfl (by kernel_rfl)) ?_
  refine VWalk.call1 60 _ _ rfl (enters_of Try.func60 (by kernel_rfl) rfl) (want_none rfl) (opd_dep 2 9 0 rfl rfl rfl rfl) (c_fold x) ?_
  refine VWalk.move _ rfl (want_none rfl) (opd_frame 2 rfl (by kernel_rfl)) ?_
  refine VWalk.call1 60 _ _ rfl (enters_of Try.func60 (by kernel_rfl) rfl) (want_none rfl) (opd_dep 4 11 0 rfl rfl rfl rfl) (c_fold y) ?_
  refine VWalk.call3 66 _ _ _ _ rfl (enters_of Try.func66 (by kernel_rfl) rfl) (want_none rfl) (opd_dep 1 8 4 rfl rfl rfl rfl) (opd_dep 3 10 2 rfl rfl rfl rfl) (opd_dep 5 12 0 rfl rfl rfl rfl) (c_exact _ _) ?_
  refine ⟨rfl, rfl, rfl, fun W1 hE1 => ?_⟩
  exact Ret.mk ((ext_alloc _ _).tr ((ext_drew _).tr hE1)) rfl
theorem cmp_any (fold : Bool) (x y : UInt8) (w : World) : Calls Try.prog (byF fold) #[.agg #[], byteV x, byteV y] w (Ret w (VEq (.bool (eqC fold x y)))) := by
  cases fold
  · exact exact_any x y w
  · exact folded_any x y w
theorem byF_enters (fold : Bool) (args : Array Value) (w : World) : (callFunc (byF fold) args).run Try.prog w = .ok (.enter (byF fold) args) w := by
  cases fold
  · exact enters_of Try.func66 (by kernel_rfl) rfl args w
  · exact enters_of Try.func65 (by kernel_rfl) rfl args w
end Go.Proofs.Ytfbamdkalamliaa
