/- The errors of a list, as patset asks them; Check, walked. -/
import Derived.Test.YtfbamdkalamliaaPatD
import Derived.Test.YtfbamdkalamliaaRS
namespace Go.Proofs.Ytfbamdkalamliaa
open Go.RowKit Go.Shelf LetM SetM
set_option maxRecDepth 100000 in
theorem ask1_any (c : Cts) (q g : Nat) (fv sv : Value) (w : World) (hq : Box w q 89 #[.pointer (some ⟨g, 0, none⟩)]) (hb : Box w g 81 (ctsA c fv sv)) : Calls Try.prog 52 #[.pointer (some ⟨q, 0, none⟩)] w (Ret w (VEq (.bool (decide ((c.a : Int) = 0))))) := by
  obtain ⟨a, b, l, s⟩ := c
  unfold ctsA at hb
  dsimp only at *
  have h0 := hb.at_ 0 rfl
  have h1 := hq.at_ 0 rfl
  clear hb hq
  go_enter Try.func52, Try.ntmps52
  go_wp2
  go_ret
  exact Ret.mk (Ext.rf _) (congrArg Value.bool (by first | rfl | (rw [Bool.eq_iff_iff]; simp)))
set_option maxRecDepth 100000 in
theorem ask2_any (c : Cts) (q g : Nat) (fv sv : Value) (w : World) (hq : Box w q 89 #[.pointer (some ⟨g, 0, none⟩)]) (hb : Box w g 81 (ctsA c fv sv)) : Calls Try.prog 53 #[.pointer (some ⟨q, 0, none⟩)] w (Ret w (VEq (.bool (decide (64 < (c.a : Int)))))) := by
  obtain ⟨a, b, l, s⟩ := c
  unfold ctsA at hb
  dsimp only at *
  have h0 := hb.at_ 0 rfl
  have h1 := hq.at_ 0 rfl
  clear hb hq
  go_enter Try.func53, Try.ntmps53
  go_wp2
  go_ret
  exact Ret.mk (Ext.rf _) (congrArg Value.bool (by first | rfl | (rw [Bool.eq_iff_iff]; simp)))
set_option maxRecDepth 100000 in
theorem ask3_any (c : Cts) (q g : Nat) (fv sv : Value) (w : World) (hq : Box w q 89 #[.pointer (some ⟨g, 0, none⟩)]) (hb : Box w g 81 (ctsA c fv sv)) : Calls Try.prog 54 #[.pointer (some ⟨q, 0, none⟩)] w (Ret w (VEq (.bool (decide ((c.s : Int) = 0))))) := by
  obtain ⟨a, b, l, s⟩ := c
  unfold ctsA at hb
  dsimp only at *
  have h0 := hb.at_ 3 rfl
  have h1 := hq.at_ 0 rfl
  clear hb hq
  go_enter Try.func54, Try.ntmps54
  go_wp2
  go_ret
  exact Ret.mk (Ext.rf _) (congrArg Value.bool (by first | rfl | (rw [Bool.eq_iff_iff]; simp)))
set_option maxRecDepth 100000 in
theorem ask4_any (c : Cts) (q g : Nat) (fv sv : Value) (w : World) (hq : Box w q 89 #[.pointer (some ⟨g, 0, none⟩)]) (hb : Box w g 81 (ctsA c fv sv)) : Calls Try.prog 55 #[.pointer (some ⟨q, 0, none⟩)] w (Ret w (VEq (.bool (decide (32 < (c.l : Int)))))) := by
  obtain ⟨a, b, l, s⟩ := c
  unfold ctsA at hb
  dsimp only at *
  have h0 := hb.at_ 2 rfl
  have h1 := hq.at_ 0 rfl
  clear hb hq
  go_enter Try.func55, Try.ntmps55
  go_wp2
  go_ret
  exact Ret.mk (Ext.rf _) (congrArg Value.bool (by first | rfl | (rw [Bool.eq_iff_iff]; simp)))
set_option maxRecDepth 100000 in
theorem ask5_any (c : Cts) (q g : Nat) (fv sv : Value) (w : World) (hq : Box w q 89 #[.pointer (some ⟨g, 0, none⟩)]) (hb : Box w g 81 (ctsA c fv sv)) : Calls Try.prog 56 #[.pointer (some ⟨q, 0, none⟩)] w (Ret w (VEq (.bool (decide (600 < (c.b : Int)))))) := by
  obtain ⟨a, b, l, s⟩ := c
  unfold ctsA at hb
  dsimp only at *
  have h0 := hb.at_ 1 rfl
  have h1 := hq.at_ 0 rfl
  clear hb hq
  go_enter Try.func56, Try.ntmps56
  go_wp2
  go_ret
  exact Ret.mk (Ext.rf _) (congrArg Value.bool (by first | rfl | (rw [Bool.eq_iff_iff]; simp)))
set_option maxRecDepth 100000 in
set_option maxHeartbeats 1000000 in
theorem ask6_any (c : Cts) (q g : Nat) (fold : Bool) (ws : List (List UInt8)) (sv : Value) (w : World) (hP : VParts ws sv w) (hlen : ws.flatten.length ≤ 1000000) (hq : Box w q 89 #[.pointer (some ⟨g, 0, none⟩)]) (hb : Box w g 81 (ctsA c (.bool fold) sv)) : Calls Try.prog 57 #[.pointer (some ⟨q, 0, none⟩)] w (Ret w (VEq (.bool (decide (400 < (nodesR fold ws : Int)))))) := by
  obtain ⟨a, b, l, s⟩ := c
  unfold ctsA at hb
  dsimp only at *
  have hnd := fun u v W (hu : u = Value.bool fold) (hv : VParts ws v W) => show Calls Try.prog 58 #[u, v] W _ from hu ▸ pnodes_any fold ws v W hv hlen
  generalize nodesR fold ws = nd at *
  go_enter Try.func57, Try.ntmps57
  by_cases hx : (400 : Int) < (nd : Int)
  · rw [decide_eq_true hx]
    go_upto_region 1 with (fail)
    refine vregion 10 [] (by kernel_rfl) (by kernel_rfl) (fun _ _ _ _ _ h => h) ?_
    refine VWalk.load1 89 _ rfl (want_none rfl) (opd_frame 0 rfl (by kernel_rfl)) (fun _ => by kernel_rfl) (hq.at_ 0 rfl) (ext_drew _) ?_
    refine VWalk.det1 (Operand.tmp 2) (want_none rfl) (opd_dep 0 2 0 rfl rfl rfl rfl) (fun ρ w hE h1 => by simp [execOp, h1, go_sem]; rfl) ?_
    refine VWalk.det1 (Operand.tmp 3) (want_none rfl) (opd_dep 1 3 0 rfl rfl rfl rfl) (fun ρ w hE h1 => by simp [execOp, h1, go_sem]; rfl) ?_
    refine VWalk.load1 4 _ rfl (want_none rfl) (opd_dep 2 4 0 rfl rfl rfl rfl) (fun _ => by kernel_rfl) (hb.at_ 4 rfl) (ext_drew _) ?_
    refine VWalk.load1 89 _ rfl (want_none rfl) (opd_frame 0 rfl (by kernel_rfl)) (fun _ => by kernel_rfl) (hq.at_ 0 rfl) (ext_drew _) ?_
    refine VWalk.det1 (Operand.tmp 6) (want_none rfl) (opd_dep 4 6 0 rfl rfl rfl rfl) (fun ρ w hE h1 => by simp [execOp, h1, go_sem]; rfl) ?_
    refine VWalk.det1 (Operand.tmp 7) (want_none rfl) (opd_dep 5 7 0 rfl rfl rfl rfl) (fun ρ w hE h1 => by simp [execOp, h1, go_sem]; rfl) ?_
    refine VWalk.load1F (F := VParts ws) 22 _ rfl (want_none rfl) (opd_dep 6 8 0 rfl rfl rfl rfl) (fun _ => by kernel_rfl) (hb.at_ 5 rfl) hP (ext_drew _) ?_
    refine VWalk.call2 58 _ _ _ rfl (enters_of Try.func58 (by kernel_rfl) rfl) (want_none rfl) (opd_dep 3 5 4 rfl rfl rfl rfl) (opd_dep 7 9 0 rfl rfl rfl rfl) (fun u v W hX hu hv => hnd u v W hu hv) ?_
    refine VWalk.gtrT _ _ _ _ rfl (want_none rfl) (opd_dep 8 10 0 rfl rfl rfl rfl) (opd_const _) (by omega) ?_
    refine ⟨rfl, fun W1 hE1 => ?_⟩
    refine VFin.eq ?_  -- 0
    refine VFin.eq ?_  -- 1
    refine VFin.eq ?_  -- 2
    refine VFin.eq ?_  -- 3
    refine VFin.eq ?_  -- 4
    refine VFin.eq ?_  -- 5
    refine VFin.eq ?_  -- 6
    refine VFin.any fun v1_7 hv1_7 => ?_
    refine VFin.eq ?_  -- 8
    refine VFin.eq ?_  -- 9
    refine VFin.nil ?_
    simp only [Act.put, List.setIfInBounds_toArray, List.set_cons_zero, List.set_cons_succ]
    clear hv1_7
    have hq := hq.drew.ext hE1
    have hE := ((ext_drew _).tr hE1)
    go_wp2
    go_ret
    exact Ret.mk hE rfl
  · rw [decide_eq_false hx]
    go_upto_region 1 with (fail)
    refine vregion 10 [] (by kernel_rfl) (by kernel_rfl) (fun _ _ _ _ _ h => h) ?_
    refine VWalk.load1 89 _ rfl (want_none rfl) (opd_frame 0 rfl (by kernel_rfl)) (fun _ => by kernel_rfl) (hq.at_ 0 rfl) (ext_drew _) ?_
    refine VWalk.det1 (Operand.tmp 2) (want_none rfl) (opd_dep 0 2 0 rfl rfl rfl rfl) (fun ρ w hE h1 => by simp [execOp, h1, go_sem]; rfl) ?_
    refine VWalk.det1 (Operand.tmp 3) (want_none rfl) (opd_dep 1 3 0 rfl rfl rfl rfl) (fun ρ w hE h1 => by simp [execOp, h1, go_sem]; rfl) ?_
    refine VWalk.load1 4 _ rfl (want_none rfl) (opd_dep 2 4 0 rfl rfl rfl rfl) (fun _ => by kernel_rfl) (hb.at_ 4 rfl) (ext_drew _) ?_
    refine VWalk.load1 89 _ rfl (want_none rfl) (opd_frame 0 rfl (by kernel_rfl)) (fun _ => by kernel_rfl) (hq.at_ 0 rfl) (ext_drew _) ?_
    refine VWalk.det1 (Operand.tmp 6) (want_none rfl) (opd_dep 4 6 0 rfl rfl rfl rfl) (fun ρ w hE h1 => by simp [execOp, h1, go_sem]; rfl) ?_
    refine VWalk.det1 (Operand.tmp 7) (want_none rfl) (opd_dep 5 7 0 rfl rfl rfl rfl) (fun ρ w hE h1 => by simp [execOp, h1, go_sem]; rfl) ?_
    refine VWalk.load1F (F := VParts ws) 22 _ rfl (want_none rfl) (opd_dep 6 8 0 rfl rfl rfl rfl) (fun _ => by kernel_rfl) (hb.at_ 5 rfl) hP (ext_drew _) ?_
    refine VWalk.call2 58 _ _ _ rfl (enters_of Try.func58 (by kernel_rfl) rfl) (want_none rfl) (opd_dep 3 5 4 rfl rfl rfl rfl) (opd_dep 7 9 0 rfl rfl rfl rfl) (fun u v W hX hu hv => hnd u v W hu hv) ?_
    refine VWalk.gtrF _ _ _ _ rfl (want_none rfl) (opd_dep 8 10 0 rfl rfl rfl rfl) (opd_const _) (by omega) ?_
    refine ⟨rfl, fun W1 hE1 => ?_⟩
    refine VFin.eq ?_  -- 0
    refine VFin.eq ?_  -- 1
    refine VFin.eq ?_  -- 2
    refine VFin.eq ?_  -- 3
    refine VFin.eq ?_  -- 4
    refine VFin.eq ?_  -- 5
    refine VFin.eq ?_  -- 6
    refine VFin.any fun v1_7 hv1_7 => ?_
    refine VFin.eq ?_  -- 8
    refine VFin.eq ?_  -- 9
    refine VFin.nil ?_
    simp only [Act.put, List.setIfInBounds_toArray, List.set_cons_zero, List.set_cons_succ]
    clear hv1_7
    have hq := hq.drew.ext hE1
    have hE := ((ext_drew _).tr hE1)
    go_wp2
    go_ret
    exact Ret.mk hE rfl
def fnA (k : FuncId) (q : Nat) : Value := .func (.func k) #[] #[.pointer (some ⟨q, 0, none⟩)]
def asksA (q : Nat) : Array Value := #[.int .i64 50, fnA 52 q, .int .i64 51, fnA 53 q, .int .i64 52, fnA 54 q, .int .i64 53, fnA 55 q, .int .i64 54, fnA 56 q, .int .i64 55, fnA 57 q]
set_option maxRecDepth 100000 in
theorem asks_any (g : Nat) (w : World) : Calls Try.prog 49 #[.pointer (some ⟨g, 0, none⟩)] w fun e w' => e = .returned (.slice (some ⟨w.heap.size + 1, 0, none⟩) 6 6) ∧ w' = (w.alloc (.cells #[.pointer (some ⟨g, 0, none⟩)] 89)).alloc (.cells (asksA w.heap.size) 86) := by
  unfold asksA fnA
  go_enter Try.func49, Try.ntmps49
  go_wp2
  go_ret
  exact ⟨rfl, rfl⟩
end Go.Proofs.Ytfbamdkalamliaa
