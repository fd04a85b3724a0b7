/- wakes: what the document says of texts at its own inputs. -/
import Derived.Test.YtnkagcaipndljaaLetI
import Derived.Deep.Cut
namespace Go.Proofs.Ytnkagcaipndljaa
open Go.RowKit LetM
set_option maxRecDepth 100000 in
set_option maxHeartbeats 4000000 in
theorem wakes_any (w : World) : Calls Try.prog 9 #[] w (Ret w (VEq (.bool true))) := by
  go_enter Try.func9, Try.ntmps9
  go_upto_region 1 with (fail)
  refine vregion0 4 (by kernel_rfl) ?_
  refine VWalk.litB [97, 66] 22 5 2 _ rfl rfl (by decide) (by decide) rfl Try.underlying22 (by kernel_rfl) (by kernel_rfl) (want_none rfl) ?_
  refine VWalk.mark 22 5 _ rfl Try.underlying22 Try.underlying5 (want_none rfl) (opd_dep 0 4 0 rfl rfl rfl rfl) ?_
  refine VWalk.litB [65, 98] 22 5 2 _ rfl rfl (by decide) (by decide) rfl Try.underlying22 (by kernel_rfl) (by kernel_rfl) (want_none rfl) ?_
  refine VWalk.mark 22 5 _ rfl Try.underlying22 Try.underlying5 (want_none rfl) (opd_dep 2 6 0 rfl rfl rfl rfl) ?_
  refine ⟨rfl, fun W1 hE1 => ?_⟩
  refine VFin.any fun v1_0 hv1_0 => ?_
  refine VFin.any fun v1_1 hv1_1 => ?_
  refine VFin.any fun v1_2 hv1_2 => ?_
  refine VFin.any fun v1_3 hv1_3 => ?_
  refine VFin.nil ?_
  simp only [Act.put, List.setIfInBounds_toArray, List.set_cons_zero, List.set_cons_succ]
  clear hv1_0 hv1_2
  have hE := hE1
  go_upto_region 2 with (fail)
  refine vregion0 2 (by kernel_rfl) ?_
  refine VWalk.litB [97, 98, 99, 100] 22 5 4 _ rfl rfl (by decide) (by decide) rfl Try.underlying22 (by kernel_rfl) (by kernel_rfl) (want_none rfl) ?_
  refine VWalk.mark 22 5 _ rfl Try.underlying22 Try.underlying5 (want_none rfl) (opd_dep 0 8 0 rfl rfl rfl rfl) ?_
  refine ⟨rfl, fun W2 hE2 => ?_⟩
  refine VFin.any fun v2_0 hv2_0 => ?_
  refine VFin.any fun v2_1 hv2_1 => ?_
  refine VFin.nil ?_
  simp only [Act.put, List.setIfInBounds_toArray, List.set_cons_zero, List.set_cons_succ]
  clear hv2_0
  have hv1_1 := VP.st _ _ _ _ hv1_1 hE2
  have hv1_3 := VP.st _ _ _ _ hv1_3 hE2
  have hE := hE.tr hE2
  go_upto_region 3 with (fail)
  refine law_end0 (r := .bool true) (by assumption) 87 0 96 _ (by kernel_rfl) rfl rfl rfl rfl rfl (by kernel_rfl) rfl 86 rfl rfl ?_
  refine VWalk.move _ rfl (want_none rfl) (opd_fr 1 rfl hv1_1 (Ext.rf _) (by kernel_rfl)) ?_
  refine VWalk.move _ rfl (want_none rfl) (opd_fr 2 rfl hv1_3 (Ext.rf _) (by kernel_rfl)) ?_
  refine VWalk.call3 14 _ _ _ _ rfl (enters_of Try.func14 (by kernel_rfl) rfl) (want_none rfl) (opd_const _) (opd_dep 0 10 1 rfl rfl rfl rfl) (opd_dep 1 11 0 rfl rfl rfl rfl) (c_same _ _ _) ?_
  refine VWalk.headT (by decide) ?_
  refine VWalk.move _ rfl (want_none rfl) (opd_dep 2 12 0 rfl rfl rfl rfl) ?_
  refine VWalk.move _ rfl (want_tt 3 13 0 rfl (by kernel_rfl) rfl rfl rfl rfl) (opd_fr 1 rfl hv1_1 (Ext.rf _) (by kernel_rfl)) ?_
  refine VWalk.move _ rfl (want_tt 3 13 1 rfl (by kernel_rfl) rfl rfl rfl rfl) (opd_fr 2 rfl hv1_3 (Ext.rf _) (by kernel_rfl)) ?_
  refine VWalk.call3 14 _ _ _ _ rfl (enters_of Try.func14 (by kernel_rfl) rfl) (want_tt 3 13 2 rfl (by kernel_rfl) rfl rfl rfl rfl) (opd_const _) (opd_dep 4 14 1 rfl rfl rfl rfl) (opd_dep 5 15 0 rfl rfl rfl rfl) (c_same _ _ _) ?_
  refine VWalk.headF (by decide) ?_
  refine VWalk.notB _ _ rfl (want_tt 3 13 3 rfl (by kernel_rfl) rfl rfl rfl rfl) (opd_dep 6 16 0 rfl rfl rfl rfl) rfl ?_
  refine VWalk.pickT _ _ _ rfl (want_none rfl) (opd_dep 3 13 4 rfl rfl rfl rfl) (opd_dep 7 17 0 rfl rfl rfl rfl) ?_
  refine VWalk.move _ rfl (want_none rfl) (opd_dep 8 18 0 rfl rfl rfl rfl) ?_
  refine VWalk.move _ rfl (want_tt 9 19 0 rfl (by kernel_rfl) rfl rfl rfl rfl) (opd_fr 3 rfl hv2_1 (Ext.rf _) (by kernel_rfl)) ?_
  refine VWalk.litB [98, 99] 22 5 2 _ rfl rfl (by decide) (by decide) rfl Try.underlying22 (by kernel_rfl) (by kernel_rfl) (want_tt 9 19 1 rfl (by kernel_rfl) rfl rfl rfl rfl) ?_
  refine VWalk.mark 22 5 _ rfl Try.underlying22 Try.underlying5 (want_tt 9 19 2 rfl (by kernel_rfl) rfl rfl rfl rfl) (opd_dep 11 21 0 rfl rfl rfl rfl) ?_
  refine VWalk.call4 16 _ _ _ _ _ rfl (enters_of Try.func16 (by kernel_rfl) rfl) (want_tt 9 19 3 rfl (by kernel_rfl) rfl rfl rfl rfl) (opd_const _) (opd_dep 10 20 2 rfl rfl rfl rfl) (opd_const _) (opd_dep 12 22 0 rfl rfl rfl rfl) (c_at _ _ _ _) ?_
  refine VWalk.headT (by decide) ?_
  refine VWalk.pickT _ _ _ rfl (want_none rfl) (opd_dep 9 19 4 rfl rfl rfl rfl) (opd_dep 13 23 0 rfl rfl rfl rfl) ?_
  refine VWalk.move _ rfl (want_none rfl) (opd_dep 14 24 0 rfl rfl rfl rfl) ?_
  refine VWalk.move _ rfl (want_tt 15 25 0 rfl (by kernel_rfl) rfl rfl rfl rfl) (opd_fr 3 rfl hv2_1 (Ext.rf _) (by kernel_rfl)) ?_
  refine VWalk.litB [98, 99] 22 5 2 _ rfl rfl (by decide) (by decide) rfl Try.underlying22 (by kernel_rfl) (by kernel_rfl) (want_tt 15 25 1 rfl (by kernel_rfl) rfl rfl rfl rfl) ?_
  refine VWalk.mark 22 5 _ rfl Try.underlying22 Try.underlying5 (want_tt 15 25 2 rfl (by kernel_rfl) rfl rfl rfl rfl) (opd_dep 17 27 0 rfl rfl rfl rfl) ?_
  refine VWalk.call4 16 _ _ _ _ _ rfl (enters_of Try.func16 (by kernel_rfl) rfl) (want_tt 15 25 3 rfl (by kernel_rfl) rfl rfl rfl rfl) (opd_const _) (opd_dep 16 26 2 rfl rfl rfl rfl) (opd_const _) (opd_dep 18 28 0 rfl rfl rfl rfl) (c_at _ _ _ _) ?_
  refine VWalk.headF (by decide) ?_
  refine VWalk.notB _ _ rfl (want_tt 15 25 4 rfl (by kernel_rfl) rfl rfl rfl rfl) (opd_dep 19 29 0 rfl rfl rfl rfl) rfl ?_
  refine VWalk.pickT _ _ _ rfl (want_none rfl) (opd_dep 15 25 5 rfl rfl rfl rfl) (opd_dep 20 30 0 rfl rfl rfl rfl) ?_
  refine VWalk.move _ rfl (want_none rfl) (opd_dep 21 31 0 rfl rfl rfl rfl) ?_
  refine VWalk.move _ rfl (want_tt 22 32 0 rfl (by kernel_rfl) rfl rfl rfl rfl) (opd_fr 3 rfl hv2_1 (Ext.rf _) (by kernel_rfl)) ?_
  refine VWalk.litB [67, 68] 22 5 2 _ rfl rfl (by decide) (by decide) rfl Try.underlying22 (by kernel_rfl) (by kernel_rfl) (want_tt 22 32 1 rfl (by kernel_rfl) rfl rfl rfl rfl) ?_
  refine VWalk.mark 22 5 _ rfl Try.underlying22 Try.underlying5 (want_tt 22 32 2 rfl (by kernel_rfl) rfl rfl rfl rfl) (opd_dep 24 34 0 rfl rfl rfl rfl) ?_
  refine VWalk.call4 16 _ _ _ _ _ rfl (enters_of Try.func16 (by kernel_rfl) rfl) (want_tt 22 32 3 rfl (by kernel_rfl) rfl rfl rfl rfl) (opd_const _) (opd_dep 23 33 2 rfl rfl rfl rfl) (opd_const _) (opd_dep 25 35 0 rfl rfl rfl rfl) (c_at _ _ _ _) ?_
  refine VWalk.headT (by decide) ?_
  refine VWalk.pickT _ _ _ rfl (want_none rfl) (opd_dep 22 32 4 rfl rfl rfl rfl) (opd_dep 26 36 0 rfl rfl rfl rfl) ?_
  refine VWalk.move _ rfl (want_none rfl) (opd_dep 27 37 0 rfl rfl rfl rfl) ?_
  refine VWalk.move _ rfl (want_tt 28 38 0 rfl (by kernel_rfl) rfl rfl rfl rfl) (opd_fr 3 rfl hv2_1 (Ext.rf _) (by kernel_rfl)) ?_
  refine VWalk.call4 16 _ _ _ _ _ rfl (enters_of Try.func16 (by kernel_rfl) rfl) (want_tt 28 38 1 rfl (by kernel_rfl) rfl rfl rfl rfl) (opd_const _) (opd_dep 29 39 0 rfl rfl rfl rfl) (opd_const _) opd_nil (c_at _ _ _ _) ?_
  refine VWalk.headT (by decide) ?_
  refine VWalk.pickT _ _ _ rfl (want_none rfl) (opd_dep 28 38 2 rfl rfl rfl rfl) (opd_dep 30 40 0 rfl rfl rfl rfl) ?_
  refine VWalk.move _ rfl (want_none rfl) (opd_dep 31 41 0 rfl rfl rfl rfl) ?_
  refine VWalk.move _ rfl (want_tt 32 42 0 rfl (by kernel_rfl) rfl rfl rfl rfl) (opd_fr 3 rfl hv2_1 (Ext.rf _) (by kernel_rfl)) ?_
  refine VWalk.call4 16 _ _ _ _ _ rfl (enters_of Try.func16 (by kernel_rfl) rfl) (want_tt 32 42 1 rfl (by kernel_rfl) rfl rfl rfl rfl) (opd_const _) (opd_dep 33 43 0 rfl rfl rfl rfl) (opd_const _) opd_nil (c_at _ _ _ _) ?_
  refine VWalk.headF (by decide) ?_
  refine VWalk.notB _ _ rfl (want_tt 32 42 2 rfl (by kernel_rfl) rfl rfl rfl rfl) (opd_dep 34 44 0 rfl rfl rfl rfl) rfl ?_
  refine VWalk.pickT _ _ _ rfl (want_none rfl) (opd_dep 32 42 3 rfl rfl rfl rfl) (opd_dep 35 45 0 rfl rfl rfl rfl) ?_
  refine VWalk.move _ rfl (want_none rfl) (opd_dep 36 46 0 rfl rfl rfl rfl) ?_
  refine VWalk.call1 10 _ _ rfl (enters_of Try.func10 (by kernel_rfl) rfl) (want_tt 37 47 0 rfl (by kernel_rfl) rfl rfl rfl rfl) (opd_const _) (c_fold 90) ?_
  refine VWalk.eqT _ _ _ _ rfl (want_tt 37 47 1 rfl (by kernel_rfl) rfl rfl rfl rfl) (opd_dep 38 48 0 rfl rfl rfl rfl) (opd_const _) (by rfl) ?_
  refine VWalk.pickT _ _ _ rfl (want_none rfl) (opd_dep 37 47 2 rfl rfl rfl rfl) (opd_dep 39 49 0 rfl rfl rfl rfl) ?_
  refine VWalk.move _ rfl (want_none rfl) (opd_dep 40 50 0 rfl rfl rfl rfl) ?_
  refine VWalk.call1 10 _ _ rfl (enters_of Try.func10 (by kernel_rfl) rfl) (want_tt 41 51 0 rfl (by kernel_rfl) rfl rfl rfl rfl) (opd_const _) (c_fold 91) ?_
  refine VWalk.eqT _ _ _ _ rfl (want_tt 41 51 1 rfl (by kernel_rfl) rfl rfl rfl rfl) (opd_dep 42 52 0 rfl rfl rfl rfl) (opd_const _) (by rfl) ?_
  refine VWalk.pickT _ _ _ rfl (want_none rfl) (opd_dep 41 51 2 rfl rfl rfl rfl) (opd_dep 43 53 0 rfl rfl rfl rfl) ?_
  refine VWalk.move _ rfl (want_none rfl) (opd_dep 44 54 0 rfl rfl rfl rfl) ?_
  refine VWalk.call1 10 _ _ rfl (enters_of Try.func10 (by kernel_rfl) rfl) (want_tt 45 55 0 rfl (by kernel_rfl) rfl rfl rfl rfl) (opd_const _) (c_fold 64) ?_
  refine VWalk.eqT _ _ _ _ rfl (want_tt 45 55 1 rfl (by kernel_rfl) rfl rfl rfl rfl) (opd_dep 46 56 0 rfl rfl rfl rfl) (opd_const _) (by rfl) ?_
  refine VWalk.pickT _ _ _ rfl (want_none rfl) (opd_dep 45 55 2 rfl rfl rfl rfl) (opd_dep 47 57 0 rfl rfl rfl rfl) ?_
  refine VWalk.move _ rfl (want_none rfl) (opd_dep 48 58 0 rfl rfl rfl rfl) ?_
  refine VWalk.move _ rfl (want_tt 49 59 0 rfl (by kernel_rfl) rfl rfl rfl rfl) (opd_fr 2 rfl hv1_3 (Ext.rf _) (by kernel_rfl)) ?_
  refine VWalk.call1 12 _ _ rfl (enters_of Try.func12 (by kernel_rfl) rfl) (want_tt 49 59 1 rfl (by kernel_rfl) rfl rfl rfl rfl) (opd_dep 50 60 0 rfl rfl rfl rfl) (c_folded _ (by decide)) ?_
  refine VWalk.string 22 9 5 _ rfl Try.underlying22 Try.underlying5 Try.underlying9 (want_tt 49 59 2 rfl (by kernel_rfl) rfl rfl rfl rfl) (opd_dep 51 61 0 rfl rfl rfl rfl) ?_
  refine VWalk.eqTs _ _ _ _ rfl (want_tt 49 59 3 rfl (by kernel_rfl) rfl rfl rfl rfl) (opd_dep 52 62 0 rfl rfl rfl rfl) (opd_const _) (by rfl) ?_
  refine VWalk.pickT _ _ _ rfl (want_none rfl) (opd_dep 49 59 4 rfl rfl rfl rfl) (opd_dep 53 63 0 rfl rfl rfl rfl) ?_
  refine VWalk.move _ rfl (want_none rfl) (opd_dep 54 64 0 rfl rfl rfl rfl) ?_
  refine VWalk.move _ rfl (want_tt 55 65 0 rfl (by kernel_rfl) rfl rfl rfl rfl) (opd_fr 1 rfl hv1_1 (Ext.rf _) (by kernel_rfl)) ?_
  refine VWalk.move _ rfl (want_tt 55 65 1 rfl (by kernel_rfl) rfl rfl rfl rfl) (opd_fr 3 rfl hv2_1 (Ext.rf _) (by kernel_rfl)) ?_
  refine VWalk.move _ rfl (want_tt 55 65 2 rfl (by kernel_rfl) rfl rfl rfl rfl) (opd_fr 2 rfl hv1_3 (Ext.rf _) (by kernel_rfl)) ?_
  refine VWalk.move _ rfl (want_tt 55 65 3 rfl (by kernel_rfl) rfl rfl rfl rfl) (opd_fr 1 rfl hv1_1 (Ext.rf _) (by kernel_rfl)) ?_
  refine VWalk.lit (Fs := [_, _, _]) [Operand.tmp 67, Operand.tmp 68, Operand.tmp 69] 23 22 3 _ rfl rfl (by decide) (by decide) rfl Try.underlying23 (by kernel_rfl) (by kernel_rfl) ⟨oneCell_sl _, oneCell_sl _, oneCell_sl _, trivial⟩ (want_tt 55 65 4 rfl (by kernel_rfl) rfl rfl rfl rfl) ⟨(opd_dep 57 67 2 rfl rfl rfl rfl), (opd_dep 58 68 1 rfl rfl rfl rfl), (opd_dep 59 69 0 rfl rfl rfl rfl), trivial⟩ ?_
  refine VWalk.call3 18 _ _ _ _ rfl (enters_of Try.func18 (by kernel_rfl) rfl) (want_tt 55 65 5 rfl (by kernel_rfl) rfl rfl rfl rfl) (opd_const _) (opd_dep 56 66 4 rfl rfl rfl rfl) (opd_dep 60 70 0 rfl rfl rfl rfl) (c_which _ _ [[97, 98, 99, 100], [65, 98], [97, 66]]) ?_
  refine VWalk.eqT _ _ _ _ rfl (want_tt 55 65 6 rfl (by kernel_rfl) rfl rfl rfl rfl) (opd_dep 61 71 0 rfl rfl rfl rfl) (opd_const _) (by decide) ?_
  refine VWalk.pickT _ _ _ rfl (want_none rfl) (opd_dep 55 65 7 rfl rfl rfl rfl) (opd_dep 62 72 0 rfl rfl rfl rfl) ?_
  refine VWalk.move _ rfl (want_none rfl) (opd_dep 63 73 0 rfl rfl rfl rfl) ?_
  refine VWalk.move _ rfl (want_tt 64 74 0 rfl (by kernel_rfl) rfl rfl rfl rfl) (opd_fr 1 rfl hv1_1 (Ext.rf _) (by kernel_rfl)) ?_
  refine VWalk.move _ rfl (want_tt 64 74 1 rfl (by kernel_rfl) rfl rfl rfl rfl) (opd_fr 3 rfl hv2_1 (Ext.rf _) (by kernel_rfl)) ?_
  refine VWalk.move _ rfl (want_tt 64 74 2 rfl (by kernel_rfl) rfl rfl rfl rfl) (opd_fr 2 rfl hv1_3 (Ext.rf _) (by kernel_rfl)) ?_
  refine VWalk.move _ rfl (want_tt 64 74 3 rfl (by kernel_rfl) rfl rfl rfl rfl) (opd_fr 1 rfl hv1_1 (Ext.rf _) (by kernel_rfl)) ?_
  refine VWalk.lit (Fs := [_, _, _]) [Operand.tmp 76, Operand.tmp 77, Operand.tmp 78] 23 22 3 _ rfl rfl (by decide) (by decide) rfl Try.underlying23 (by kernel_rfl) (by kernel_rfl) ⟨oneCell_sl _, oneCell_sl _, oneCell_sl _, trivial⟩ (want_tt 64 74 4 rfl (by kernel_rfl) rfl rfl rfl rfl) ⟨(opd_dep 66 76 2 rfl rfl rfl rfl), (opd_dep 67 77 1 rfl rfl rfl rfl), (opd_dep 68 78 0 rfl rfl rfl rfl), trivial⟩ ?_
  refine VWalk.call3 18 _ _ _ _ rfl (enters_of Try.func18 (by kernel_rfl) rfl) (want_tt 64 74 5 rfl (by kernel_rfl) rfl rfl rfl rfl) (opd_const _) (opd_dep 65 75 4 rfl rfl rfl rfl) (opd_dep 69 79 0 rfl rfl rfl rfl) (c_which _ _ [[97, 98, 99, 100], [65, 98], [97, 66]]) ?_
  refine VWalk.eqT _ _ _ _ rfl (want_tt 64 74 6 rfl (by kernel_rfl) rfl rfl rfl rfl) (opd_dep 70 80 0 rfl rfl rfl rfl) (opd_const _) (by decide) ?_
  refine VWalk.pickT _ _ _ rfl (want_none rfl) (opd_dep 64 74 7 rfl rfl rfl rfl) (opd_dep 71 81 0 rfl rfl rfl rfl) ?_
  refine VWalk.move _ rfl (want_none rfl) (opd_dep 72 82 0 rfl rfl rfl rfl) ?_
  refine VWalk.move _ rfl (want_tt 73 83 0 rfl (by kernel_rfl) rfl rfl rfl rfl) (opd_fr 1 rfl hv1_1 (Ext.rf _) (by kernel_rfl)) ?_
  refine VWalk.call3 18 _ _ _ _ rfl (enters_of Try.func18 (by kernel_rfl) rfl) (want_tt 73 83 1 rfl (by kernel_rfl) rfl rfl rfl rfl) (opd_const _) (opd_dep 74 84 0 rfl rfl rfl rfl) opd_nils (c_which _ _ []) ?_
  refine VWalk.eqT _ _ _ _ rfl (want_tt 73 83 2 rfl (by kernel_rfl) rfl rfl rfl rfl) (opd_dep 75 85 0 rfl rfl rfl rfl) (opd_const _) (by decide) ?_
  refine VWalk.pickT _ _ _ rfl (want_none rfl) (opd_dep 73 83 3 rfl rfl rfl rfl) (opd_dep 76 86 0 rfl rfl rfl rfl) ?_
  refine VWalk.move _ rfl (want_none rfl) (opd_dep 77 87 0 rfl rfl rfl rfl) ?_
  refine VWalk.move _ rfl (want_tt 78 88 0 rfl (by kernel_rfl) rfl rfl rfl rfl) (opd_fr 1 rfl hv1_1 (Ext.rf _) (by kernel_rfl)) ?_
  refine VWalk.move _ rfl (want_tt 78 88 1 rfl (by kernel_rfl) rfl rfl rfl rfl) (opd_fr 3 rfl hv2_1 (Ext.rf _) (by kernel_rfl)) ?_
  refine VWalk.move _ rfl (want_tt 78 88 2 rfl (by kernel_rfl) rfl rfl rfl rfl) (opd_fr 2 rfl hv1_3 (Ext.rf _) (by kernel_rfl)) ?_
  refine VWalk.lit (Fs := [_, _, _, _]) [Operand.tmp 89, Operand.tmp 90, Operand.const (Value.slice none 0 0), Operand.tmp 91] 23 22 4 _ rfl rfl (by decide) (by decide) rfl Try.underlying23 (by kernel_rfl) (by kernel_rfl) ⟨oneCell_sl _, oneCell_sl _, oneCell_sl _, oneCell_sl _, trivial⟩ (want_tt 78 88 3 rfl (by kernel_rfl) rfl rfl rfl rfl) ⟨(opd_dep 79 89 2 rfl rfl rfl rfl), (opd_dep 80 90 1 rfl rfl rfl rfl), opd_nil, (opd_dep 81 91 0 rfl rfl rfl rfl), trivial⟩ ?_
  refine VWalk.call1 20 _ _ rfl (enters_of Try.func20 (by kernel_rfl) rfl) (want_tt 78 88 4 rfl (by kernel_rfl) rfl rfl rfl rfl) (opd_dep 82 92 0 rfl rfl rfl rfl) (c_join [[97, 66], [97, 98, 99, 100], [], [65, 98]] (by decide)) ?_
  refine VWalk.string 22 9 5 _ rfl Try.underlying22 Try.underlying5 Try.underlying9 (want_tt 78 88 5 rfl (by kernel_rfl) rfl rfl rfl rfl) (opd_dep 83 93 0 rfl rfl rfl rfl) ?_
  refine VWalk.eqTs _ _ _ _ rfl (want_tt 78 88 6 rfl (by kernel_rfl) rfl rfl rfl rfl) (opd_dep 84 94 0 rfl rfl rfl rfl) (opd_const _) (by rfl) ?_
  refine VWalk.pickT _ _ _ rfl (want_none rfl) (opd_dep 78 88 7 rfl rfl rfl rfl) (opd_dep 85 95 0 rfl rfl rfl rfl) ?_
  refine ⟨rfl, rfl, rfl, fun W3 hE3 => ?_⟩
  exact Ret.mk (hE.tr hE3) rfl
theorem c_wakes {w0 : World} : ∀ w, Ext w0 w → Calls Try.prog 9 #[] w (Ret w (VEq (.bool true))) := fun w _ => wakes_any w
end Go.Proofs.Ytnkagcaipndljaa
