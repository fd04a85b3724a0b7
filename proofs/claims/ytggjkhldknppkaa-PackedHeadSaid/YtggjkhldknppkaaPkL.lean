/- Packed words: what the document says of some. -/
import Derived.Test.YtggjkhldknppkaaPkK
import Derived.Test.YtggjkhldknppkaaV2
import Derived.Test.YtggjkhldknppkaaLetG
namespace Go.Proofs.Ytggjkhldknppkaa
open Go.RowKit PakM DigM
section
variable {w0 : World}
theorem c_pput (fold : Bool) (ws : List (List UInt8)) (h0 : ws.length ≤ 10000) (h1 : ws.flatten.length ≤ 30000) : ∀ u v w, Ext w0 w → VEq (.bool fold) u w → VParts ws v w → Calls Try.prog 15 #[u, v] w (Ret w (VBytes (putP fold ws))) := fun u v w _ hu hv => by
  rw [show u = _ from hu]
  exact (pput_own fold ws v w hv h0 h1).mono fun _ _ ⟨r, h1, h2, h3⟩ => ⟨r, h1, h2, OwnB.bytes h3⟩
theorem c_rpput (fold : Bool) (ws : List (List UInt8)) (h0 : ws.length ≤ 10000) (h1 : ws.flatten.length ≤ 30000) : ∀ u v w, Ext w0 w → VEq (.bool fold) u w → VParts ws v w → Calls Try.prog 16 #[u, v] w (Ret w (VBytes (putP fold ws))) := fun u v w _ hu hv => by
  rw [show u = _ from hu]
  exact (rpput_own fold ws v w hv h0 h1).mono fun _ _ ⟨r, h1, h2, h3⟩ => ⟨r, h1, h2, OwnB.bytes h3⟩
theorem c_pktake (b : List UInt8) (f : Bool) (ws : List (List UInt8)) (e : Int) (h : takeP b = (f, ws, e)) (hl : b.length ≤ 1000000) : ∀ v w, Ext w0 w → VBytes b v w → Calls Try.prog 10 #[v] w (Ret w (VTup [VEq (.bool f), VParts ws, VEq (.int .i64 e)])) := fun v w _ hv => by
  have := pktake_any b v w hv hl
  rwa [h] at this
theorem c_phead (b : List UInt8) (f : Bool) (e : Int) (h : headP b = (f, e)) (hl : b.length ≤ 1000000) : ∀ v w, Ext w0 w → VBytes b v w → Calls Try.prog 12 #[v] w (Ret w (VTup [VEq (.bool f), VEq (.int .i64 e)])) := fun v w _ hv => by
  have := phead_any b v w hv hl
  rwa [h] at this
end
def wTwo : List (List UInt8) := [[104, 101], [97]]
theorem wk_put0 : (putP false []).length = 10 ∧ (putP false []).take 6 = [84, 83, 76, 49, 0, 0] := by decide +kernel
theorem wk_put2 : (putP true wTwo).length = 15 ∧ (putP true wTwo).take 11 = [84, 83, 76, 49, 1, 2, 2, 104, 101, 1, 97] := by decide +kernel
theorem wk_take1 : takeP [84, 83, 76, 49] = (false, [], 10) := by decide +kernel
theorem wk_head1 : headP [84, 83, 76, 50, 48, 48, 48, 48, 48, 48] = (false, 40) := by decide +kernel
theorem wk_head2 : headP [84, 83, 76, 49, 50, 48, 48, 48, 48, 48] = (false, 41) := by decide +kernel
theorem wk_head3 : headP [84, 83, 76, 49, 0, 48, 48, 48, 48, 48] = (false, 42) := by decide +kernel
theorem wk_size : 9 + (putN wTwo.length).length + sizeW wTwo = 15 := by decide +kernel
theorem str_of {a b : List UInt8} (h : a = b) : (⟨a.toArray⟩ : ByteArray) = ⟨b.toArray⟩ := by rw [h]
set_option maxRecDepth 100000 in
set_option maxHeartbeats 4000000 in
theorem wakes_any (w : World) : Calls Try.prog 9 #[] w (Ret w (VEq (.bool true))) := by
  have hA := wk_put0
  have hB := wk_put2
  have htA := take_put false [] (by decide) (by simp)
  have htB := take_put true wTwo (by decide) (by decide)
  have hpA := fun u v W hX hu hv => c_pput (w0 := w) false [] (by simp) (by simp) u v W hX hu hv
  have hpB := fun W0 u v W hX hu hv => c_pput (w0 := W0) true wTwo (by decide) (by decide) u v W hX hu hv
  have hsz := fun v W hv => psize_any wTwo v W hv (by decide) (by decide)
  rw [wk_size] at hsz
  generalize putP false [] = pA at *
  generalize putP true wTwo = pB at *
  obtain ⟨hA1, hA2⟩ := hA
  obtain ⟨hB1, hB2⟩ := hB
  have HA1 := hide hA1
  have HA2 := hide hA2
  have HB1 := hide hB1
  have HB2 := hide hB2
  have HtA := hide htA
  have HtB := hide htB
  clear hA1 hA2 hB1 hB2 htA htB
  go_enter Try.func9, Try.ntmps9
  go_upto_region 1 with (fail)
  refine vregion0 1 (by kernel_rfl) ?_
  refine VWalk.call2 15 _ _ _ rfl (enters_of Try.func15 (by kernel_rfl) rfl) (want_none rfl) (opd_const _) opd_nils (fun u v W hX hu hv => hpA u v W hX hu hv) ?_
  refine ⟨rfl, fun W1 hE1 => ?_⟩
  refine VFin.any fun v1_0 hv1_0 => ?_
  refine VFin.nil ?_
  simp only [Act.put, List.setIfInBounds_toArray, List.set_cons_zero, List.set_cons_succ]
  have hE := hE1
  go_upto_region 2 with (fail)
  refine vregion0 6 (by kernel_rfl) ?_
  refine VWalk.litB [104, 101] 23 5 2 _ rfl rfl (by decide) (by decide) rfl Try.underlying23 (by kernel_rfl) (by kernel_rfl) (want_none rfl) ?_
  refine VWalk.mark 23 5 _ rfl Try.underlying23 Try.underlying5 (want_none rfl) (opd_dep 0 19 0 rfl rfl rfl rfl) ?_
  refine VWalk.litB [97] 23 5 1 _ rfl rfl (by decide) (by decide) rfl Try.underlying23 (by kernel_rfl) (by kernel_rfl) (want_none rfl) ?_
  refine VWalk.mark 23 5 _ rfl Try.underlying23 Try.underlying5 (want_none rfl) (opd_dep 2 21 0 rfl rfl rfl rfl) ?_
  refine VWalk.lit (Fs := [_, _]) [Operand.tmp 20, Operand.tmp 22] 22 23 2 _ rfl rfl (by decide) (by decide) rfl Try.underlying22 (by kernel_rfl) (by kernel_rfl) ⟨oneCell_sl _, oneCell_sl _, trivial⟩ (want_none rfl) ⟨(opd_dep 1 20 2 rfl rfl rfl rfl), (opd_dep 3 22 0 rfl rfl rfl rfl), trivial⟩ ?_
  refine VWalk.call2 15 _ _ _ rfl (enters_of Try.func15 (by kernel_rfl) rfl) (want_none rfl) (opd_const _) (opd_dep 4 23 0 rfl rfl rfl rfl) (fun u v W hX hu hv => hpB _ u v W hX hu hv) ?_
  refine ⟨rfl, fun W2 hE2 => ?_⟩
  refine VFin.any fun v2_0 hv2_0 => ?_
  refine VFin.any fun v2_1 hv2_1 => ?_
  refine VFin.any fun v2_2 hv2_2 => ?_
  refine VFin.any fun v2_3 hv2_3 => ?_
  refine VFin.any fun v2_4 hv2_4 => ?_
  refine VFin.any fun v2_5 hv2_5 => ?_
  refine VFin.nil ?_
  simp only [Act.put, List.setIfInBounds_toArray, List.set_cons_zero, List.set_cons_succ]
  clear hv2_0 hv2_1 hv2_2 hv2_3 hv2_4
  have hv1_0 := VP.st _ _ _ _ hv1_0 hE2
  have hE := hE.tr hE2
  go_upto_region 3 with (fail)
  refine vregion0 6 (by kernel_rfl) ?_
  refine VWalk.move _ rfl (want_none rfl) (opd_fr 2 rfl hv2_5 (Ext.rf _) (by kernel_rfl)) ?_
  refine VWalk.call1 10 _ _ rfl (enters_of Try.func10 (by kernel_rfl) rfl) (want_none rfl) (opd_dep 0 26 0 rfl rfl rfl rfl) (fun v W hX hv => c_pktake pB _ _ _ HtB.out (by rw [HB1.out]; decide) v W hX hv) ?_
  refine VWalk.move _ rfl (want_none rfl) (opd_dep 1 27 0 rfl rfl rfl rfl) ?_
  refine VWalk.extract _ 0 rfl rfl (want_none rfl) (opd_dep 2 25 0 rfl rfl rfl rfl) ?_
  refine VWalk.extract _ 1 rfl rfl (want_none rfl) (opd_dep 2 25 1 rfl rfl rfl rfl) ?_
  refine VWalk.extract _ 2 rfl rfl (want_none rfl) (opd_dep 2 25 2 rfl rfl rfl rfl) ?_
  refine ⟨rfl, fun W3 hE3 => ?_⟩
  refine VFin.any fun v3_0 hv3_0 => ?_
  refine VFin.any fun v3_1 hv3_1 => ?_
  refine VFin.any fun v3_2 hv3_2 => ?_
  refine VFin.eq ?_  -- 3
  refine VFin.any fun v3_4 hv3_4 => ?_
  refine VFin.eq ?_  -- 5
  refine VFin.nil ?_
  simp only [Act.put, List.setIfInBounds_toArray, List.set_cons_zero, List.set_cons_succ]
  clear hv3_0 hv3_1 hv3_2
  have hv1_0 := VP.st _ _ _ _ hv1_0 hE3
  have hv2_5 := VP.st _ _ _ _ hv2_5 hE3
  have hE := hE.tr hE3
  go_upto_region 4 with (fail)
  refine vregion0 6 (by kernel_rfl) ?_
  refine VWalk.move _ rfl (want_none rfl) (opd_fr 1 rfl hv1_0 (Ext.rf _) (by kernel_rfl)) ?_
  refine VWalk.call1 10 _ _ rfl (enters_of Try.func10 (by kernel_rfl) rfl) (want_none rfl) (opd_dep 0 32 0 rfl rfl rfl rfl) (fun v W hX hv => c_pktake pA _ _ _ HtA.out (by rw [HA1.out]; decide) v W hX hv) ?_
  refine VWalk.move _ rfl (want_none rfl) (opd_dep 1 33 0 rfl rfl rfl rfl) ?_
  refine VWalk.extract _ 0 rfl rfl (want_none rfl) (opd_dep 2 31 0 rfl rfl rfl rfl) ?_
  refine VWalk.extract _ 1 rfl rfl (want_none rfl) (opd_dep 2 31 1 rfl rfl rfl rfl) ?_
  refine VWalk.extract _ 2 rfl rfl (want_none rfl) (opd_dep 2 31 2 rfl rfl rfl rfl) ?_
  refine ⟨rfl, fun W4 hE4 => ?_⟩
  refine VFin.any fun v4_0 hv4_0 => ?_
  refine VFin.any fun v4_1 hv4_1 => ?_
  refine VFin.any fun v4_2 hv4_2 => ?_
  refine VFin.eq ?_  -- 3
  refine VFin.any fun v4_4 hv4_4 => ?_
  refine VFin.eq ?_  -- 5
  refine VFin.nil ?_
  simp only [Act.put, List.setIfInBounds_toArray, List.set_cons_zero, List.set_cons_succ]
  clear hv4_0 hv4_1 hv4_2
  have hv1_0 := VP.st _ _ _ _ hv1_0 hE4
  have hv2_5 := VP.st _ _ _ _ hv2_5 hE4
  have hv3_4 := VP.st _ _ _ _ hv3_4 hE4
  have hE := hE.tr hE4
  go_upto_region 5 with (fail)
  refine vregion0 7 (by kernel_rfl) ?_
  refine VWalk.litB [84, 83, 76, 49] 23 5 4 _ rfl rfl (by decide) (by decide) rfl Try.underlying23 (by kernel_rfl) (by kernel_rfl) (want_none rfl) ?_
  refine VWalk.mark 23 5 _ rfl Try.underlying23 Try.underlying5 (want_none rfl) (opd_dep 0 38 0 rfl rfl rfl rfl) ?_
  refine VWalk.call1 10 _ _ rfl (enters_of Try.func10 (by kernel_rfl) rfl) (want_none rfl) (opd_dep 1 39 0 rfl rfl rfl rfl) (fun v W hX hv => c_pktake _ _ _ _ wk_take1 (by decide) v W hX hv) ?_
  refine VWalk.move _ rfl (want_none rfl) (opd_dep 2 40 0 rfl rfl rfl rfl) ?_
  refine VWalk.extract _ 0 rfl rfl (want_none rfl) (opd_dep 3 37 0 rfl rfl rfl rfl) ?_
  refine VWalk.extract _ 1 rfl rfl (want_none rfl) (opd_dep 3 37 1 rfl rfl rfl rfl) ?_
  refine VWalk.extract _ 2 rfl rfl (want_none rfl) (opd_dep 3 37 2 rfl rfl rfl rfl) ?_
  refine ⟨rfl, fun W5 hE5 => ?_⟩
  refine VFin.any fun v5_0 hv5_0 => ?_
  refine VFin.any fun v5_1 hv5_1 => ?_
  refine VFin.any fun v5_2 hv5_2 => ?_
  refine VFin.any fun v5_3 hv5_3 => ?_
  refine VFin.eq ?_  -- 4
  refine VFin.any fun v5_5 hv5_5 => ?_
  refine VFin.eq ?_  -- 6
  refine VFin.nil ?_
  simp only [Act.put, List.setIfInBounds_toArray, List.set_cons_zero, List.set_cons_succ]
  clear hv5_0 hv5_1 hv5_2 hv5_3
  have hv1_0 := VP.st _ _ _ _ hv1_0 hE5
  have hv2_5 := VP.st _ _ _ _ hv2_5 hE5
  have hv3_4 := VP.st _ _ _ _ hv3_4 hE5
  have hv4_4 := VP.st _ _ _ _ hv4_4 hE5
  have hE := hE.tr hE5
  go_upto_region 6 with (fail)
  refine vregion0 6 (by kernel_rfl) ?_
  refine VWalk.litB [84, 83, 76, 50, 48, 48, 48, 48, 48, 48] 23 5 10 _ rfl rfl (by decide) (by decide) rfl Try.underlying23 (by kernel_rfl) (by kernel_rfl) (want_none rfl) ?_
  refine VWalk.mark 23 5 _ rfl Try.underlying23 Try.underlying5 (want_none rfl) (opd_dep 0 45 0 rfl rfl rfl rfl) ?_
  refine VWalk.call1 12 _ _ rfl (enters_of Try.func12 (by kernel_rfl) rfl) (want_none rfl) (opd_dep 1 46 0 rfl rfl rfl rfl) (fun v W hX hv => c_phead _ _ _ wk_head1 (by decide) v W hX hv) ?_
  refine VWalk.move _ rfl (want_none rfl) (opd_dep 2 47 0 rfl rfl rfl rfl) ?_
  refine VWalk.extract _ 0 rfl rfl (want_none rfl) (opd_dep 3 44 0 rfl rfl rfl rfl) ?_
  refine VWalk.extract _ 1 rfl rfl (want_none rfl) (opd_dep 3 44 1 rfl rfl rfl rfl) ?_
  refine ⟨rfl, fun W6 hE6 => ?_⟩
  refine VFin.any fun v6_0 hv6_0 => ?_
  refine VFin.any fun v6_1 hv6_1 => ?_
  refine VFin.any fun v6_2 hv6_2 => ?_
  refine VFin.any fun v6_3 hv6_3 => ?_
  refine VFin.eq ?_  -- 4
  refine VFin.eq ?_  -- 5
  refine VFin.nil ?_
  simp only [Act.put, List.setIfInBounds_toArray, List.set_cons_zero, List.set_cons_succ]
  clear hv6_0 hv6_1 hv6_2 hv6_3
  have hv1_0 := VP.st _ _ _ _ hv1_0 hE6
  have hv2_5 := VP.st _ _ _ _ hv2_5 hE6
  have hv3_4 := VP.st _ _ _ _ hv3_4 hE6
  have hv4_4 := VP.st _ _ _ _ hv4_4 hE6
  have hv5_5 := VP.st _ _ _ _ hv5_5 hE6
  have hE := hE.tr hE6
  go_upto_region 7 with (fail)
  refine vregion0 6 (by kernel_rfl) ?_
  refine VWalk.litB [84, 83, 76, 49, 50, 48, 48, 48, 48, 48] 23 5 10 _ rfl rfl (by decide) (by decide) rfl Try.underlying23 (by kernel_rfl) (by kernel_rfl) (want_none rfl) ?_
  refine VWalk.mark 23 5 _ rfl Try.underlying23 Try.underlying5 (want_none rfl) (opd_dep 0 51 0 rfl rfl rfl rfl) ?_
  refine VWalk.call1 12 _ _ rfl (enters_of Try.func12 (by kernel_rfl) rfl) (want_none rfl) (opd_dep 1 52 0 rfl rfl rfl rfl) (fun v W hX hv => c_phead _ _ _ wk_head2 (by decide) v W hX hv) ?_
  refine VWalk.move _ rfl (want_none rfl) (opd_dep 2 53 0 rfl rfl rfl rfl) ?_
  refine VWalk.extract _ 0 rfl rfl (want_none rfl) (opd_dep 3 50 0 rfl rfl rfl rfl) ?_
  refine VWalk.extract _ 1 rfl rfl (want_none rfl) (opd_dep 3 50 1 rfl rfl rfl rfl) ?_
  refine ⟨rfl, fun W7 hE7 => ?_⟩
  refine VFin.any fun v7_0 hv7_0 => ?_
  refine VFin.any fun v7_1 hv7_1 => ?_
  refine VFin.any fun v7_2 hv7_2 => ?_
  refine VFin.any fun v7_3 hv7_3 => ?_
  refine VFin.eq ?_  -- 4
  refine VFin.eq ?_  -- 5
  refine VFin.nil ?_
  simp only [Act.put, List.setIfInBounds_toArray, List.set_cons_zero, List.set_cons_succ]
  clear hv7_0 hv7_1 hv7_2 hv7_3
  have hv1_0 := VP.st _ _ _ _ hv1_0 hE7
  have hv2_5 := VP.st _ _ _ _ hv2_5 hE7
  have hv3_4 := VP.st _ _ _ _ hv3_4 hE7
  have hv4_4 := VP.st _ _ _ _ hv4_4 hE7
  have hv5_5 := VP.st _ _ _ _ hv5_5 hE7
  have hE := hE.tr hE7
  go_upto_region 8 with (fail)
  refine vregion0 6 (by kernel_rfl) ?_
  refine VWalk.litB [84, 83, 76, 49, 0, 48, 48, 48, 48, 48] 23 5 10 _ rfl rfl (by decide) (by decide) rfl Try.underlying23 (by kernel_rfl) (by kernel_rfl) (want_none rfl) ?_
  refine VWalk.mark 23 5 _ rfl Try.underlying23 Try.underlying5 (want_none rfl) (opd_dep 0 57 0 rfl rfl rfl rfl) ?_
  refine VWalk.call1 12 _ _ rfl (enters_of Try.func12 (by kernel_rfl) rfl) (want_none rfl) (opd_dep 1 58 0 rfl rfl rfl rfl) (fun v W hX hv => c_phead _ _ _ wk_head3 (by decide) v W hX hv) ?_
  refine VWalk.move _ rfl (want_none rfl) (opd_dep 2 59 0 rfl rfl rfl rfl) ?_
  refine VWalk.extract _ 0 rfl rfl (want_none rfl) (opd_dep 3 56 0 rfl rfl rfl rfl) ?_
  refine VWalk.extract _ 1 rfl rfl (want_none rfl) (opd_dep 3 56 1 rfl rfl rfl rfl) ?_
  refine ⟨rfl, fun W8 hE8 => ?_⟩
  refine VFin.any fun v8_0 hv8_0 => ?_
  refine VFin.any fun v8_1 hv8_1 => ?_
  refine VFin.any fun v8_2 hv8_2 => ?_
  refine VFin.any fun v8_3 hv8_3 => ?_
  refine VFin.eq ?_  -- 4
  refine VFin.eq ?_  -- 5
  refine VFin.nil ?_
  simp only [Act.put, List.setIfInBounds_toArray, List.set_cons_zero, List.set_cons_succ]
  clear hv8_0 hv8_1 hv8_2 hv8_3
  have hv1_0 := VP.st _ _ _ _ hv1_0 hE8
  have hv2_5 := VP.st _ _ _ _ hv2_5 hE8
  have hv3_4 := VP.st _ _ _ _ hv3_4 hE8
  have hv4_4 := VP.st _ _ _ _ hv4_4 hE8
  have hv5_5 := VP.st _ _ _ _ hv5_5 hE8
  have hE := hE.tr hE8
  go_upto_region 9 with (fail)
  refine vregion0 13 (by kernel_rfl) ?_
  refine VWalk.move _ rfl (want_none rfl) (opd_fr 1 rfl hv1_0 (Ext.rf _) (by kernel_rfl)) ?_
  refine VWalk.lenB 23 5 _ rfl Try.underlying23 (want_none rfl) (opd_dep 0 62 0 rfl rfl rfl rfl) ?_
  refine VWalk.neT _ _ _ _ rfl (want_none rfl) (opd_dep 1 63 0 rfl rfl rfl rfl) (opd_const _) (by rw [HA1.out]; rfl) ?_
  refine VWalk.move _ rfl (want_none rfl) (opd_dep 2 64 0 rfl rfl rfl rfl) ?_
  refine VWalk.move _ rfl (want_ff 3 65 0 rfl (by kernel_rfl) rfl rfl rfl rfl) (opd_fr 2 rfl hv2_5 (Ext.rf _) (by kernel_rfl)) ?_
  refine VWalk.lenB 23 5 _ rfl Try.underlying23 (want_ff 3 65 1 rfl (by kernel_rfl) rfl rfl rfl rfl) (opd_dep 4 66 0 rfl rfl rfl rfl) ?_
  refine VWalk.neT _ _ _ _ rfl (want_ff 3 65 2 rfl (by kernel_rfl) rfl rfl rfl rfl) (opd_dep 5 67 0 rfl rfl rfl rfl) (opd_const _) (by rw [HB1.out]; rfl) ?_
  refine VWalk.pickF _ _ _ rfl (want_none rfl) (opd_dep 3 65 3 rfl rfl rfl rfl) (opd_dep 6 68 0 rfl rfl rfl rfl) ?_
  refine VWalk.move _ rfl (want_none rfl) (opd_dep 7 69 0 rfl rfl rfl rfl) ?_
  refine VWalk.move _ rfl (want_ff 8 70 0 rfl (by kernel_rfl) rfl rfl rfl rfl) (opd_fr 4 rfl hv3_4 (Ext.rf _) (by kernel_rfl)) ?_
  refine VWalk.lenS 22 23 _ rfl Try.underlying22 (want_ff 8 70 1 rfl (by kernel_rfl) rfl rfl rfl rfl) (opd_dep 9 71 0 rfl rfl rfl rfl) ?_
  refine VWalk.neT _ _ _ _ rfl (want_ff 8 70 2 rfl (by kernel_rfl) rfl rfl rfl rfl) (opd_dep 10 72 0 rfl rfl rfl rfl) (opd_const _) (by rw [List.length_map]; rfl) ?_
  refine VWalk.pickF _ _ _ rfl (want_none rfl) (opd_dep 8 70 3 rfl rfl rfl rfl) (opd_dep 11 73 0 rfl rfl rfl rfl) ?_
  refine ⟨rfl, fun W9 hE9 => ?_⟩
  refine VFin.any fun v9_0 hv9_0 => ?_
  refine VFin.eq ?_  -- 1
  refine VFin.eq ?_  -- 2
  refine VFin.eq ?_  -- 3
  refine VFin.any fun v9_4 hv9_4 => ?_
  refine VFin.eq ?_  -- 5
  refine VFin.eq ?_  -- 6
  refine VFin.eq ?_  -- 7
  refine VFin.eq ?_  -- 8
  refine VFin.any fun v9_9 hv9_9 => ?_
  refine VFin.eq ?_  -- 10
  refine VFin.eq ?_  -- 11
  refine VFin.eq ?_  -- 12
  refine VFin.nil ?_
  simp only [Act.put, List.setIfInBounds_toArray, List.set_cons_zero, List.set_cons_succ]
  clear hv9_0 hv9_4 hv9_9
  have hv1_0 := VP.st _ _ _ _ hv1_0 hE9
  have hv2_5 := VP.st _ _ _ _ hv2_5 hE9
  have hv3_4 := VP.st _ _ _ _ hv3_4 hE9
  have hv4_4 := VP.st _ _ _ _ hv4_4 hE9
  have hv5_5 := VP.st _ _ _ _ hv5_5 hE9
  have hE := hE.tr hE9
  go_upto_region 11 with (fail)
  refine law_end0 (r := .bool true) (by assumption) 75 0 149 _ (by kernel_rfl) rfl rfl rfl rfl rfl (by kernel_rfl) rfl 74 rfl rfl ?_
  refine VWalk.move _ rfl (want_none rfl) (opd_fr 1 rfl hv1_0 (Ext.rf _) (by kernel_rfl)) ?_
  refine VWalk.cutToB 23 5 _ _ .i64 6 rfl Try.underlying23 (by kernel_rfl) (want_none rfl) (opd_dep 0 75 0 rfl rfl rfl rfl) (opd_const _) (by rw [HA1.out]; decide) ?_
  refine VWalk.string 23 9 5 _ rfl Try.underlying23 Try.underlying5 Try.underlying9 (want_none rfl) (opd_dep 1 76 0 rfl rfl rfl rfl) ?_
  refine VWalk.eqTs _ _ _ _ rfl (want_none rfl) (opd_dep 2 77 0 rfl rfl rfl rfl) (opd_const _) (by rw [HA2.out]) ?_
  refine VWalk.move _ rfl (want_none rfl) (opd_dep 3 78 0 rfl rfl rfl rfl) ?_
  refine VWalk.move _ rfl (want_tt 4 79 0 rfl (by kernel_rfl) rfl rfl rfl rfl) (opd_fr 2 rfl hv2_5 (Ext.rf _) (by kernel_rfl)) ?_
  refine VWalk.cutToB 23 5 _ _ .i64 11 rfl Try.underlying23 (by kernel_rfl) (want_tt 4 79 1 rfl (by kernel_rfl) rfl rfl rfl rfl) (opd_dep 5 80 0 rfl rfl rfl rfl) (opd_const _) (by rw [HB1.out]; decide) ?_
  refine VWalk.string 23 9 5 _ rfl Try.underlying23 Try.underlying5 Try.underlying9 (want_tt 4 79 2 rfl (by kernel_rfl) rfl rfl rfl rfl) (opd_dep 6 81 0 rfl rfl rfl rfl) ?_
  refine VWalk.eqTs _ _ _ _ rfl (want_tt 4 79 3 rfl (by kernel_rfl) rfl rfl rfl rfl) (opd_dep 7 82 0 rfl rfl rfl rfl) (opd_const _) (by rw [HB2.out]) ?_
  refine VWalk.pickT _ _ _ rfl (want_none rfl) (opd_dep 4 79 4 rfl rfl rfl rfl) (opd_dep 8 83 0 rfl rfl rfl rfl) ?_
  refine VWalk.move _ rfl (want_none rfl) (opd_dep 9 84 0 rfl rfl rfl rfl) ?_
  refine VWalk.move _ rfl (want_tt 10 85 0 rfl (by kernel_rfl) rfl rfl rfl rfl) (opd_frame 5 rfl (by kernel_rfl)) ?_
  refine VWalk.eqT _ _ _ _ rfl (want_tt 10 85 1 rfl (by kernel_rfl) rfl rfl rfl rfl) (opd_dep 11 86 0 rfl rfl rfl rfl) (opd_const _) (by decide) ?_
  refine VWalk.pickT _ _ _ rfl (want_none rfl) (opd_dep 10 85 2 rfl rfl rfl rfl) (opd_dep 12 87 0 rfl rfl rfl rfl) ?_
  refine VWalk.move _ rfl (want_none rfl) (opd_dep 13 88 0 rfl rfl rfl rfl) ?_
  refine VWalk.move _ rfl (want_tt 14 89 0 rfl (by kernel_rfl) rfl rfl rfl rfl) (opd_frame 3 rfl (by kernel_rfl)) ?_
  refine VWalk.pickT _ _ _ rfl (want_none rfl) (opd_dep 14 89 1 rfl rfl rfl rfl) (opd_dep 15 90 0 rfl rfl rfl rfl) ?_
  refine VWalk.move _ rfl (want_none rfl) (opd_dep 16 91 0 rfl rfl rfl rfl) ?_
  refine VWalk.move _ rfl (want_tt 17 92 0 rfl (by kernel_rfl) rfl rfl rfl rfl) (opd_fr 4 rfl hv3_4 (Ext.rf _) (by kernel_rfl)) ?_
  refine VWalk.indexP 22 23 _ _ .i64 0 rfl Try.underlying22 (by kernel_rfl) (want_tt 17 92 1 rfl (by kernel_rfl) rfl rfl rfl rfl) (opd_dep 18 93 0 rfl rfl rfl rfl) (opd_const _) (by decide) ?_
  refine VWalk.loadP 23 _ rfl (want_tt 17 92 2 rfl (by kernel_rfl) rfl rfl rfl rfl) (opd_dep 19 94 0 rfl rfl rfl rfl) (fun _ => by kernel_rfl) ?_
  refine VWalk.string 23 9 5 _ rfl Try.underlying23 Try.underlying5 Try.underlying9 (want_tt 17 92 3 rfl (by kernel_rfl) rfl rfl rfl rfl) (opd_dep 20 95 0 rfl rfl rfl rfl) ?_
  refine VWalk.eqTs _ _ _ _ rfl (want_tt 17 92 4 rfl (by kernel_rfl) rfl rfl rfl rfl) (opd_dep 21 96 0 rfl rfl rfl rfl) (opd_const _) rfl ?_
  refine VWalk.pickT _ _ _ rfl (want_none rfl) (opd_dep 17 92 5 rfl rfl rfl rfl) (opd_dep 22 97 0 rfl rfl rfl rfl) ?_
  refine VWalk.move _ rfl (want_none rfl) (opd_dep 23 98 0 rfl rfl rfl rfl) ?_
  refine VWalk.move _ rfl (want_tt 24 99 0 rfl (by kernel_rfl) rfl rfl rfl rfl) (opd_fr 4 rfl hv3_4 (Ext.rf _) (by kernel_rfl)) ?_
  refine VWalk.indexP 22 23 _ _ .i64 1 rfl Try.underlying22 (by kernel_rfl) (want_tt 24 99 1 rfl (by kernel_rfl) rfl rfl rfl rfl) (opd_dep 25 100 0 rfl rfl rfl rfl) (opd_const _) (by decide) ?_
  refine VWalk.loadP 23 _ rfl (want_tt 24 99 2 rfl (by kernel_rfl) rfl rfl rfl rfl) (opd_dep 26 101 0 rfl rfl rfl rfl) (fun _ => by kernel_rfl) ?_
  refine VWalk.string 23 9 5 _ rfl Try.underlying23 Try.underlying5 Try.underlying9 (want_tt 24 99 3 rfl (by kernel_rfl) rfl rfl rfl rfl) (opd_dep 27 102 0 rfl rfl rfl rfl) ?_
  refine VWalk.eqTs _ _ _ _ rfl (want_tt 24 99 4 rfl (by kernel_rfl) rfl rfl rfl rfl) (opd_dep 28 103 0 rfl rfl rfl rfl) (opd_const _) rfl ?_
  refine VWalk.pickT _ _ _ rfl (want_none rfl) (opd_dep 24 99 5 rfl rfl rfl rfl) (opd_dep 29 104 0 rfl rfl rfl rfl) ?_
  refine VWalk.move _ rfl (want_none rfl) (opd_dep 30 105 0 rfl rfl rfl rfl) ?_
  refine VWalk.move _ rfl (want_tt 31 106 0 rfl (by kernel_rfl) rfl rfl rfl rfl) (opd_frame 8 rfl (by kernel_rfl)) ?_
  refine VWalk.eqT _ _ _ _ rfl (want_tt 31 106 1 rfl (by kernel_rfl) rfl rfl rfl rfl) (opd_dep 32 107 0 rfl rfl rfl rfl) (opd_const _) (by decide) ?_
  refine VWalk.pickT _ _ _ rfl (want_none rfl) (opd_dep 31 106 2 rfl rfl rfl rfl) (opd_dep 33 108 0 rfl rfl rfl rfl) ?_
  refine VWalk.move _ rfl (want_none rfl) (opd_dep 34 109 0 rfl rfl rfl rfl) ?_
  refine VWalk.move _ rfl (want_tt 35 110 0 rfl (by kernel_rfl) rfl rfl rfl rfl) (opd_fr 7 rfl hv4_4 (Ext.rf _) (by kernel_rfl)) ?_
  refine VWalk.lenS 22 23 _ rfl Try.underlying22 (want_tt 35 110 1 rfl (by kernel_rfl) rfl rfl rfl rfl) (opd_dep 36 111 0 rfl rfl rfl rfl) ?_
  refine VWalk.eqT _ _ _ _ rfl (want_tt 35 110 2 rfl (by kernel_rfl) rfl rfl rfl rfl) (opd_dep 37 112 0 rfl rfl rfl rfl) (opd_const _) rfl ?_
  refine VWalk.pickT _ _ _ rfl (want_none rfl) (opd_dep 35 110 3 rfl rfl rfl rfl) (opd_dep 38 113 0 rfl rfl rfl rfl) ?_
  refine VWalk.move _ rfl (want_none rfl) (opd_dep 39 114 0 rfl rfl rfl rfl) ?_
  refine VWalk.move _ rfl (want_tt 40 115 0 rfl (by kernel_rfl) rfl rfl rfl rfl) (opd_frame 11 rfl (by kernel_rfl)) ?_
  refine VWalk.eqT _ _ _ _ rfl (want_tt 40 115 1 rfl (by kernel_rfl) rfl rfl rfl rfl) (opd_dep 41 116 0 rfl rfl rfl rfl) (opd_const _) (by decide) ?_
  refine VWalk.pickT _ _ _ rfl (want_none rfl) (opd_dep 40 115 2 rfl rfl rfl rfl) (opd_dep 42 117 0 rfl rfl rfl rfl) ?_
  refine VWalk.move _ rfl (want_none rfl) (opd_dep 43 118 0 rfl rfl rfl rfl) ?_
  refine VWalk.move _ rfl (want_tt 44 119 0 rfl (by kernel_rfl) rfl rfl rfl rfl) (opd_frame 13 rfl (by kernel_rfl)) ?_
  refine VWalk.eqT _ _ _ _ rfl (want_tt 44 119 1 rfl (by kernel_rfl) rfl rfl rfl rfl) (opd_dep 45 120 0 rfl rfl rfl rfl) (opd_const _) (by decide) ?_
  refine VWalk.pickT _ _ _ rfl (want_none rfl) (opd_dep 44 119 2 rfl rfl rfl rfl) (opd_dep 46 121 0 rfl rfl rfl rfl) ?_
  refine VWalk.move _ rfl (want_none rfl) (opd_dep 47 122 0 rfl rfl rfl rfl) ?_
  refine VWalk.move _ rfl (want_tt 48 123 0 rfl (by kernel_rfl) rfl rfl rfl rfl) (opd_frame 15 rfl (by kernel_rfl)) ?_
  refine VWalk.eqT _ _ _ _ rfl (want_tt 48 123 1 rfl (by kernel_rfl) rfl rfl rfl rfl) (opd_dep 49 124 0 rfl rfl rfl rfl) (opd_const _) (by decide) ?_
  refine VWalk.pickT _ _ _ rfl (want_none rfl) (opd_dep 48 123 2 rfl rfl rfl rfl) (opd_dep 50 125 0 rfl rfl rfl rfl) ?_
  refine VWalk.move _ rfl (want_none rfl) (opd_dep 51 126 0 rfl rfl rfl rfl) ?_
  refine VWalk.move _ rfl (want_tt 52 127 0 rfl (by kernel_rfl) rfl rfl rfl rfl) (opd_frame 17 rfl (by kernel_rfl)) ?_
  refine VWalk.eqT _ _ _ _ rfl (want_tt 52 127 1 rfl (by kernel_rfl) rfl rfl rfl rfl) (opd_dep 53 128 0 rfl rfl rfl rfl) (opd_const _) (by decide) ?_
  refine VWalk.pickT _ _ _ rfl (want_none rfl) (opd_dep 52 127 2 rfl rfl rfl rfl) (opd_dep 54 129 0 rfl rfl rfl rfl) ?_
  refine VWalk.move _ rfl (want_none rfl) (opd_dep 55 130 0 rfl rfl rfl rfl) ?_
  refine VWalk.litB [104, 101] 23 5 2 _ rfl rfl (by decide) (by decide) rfl Try.underlying23 (by kernel_rfl) (by kernel_rfl) (want_tt 56 131 0 rfl (by kernel_rfl) rfl rfl rfl rfl) ?_
  refine VWalk.mark 23 5 _ rfl Try.underlying23 Try.underlying5 (want_tt 56 131 1 rfl (by kernel_rfl) rfl rfl rfl rfl) (opd_dep 57 132 0 rfl rfl rfl rfl) ?_
  refine VWalk.litB [97] 23 5 1 _ rfl rfl (by decide) (by decide) rfl Try.underlying23 (by kernel_rfl) (by kernel_rfl) (want_tt 56 131 2 rfl (by kernel_rfl) rfl rfl rfl rfl) ?_
  refine VWalk.mark 23 5 _ rfl Try.underlying23 Try.underlying5 (want_tt 56 131 3 rfl (by kernel_rfl) rfl rfl rfl rfl) (opd_dep 59 134 0 rfl rfl rfl rfl) ?_
  refine VWalk.lit (Fs := [_, _]) [Operand.tmp 133, Operand.tmp 135] 22 23 2 _ rfl rfl (by decide) (by decide) rfl Try.underlying22 (by kernel_rfl) (by kernel_rfl) ⟨oneCell_sl _, oneCell_sl _, trivial⟩ (want_tt 56 131 4 rfl (by kernel_rfl) rfl rfl rfl rfl) ⟨(opd_dep 58 133 2 rfl rfl rfl rfl), (opd_dep 60 135 0 rfl rfl rfl rfl), trivial⟩ ?_
  refine VWalk.call1 17 _ _ rfl (enters_of Try.func17 (by kernel_rfl) rfl) (want_tt 56 131 5 rfl (by kernel_rfl) rfl rfl rfl rfl) (opd_dep 61 136 0 rfl rfl rfl rfl) (fun v W hX hv => hsz v W hv) ?_
  refine VWalk.eqT _ _ _ _ rfl (want_tt 56 131 6 rfl (by kernel_rfl) rfl rfl rfl rfl) (opd_dep 62 137 0 rfl rfl rfl rfl) (opd_const _) rfl ?_
  refine VWalk.pickT _ _ _ rfl (want_none rfl) (opd_dep 56 131 7 rfl rfl rfl rfl) (opd_dep 63 138 0 rfl rfl rfl rfl) ?_
  refine VWalk.move _ rfl (want_none rfl) (opd_dep 64 139 0 rfl rfl rfl rfl) ?_
  refine VWalk.move _ rfl (want_tt 65 140 0 rfl (by kernel_rfl) rfl rfl rfl rfl) (opd_fr 4 rfl hv3_4 (Ext.rf _) (by kernel_rfl)) ?_
  refine VWalk.move _ rfl (want_tt 65 140 1 rfl (by kernel_rfl) rfl rfl rfl rfl) (opd_fr 4 rfl hv3_4 (Ext.rf _) (by kernel_rfl)) ?_
  refine VWalk.call2 18 _ _ _ rfl (enters_of Try.func18 (by kernel_rfl) rfl) (want_tt 65 140 2 rfl (by kernel_rfl) rfl rfl rfl rfl) (opd_dep 66 141 1 rfl rfl rfl rfl) (opd_dep 67 142 0 rfl rfl rfl rfl) (fun u v W hX hu hv => pksame_any wTwo wTwo u v W hu hv) ?_
  refine VWalk.headT (by decide) ?_
  refine VWalk.pickT _ _ _ rfl (want_none rfl) (opd_dep 65 140 3 rfl rfl rfl rfl) (opd_dep 68 143 0 rfl rfl rfl rfl) ?_
  refine VWalk.move _ rfl (want_none rfl) (opd_dep 69 144 0 rfl rfl rfl rfl) ?_
  refine VWalk.move _ rfl (want_tt 70 145 0 rfl (by kernel_rfl) rfl rfl rfl rfl) (opd_fr 4 rfl hv3_4 (Ext.rf _) (by kernel_rfl)) ?_
  refine VWalk.call2 18 _ _ _ rfl (enters_of Try.func18 (by kernel_rfl) rfl) (want_tt 70 145 1 rfl (by kernel_rfl) rfl rfl rfl rfl) (opd_dep 71 146 0 rfl rfl rfl rfl) opd_nils (fun u v W hX hu hv => pksame_any wTwo [] u v W hu hv) ?_
  refine VWalk.headF (by decide) ?_
  refine VWalk.notB _ _ rfl (want_tt 70 145 2 rfl (by kernel_rfl) rfl rfl rfl rfl) (opd_dep 72 147 0 rfl rfl rfl rfl) rfl ?_
  refine VWalk.pickT _ _ _ rfl (want_none rfl) (opd_dep 70 145 3 rfl rfl rfl rfl) (opd_dep 73 148 0 rfl rfl rfl rfl) ?_
  refine ⟨rfl, rfl, rfl, fun W11 hE11 => ?_⟩
  exact Ret.mk (hE.tr hE11) rfl
end Go.Proofs.Ytggjkhldknppkaa
