/- The document's words, folded or as they are; how many first bytes two texts have in common. -/
import Derived.Test.YtfbamdkalamliaaRC
import Derived.Test.YtfbamdkalamliaaRMath
import Derived.Deep.Cut
namespace Go.Proofs.Ytfbamdkalamliaa
open Go.RowKit LetM SetM
set_option maxRecDepth 100000 in
set_option maxHeartbeats 1000000 in
theorem text_any (fold : Bool) (bs : List UInt8) (v : Value) (w : World) (hP : VBytes bs v w) (hlen : bs.length ≤ 1000000) : Calls Try.prog 38 #[.bool fold, v] w (RetP w (fun v w' => OwnB w' w.heap.size 5 v (textF fold bs))) := by
  obtain ⟨i0, hi, hz0, hz1, hz2⟩ := info_parts Try.infoB
  have hf := rfolded_any bs v w hP hlen
  have hP0 := hP
  obtain ⟨A, c, rfl, -⟩ := VBytes.form hP
  unfold textF
  clear hP
  cases fold
  · rw [if_neg (by decide)]
    clear hf
    go_enter Try.func38, Try.ntmps38
    go_wp2_with (at_builtin; refine wpList_append_bytes rfl _ _ 26 rfl w.heap.size 5 i0 (.int .u8 0) Try.underlying26 hi hz0 hz1 hz2 rfl (.slice (some ⟨w.heap.size, 0, none⟩) 0 0) _ [] bs rfl (OwnB.made w _ _ (Nat.le_refl _)) rfl (VP.st _ _ _ _ hP0 (ext_alloc _ _)) (by simp; omega) (by simp) ?_; intro v' w' hown hgrow hat)
    go_ret
    refine RetP.mk (below_ng (Ext.rf w) hgrow (fun k hk => OwnB.ge (OwnB.made w w.heap.size 5 (Nat.le_refl _)) k hk)) ?_
    simpa using hown
  · rw [if_pos rfl]
    go_enter Try.func38, Try.ntmps38
    go_wp2_with fail
    refine hf.mono ?_
    rintro e w2 ⟨u, rfl, hE2, hO⟩
    clear hf
    have HO := hide hO
    clear hO
    go_wp2
    go_ret
    exact RetP.mk hE2 HO.out
section
variable {w0 : World}
theorem c_text (fold : Bool) (bs : List UInt8) (h : bs.length ≤ 1000000) : ∀ u v w, Ext w0 w → VEq (.bool fold) u w → VBytes bs v w → Calls Try.prog 38 #[u, v] w (Ret w (VBytes (textF fold bs))) := fun u v w _ hu hv => by
  rw [show u = _ from hu]
  exact (text_any fold bs v w hv h).mono fun _ _ ⟨u, h1, h2, h3⟩ => ⟨u, h1, h2, OwnB.bytes h3⟩
end
set_option maxRecDepth 100000 in
set_option maxHeartbeats 1000000 in
theorem common_any (xs ys : List UInt8) (u v : Value) (w : World) (hX : VBytes xs u w) (hY : VBytes ys v w) : Calls Try.prog 47 #[u, v] w (Ret w (VEq (.int .i64 (commonN xs ys : Int)))) := by
  have hX0 := hX
  have hY0 := hY
  obtain ⟨A, c, rfl, hc1, hc2, hx⟩ := VBytes.form hX
  obtain ⟨B, d, rfl, hd1, hd2, hy⟩ := VBytes.form hY
  unfold maxLen at hc2 hd2
  clear hX hY
  go_enter Try.func47, Try.ntmps47
  go_wp2
  go_loopw [5] (fun i wr => ∃ k : Nat, k ≤ xs.length ∧ k ≤ ys.length ∧ i = .int .i64 (k : Int) ∧ Hid (∀ (i : Nat) (h1 : i < xs.length) (h2 : i < ys.length), i < k → xs[i] = ys[i]) ∧ Hid (Below w.heap.size w wr)) (fun i _ => xs.length - (intOf i).toNat)
  case atStart => exact ⟨0, by omega, by omega, rfl, hide (fun i _ _ h => by omega), hide (Ext.rf w)⟩
  case round =>
    obtain ⟨k, hk1, hk2, rfl, HS, HE⟩ := hrel
    have hE : Ext w wr := HE.out
    have hX := VP.st _ _ _ _ hX0 hE
    have hY := VP.st _ _ _ _ hY0 hE
    clear hx hy hX0 hY0
    by_cases hlt1 : k < xs.length
    · by_cases hlt2 : k < ys.length
      · by_cases heq : xs[k] = ys[k]
        · have HS2 : Hid (∀ (i : Nat) (h1 : i < xs.length) (h2 : i < ys.length), i < k + 1 → xs[i] = ys[i]) := fun i h1 h2 h3 => by
            by_cases e : i = k
            · subst e; exact heq
            · exact HS.out i h1 h2 (by omega)
          have heqv : (xs[k].toNat : Int) = (ys[k].toNat : Int) := by rw [heq]
          go_upto_region 2 with (fail)
          refine vregion 21 [] (by kernel_rfl) (by kernel_rfl) (fun _ _ _ _ _ h => h) ?_
          refine VWalk.move _ rfl (want_none rfl) (opd_frame 5 rfl (by kernel_rfl)) ?_
          refine VWalk.move _ rfl (want_none rfl) (opd_fr 0 rfl hX (ext_drew _) (by kernel_rfl)) ?_
          refine VWalk.lenB 26 5 _ rfl Try.underlying26 (want_none rfl) (opd_dep 1 7 0 rfl rfl rfl rfl) ?_
          refine VWalk.lssT _ _ _ _ rfl (want_none rfl) (opd_dep 0 6 2 rfl rfl rfl rfl) (opd_dep 2 8 0 rfl rfl rfl rfl) (by omega) ?_
          refine VWalk.move _ rfl (want_none rfl) (opd_dep 3 9 0 rfl rfl rfl rfl) ?_
          refine VWalk.move _ rfl (want_tt 4 10 0 rfl (by kernel_rfl) rfl rfl rfl rfl) (opd_frame 5 rfl (by kernel_rfl)) ?_
          refine VWalk.move _ rfl (want_tt 4 10 1 rfl (by kernel_rfl) rfl rfl rfl rfl) (opd_fr 1 rfl hY (ext_drew _) (by kernel_rfl)) ?_
          refine VWalk.lenB 26 5 _ rfl Try.underlying26 (want_tt 4 10 2 rfl (by kernel_rfl) rfl rfl rfl rfl) (opd_dep 6 12 0 rfl rfl rfl rfl) ?_
          refine VWalk.lssT _ _ _ _ rfl (want_tt 4 10 3 rfl (by kernel_rfl) rfl rfl rfl rfl) (opd_dep 5 11 2 rfl rfl rfl rfl) (opd_dep 7 13 0 rfl rfl rfl rfl) (by omega) ?_
          refine VWalk.pickT _ _ _ rfl (want_none rfl) (opd_dep 4 10 4 rfl rfl rfl rfl) (opd_dep 8 14 0 rfl rfl rfl rfl) ?_
          refine VWalk.move _ rfl (want_none rfl) (opd_dep 9 15 0 rfl rfl rfl rfl) ?_
          refine VWalk.move _ rfl (want_tt 10 16 0 rfl (by kernel_rfl) rfl rfl rfl rfl) (opd_fr 0 rfl hX (ext_drew _) (by kernel_rfl)) ?_
          refine VWalk.move _ rfl (want_tt 10 16 1 rfl (by kernel_rfl) rfl rfl rfl rfl) (opd_frame 5 rfl (by kernel_rfl)) ?_
          refine VWalk.indexB 26 5 _ _ .i64 k rfl Try.underlying26 (by kernel_rfl) (want_tt 10 16 2 rfl (by kernel_rfl) rfl rfl rfl rfl) (opd_dep 11 17 1 rfl rfl rfl rfl) (opd_dep 12 18 0 rfl rfl rfl rfl) hlt1 ?_
          refine VWalk.loadP 5 _ rfl (want_tt 10 16 3 rfl (by kernel_rfl) rfl rfl rfl rfl) (opd_dep 13 19 0 rfl rfl rfl rfl) (fun _ => by kernel_rfl) ?_
          refine VWalk.move _ rfl (want_tt 10 16 4 rfl (by kernel_rfl) rfl rfl rfl rfl) (opd_fr 1 rfl hY (ext_drew _) (by kernel_rfl)) ?_
          refine VWalk.move _ rfl (want_tt 10 16 5 rfl (by kernel_rfl) rfl rfl rfl rfl) (opd_frame 5 rfl (by kernel_rfl)) ?_
          refine VWalk.indexB 26 5 _ _ .i64 k rfl Try.underlying26 (by kernel_rfl) (want_tt 10 16 6 rfl (by kernel_rfl) rfl rfl rfl rfl) (opd_dep 15 21 1 rfl rfl rfl rfl) (opd_dep 16 22 0 rfl rfl rfl rfl) hlt2 ?_
          refine VWalk.loadP 5 _ rfl (want_tt 10 16 7 rfl (by kernel_rfl) rfl rfl rfl rfl) (opd_dep 17 23 0 rfl rfl rfl rfl) (fun _ => by kernel_rfl) ?_
          refine VWalk.eqT _ _ _ _ rfl (want_tt 10 16 8 rfl (by kernel_rfl) rfl rfl rfl rfl) (opd_dep 14 20 4 rfl rfl rfl rfl) (opd_dep 18 24 0 rfl rfl rfl rfl) heqv ?_
          refine VWalk.pickT _ _ _ rfl (want_none rfl) (opd_dep 10 16 9 rfl rfl rfl rfl) (opd_dep 19 25 0 rfl rfl rfl rfl) ?_
          refine ⟨rfl, fun W2 hE2 => ?_⟩
          refine VFin.eq ?_  -- 0
          refine VFin.any fun v2_1 hv2_1 => ?_
          refine VFin.eq ?_  -- 2
          refine VFin.eq ?_  -- 3
          refine VFin.eq ?_  -- 4
          refine VFin.eq ?_  -- 5
          refine VFin.any fun v2_6 hv2_6 => ?_
          refine VFin.eq ?_  -- 7
          refine VFin.eq ?_  -- 8
          refine VFin.eq ?_  -- 9
          refine VFin.eq ?_  -- 10
          refine VFin.any fun v2_11 hv2_11 => ?_
          refine VFin.eq ?_  -- 12
          refine VFin.any fun v2_13 hv2_13 => ?_
          refine VFin.eq ?_  -- 14
          refine VFin.any fun v2_15 hv2_15 => ?_
          refine VFin.eq ?_  -- 16
          refine VFin.any fun v2_17 hv2_17 => ?_
          refine VFin.eq ?_  -- 18
          refine VFin.eq ?_  -- 19
          refine VFin.eq ?_  -- 20
          refine VFin.nil ?_
          simp only [Act.put, List.setIfInBounds_toArray, List.set_cons_zero, List.set_cons_succ]
          clear hv2_1 hv2_6 hv2_11 hv2_13 hv2_15 hv2_17
          have hX := VP.st _ _ _ _ hX ((ext_drew _).tr hE2)
          have hY := VP.st _ _ _ _ hY ((ext_drew _).tr hE2)
          have hE := hE.tr ((ext_drew _).tr hE2)
          clear heqv heq hX hY
          have HE2 : Hid (Below w.heap.size w W2) := hide hE
          go_wp2
          exact ⟨⟨k + 1, by omega, by omega, by go_num, HS2, HE2⟩, by simp [intOf]; omega⟩
        · have hres : Hid (commonN xs ys = k) := commonN_of xs ys k HS.out hk1 hk2 (fun _ _ => heq)
          have heqv : ¬ (xs[k].toNat : Int) = (ys[k].toNat : Int) := fun e => heq (UInt8.toNat_inj.1 (by omega))
          go_upto_region 2 with (fail)
          refine vregion 21 [] (by kernel_rfl) (by kernel_rfl) (fun _ _ _ _ _ h => h) ?_
          refine VWalk.move _ rfl (want_none rfl) (opd_frame 5 rfl (by kernel_rfl)) ?_
          refine VWalk.move _ rfl (want_none rfl) (opd_fr 0 rfl hX (ext_drew _) (by kernel_rfl)) ?_
          refine VWalk.lenB 26 5 _ rfl Try.underlying26 (want_none rfl) (opd_dep 1 7 0 rfl rfl rfl rfl) ?_
          refine VWalk.lssT _ _ _ _ rfl (want_none rfl) (opd_dep 0 6 2 rfl rfl rfl rfl) (opd_dep 2 8 0 rfl rfl rfl rfl) (by omega) ?_
          refine VWalk.move _ rfl (want_none rfl) (opd_dep 3 9 0 rfl rfl rfl rfl) ?_
          refine VWalk.move _ rfl (want_tt 4 10 0 rfl (by kernel_rfl) rfl rfl rfl rfl) (opd_frame 5 rfl (by kernel_rfl)) ?_
          refine VWalk.move _ rfl (want_tt 4 10 1 rfl (by kernel_rfl) rfl rfl rfl rfl) (opd_fr 1 rfl hY (ext_drew _) (by kernel_rfl)) ?_
          refine VWalk.lenB 26 5 _ rfl Try.underlying26 (want_tt 4 10 2 rfl (by kernel_rfl) rfl rfl rfl rfl) (opd_dep 6 12 0 rfl rfl rfl rfl) ?_
          refine VWalk.lssT _ _ _ _ rfl (want_tt 4 10 3 rfl (by kernel_rfl) rfl rfl rfl rfl) (opd_dep 5 11 2 rfl rfl rfl rfl) (opd_dep 7 13 0 rfl rfl rfl rfl) (by omega) ?_
          refine VWalk.pickT _ _ _ rfl (want_none rfl) (opd_dep 4 10 4 rfl rfl rfl rfl) (opd_dep 8 14 0 rfl rfl rfl rfl) ?_
          refine VWalk.move _ rfl (want_none rfl) (opd_dep 9 15 0 rfl rfl rfl rfl) ?_
          refine VWalk.move _ rfl (want_tt 10 16 0 rfl (by kernel_rfl) rfl rfl rfl rfl) (opd_fr 0 rfl hX (ext_drew _) (by kernel_rfl)) ?_
          refine VWalk.move _ rfl (want_tt 10 16 1 rfl (by kernel_rfl) rfl rfl rfl rfl) (opd_frame 5 rfl (by kernel_rfl)) ?_
          refine VWalk.indexB 26 5 _ _ .i64 k rfl Try.underlying26 (by kernel_rfl) (want_tt 10 16 2 rfl (by kernel_rfl) rfl rfl rfl rfl) (opd_dep 11 17 1 rfl rfl rfl rfl) (opd_dep 12 18 0 rfl rfl rfl rfl) hlt1 ?_
          refine VWalk.loadP 5 _ rfl (want_tt 10 16 3 rfl (by kernel_rfl) rfl rfl rfl rfl) (opd_dep 13 19 0 rfl rfl rfl rfl) (fun _ => by kernel_rfl) ?_
          refine VWalk.move _ rfl (want_tt 10 16 4 rfl (by kernel_rfl) rfl rfl rfl rfl) (opd_fr 1 rfl hY (ext_drew _) (by kernel_rfl)) ?_
          refine VWalk.move _ rfl (want_tt 10 16 5 rfl (by kernel_rfl) rfl rfl rfl rfl) (opd_frame 5 rfl (by kernel_rfl)) ?_
          refine VWalk.indexB 26 5 _ _ .i64 k rfl Try.underlying26 (by kernel_rfl) (want_tt 10 16 6 rfl (by kernel_rfl) rfl rfl rfl rfl) (opd_dep 15 21 1 rfl rfl rfl rfl) (opd_dep 16 22 0 rfl rfl rfl rfl) hlt2 ?_
          refine VWalk.loadP 5 _ rfl (want_tt 10 16 7 rfl (by kernel_rfl) rfl rfl rfl rfl) (opd_dep 17 23 0 rfl rfl rfl rfl) (fun _ => by kernel_rfl) ?_
          refine VWalk.eqT' _ _ _ _ rfl (want_tt 10 16 8 rfl (by kernel_rfl) rfl rfl rfl rfl) (opd_dep 14 20 4 rfl rfl rfl rfl) (opd_dep 18 24 0 rfl rfl rfl rfl) heqv ?_
          refine VWalk.pickT _ _ _ rfl (want_none rfl) (opd_dep 10 16 9 rfl rfl rfl rfl) (opd_dep 19 25 0 rfl rfl rfl rfl) ?_
          refine ⟨rfl, fun W2 hE2 => ?_⟩
          refine VFin.eq ?_  -- 0
          refine VFin.any fun v2_1 hv2_1 => ?_
          refine VFin.eq ?_  -- 2
          refine VFin.eq ?_  -- 3
          refine VFin.eq ?_  -- 4
          refine VFin.eq ?_  -- 5
          refine VFin.any fun v2_6 hv2_6 => ?_
          refine VFin.eq ?_  -- 7
          refine VFin.eq ?_  -- 8
          refine VFin.eq ?_  -- 9
          refine VFin.eq ?_  -- 10
          refine VFin.any fun v2_11 hv2_11 => ?_
          refine VFin.eq ?_  -- 12
          refine VFin.any fun v2_13 hv2_13 => ?_
          refine VFin.eq ?_  -- 14
          refine VFin.any fun v2_15 hv2_15 => ?_
          refine VFin.eq ?_  -- 16
          refine VFin.any fun v2_17 hv2_17 => ?_
          refine VFin.eq ?_  -- 18
          refine VFin.eq ?_  -- 19
          refine VFin.eq ?_  -- 20
          refine VFin.nil ?_
          simp only [Act.put, List.setIfInBounds_toArray, List.set_cons_zero, List.set_cons_succ]
          clear hv2_1 hv2_6 hv2_11 hv2_13 hv2_15 hv2_17
          have hX := VP.st _ _ _ _ hX ((ext_drew _).tr hE2)
          have hY := VP.st _ _ _ _ hY ((ext_drew _).tr hE2)
          have hE := hE.tr ((ext_drew _).tr hE2)
          clear heqv heq hX hY
          go_wp2
          go_ret
          exact Ret.mk hE (congrArg (fun n : Nat => Value.int .i64 (n : Int)) hres.out.symm)
      · have hres : Hid (commonN xs ys = k) := commonN_of xs ys k HS.out hk1 hk2 (fun _ h => absurd h hlt2)
        go_upto_region 2 with (fail)
        refine vregion 21 [] (by kernel_rfl) (by kernel_rfl) (fun _ _ _ _ _ h => h) ?_
        refine VWalk.move _ rfl (want_none rfl) (opd_frame 5 rfl (by kernel_rfl)) ?_
        refine VWalk.move _ rfl (want_none rfl) (opd_fr 0 rfl hX (ext_drew _) (by kernel_rfl)) ?_
        refine VWalk.lenB 26 5 _ rfl Try.underlying26 (want_none rfl) (opd_dep 1 7 0 rfl rfl rfl rfl) ?_
        refine VWalk.lssT _ _ _ _ rfl (want_none rfl) (opd_dep 0 6 2 rfl rfl rfl rfl) (opd_dep 2 8 0 rfl rfl rfl rfl) (by omega) ?_
        refine VWalk.move _ rfl (want_none rfl) (opd_dep 3 9 0 rfl rfl rfl rfl) ?_
        refine VWalk.move _ rfl (want_tt 4 10 0 rfl (by kernel_rfl) rfl rfl rfl rfl) (opd_frame 5 rfl (by kernel_rfl)) ?_
        refine VWalk.move _ rfl (want_tt 4 10 1 rfl (by kernel_rfl) rfl rfl rfl rfl) (opd_fr 1 rfl hY (ext_drew _) (by kernel_rfl)) ?_
        refine VWalk.lenB 26 5 _ rfl Try.underlying26 (want_tt 4 10 2 rfl (by kernel_rfl) rfl rfl rfl rfl) (opd_dep 6 12 0 rfl rfl rfl rfl) ?_
        refine VWalk.lssF _ _ _ _ rfl (want_tt 4 10 3 rfl (by kernel_rfl) rfl rfl rfl rfl) (opd_dep 5 11 2 rfl rfl rfl rfl) (opd_dep 7 13 0 rfl rfl rfl rfl) (by omega) ?_
        refine VWalk.pickT _ _ _ rfl (want_none rfl) (opd_dep 4 10 4 rfl rfl rfl rfl) (opd_dep 8 14 0 rfl rfl rfl rfl) ?_
        refine VWalk.move _ rfl (want_none rfl) (opd_dep 9 15 0 rfl rfl rfl rfl) ?_
        refine VWalk.skip (want_ft 10 16 0 rfl (by kernel_rfl) rfl rfl rfl rfl) ?_
        refine VWalk.skip (want_ft 10 16 1 rfl (by kernel_rfl) rfl rfl rfl rfl) ?_
        refine VWalk.skip (want_ft 10 16 2 rfl (by kernel_rfl) rfl rfl rfl rfl) ?_
        refine VWalk.skip (want_ft 10 16 3 rfl (by kernel_rfl) rfl rfl rfl rfl) ?_
        refine VWalk.skip (want_ft 10 16 4 rfl (by kernel_rfl) rfl rfl rfl rfl) ?_
        refine VWalk.skip (want_ft 10 16 5 rfl (by kernel_rfl) rfl rfl rfl rfl) ?_
        refine VWalk.skip (want_ft 10 16 6 rfl (by kernel_rfl) rfl rfl rfl rfl) ?_
        refine VWalk.skip (want_ft 10 16 7 rfl (by kernel_rfl) rfl rfl rfl rfl) ?_
        refine VWalk.skip (want_ft 10 16 8 rfl (by kernel_rfl) rfl rfl rfl rfl) ?_
        refine VWalk.pickF _ _ _ rfl (want_none rfl) (opd_dep 10 16 9 rfl rfl rfl rfl) (opd_const _) ?_
        refine ⟨rfl, fun W2 hE2 => ?_⟩
        refine VFin.eq ?_  -- 0
        refine VFin.any fun v2_1 hv2_1 => ?_
        refine VFin.eq ?_  -- 2
        refine VFin.eq ?_  -- 3
        refine VFin.eq ?_  -- 4
        refine VFin.eq ?_  -- 5
        refine VFin.any fun v2_6 hv2_6 => ?_
        refine VFin.eq ?_  -- 7
        refine VFin.eq ?_  -- 8
        refine VFin.eq ?_  -- 9
        refine VFin.eq ?_  -- 10
        refine VFin.eq ?_  -- 11
        refine VFin.eq ?_  -- 12
        refine VFin.eq ?_  -- 13
        refine VFin.eq ?_  -- 14
        refine VFin.eq ?_  -- 15
        refine VFin.eq ?_  -- 16
        refine VFin.eq ?_  -- 17
        refine VFin.eq ?_  -- 18
        refine VFin.eq ?_  -- 19
        refine VFin.eq ?_  -- 20
        refine VFin.nil ?_
        simp only [Act.put, List.setIfInBounds_toArray, List.set_cons_zero, List.set_cons_succ]
        clear hv2_1 hv2_6
        have hX := VP.st _ _ _ _ hX ((ext_drew _).tr hE2)
        have hY := VP.st _ _ _ _ hY ((ext_drew _).tr hE2)
        have hE := hE.tr ((ext_drew _).tr hE2)
        clear hX hY
        go_wp2
        go_ret
        exact Ret.mk hE (congrArg (fun n : Nat => Value.int .i64 (n : Int)) hres.out.symm)
    · have hres : Hid (commonN xs ys = k) := commonN_of xs ys k HS.out hk1 hk2 (fun h _ => absurd h hlt1)
      go_upto_region 2 with (fail)
      refine vregion 21 [] (by kernel_rfl) (by kernel_rfl) (fun _ _ _ _ _ h => h) ?_
      refine VWalk.move _ rfl (want_none rfl) (opd_frame 5 rfl (by kernel_rfl)) ?_
      refine VWalk.move _ rfl (want_none rfl) (opd_fr 0 rfl hX (ext_drew _) (by kernel_rfl)) ?_
      refine VWalk.lenB 26 5 _ rfl Try.underlying26 (want_none rfl) (opd_dep 1 7 0 rfl rfl rfl rfl) ?_
      refine VWalk.lssF _ _ _ _ rfl (want_none rfl) (opd_dep 0 6 2 rfl rfl rfl rfl) (opd_dep 2 8 0 rfl rfl rfl rfl) (by omega) ?_
      refine VWalk.move _ rfl (want_none rfl) (opd_dep 3 9 0 rfl rfl rfl rfl) ?_
      refine VWalk.skip (want_ft 4 10 0 rfl (by kernel_rfl) rfl rfl rfl rfl) ?_
      refine VWalk.skip (want_ft 4 10 1 rfl (by kernel_rfl) rfl rfl rfl rfl) ?_
      refine VWalk.skip (want_ft 4 10 2 rfl (by kernel_rfl) rfl rfl rfl rfl) ?_
      refine VWalk.skip (want_ft 4 10 3 rfl (by kernel_rfl) rfl rfl rfl rfl) ?_
      refine VWalk.pickF _ _ _ rfl (want_none rfl) (opd_dep 4 10 4 rfl rfl rfl rfl) (opd_const _) ?_
      refine VWalk.move _ rfl (want_none rfl) (opd_dep 9 15 0 rfl rfl rfl rfl) ?_
      refine VWalk.skip (want_ft 10 16 0 rfl (by kernel_rfl) rfl rfl rfl rfl) ?_
      refine VWalk.skip (want_ft 10 16 1 rfl (by kernel_rfl) rfl rfl rfl rfl) ?_
      refine VWalk.skip (want_ft 10 16 2 rfl (by kernel_rfl) rfl rfl rfl rfl) ?_
      refine VWalk.skip (want_ft 10 16 3 rfl (by kernel_rfl) rfl rfl rfl rfl) ?_
      refine VWalk.skip (want_ft 10 16 4 rfl (by kernel_rfl) rfl rfl rfl rfl) ?_
      refine VWalk.skip (want_ft 10 16 5 rfl (by kernel_rfl) rfl rfl rfl rfl) ?_
      refine VWalk.skip (want_ft 10 16 6 rfl (by kernel_rfl) rfl rfl rfl rfl) ?_
      refine VWalk.skip (want_ft 10 16 7 rfl (by kernel_rfl) rfl rfl rfl rfl) ?_
      refine VWalk.skip (want_ft 10 16 8 rfl (by kernel_rfl) rfl rfl rfl rfl) ?_
      refine VWalk.pickF _ _ _ rfl (want_none rfl) (opd_dep 10 16 9 rfl rfl rfl rfl) (opd_const _) ?_
      refine ⟨rfl, fun W2 hE2 => ?_⟩
      refine VFin.eq ?_  -- 0
      refine VFin.any fun v2_1 hv2_1 => ?_
      refine VFin.eq ?_  -- 2
      refine VFin.eq ?_  -- 3
      refine VFin.eq ?_  -- 4
      refine VFin.eq ?_  -- 5
      refine VFin.eq ?_  -- 6
      refine VFin.eq ?_  -- 7
      refine VFin.eq ?_  -- 8
      refine VFin.eq ?_  -- 9
      refine VFin.eq ?_  -- 10
      refine VFin.eq ?_  -- 11
      refine VFin.eq ?_  -- 12
      refine VFin.eq ?_  -- 13
      refine VFin.eq ?_  -- 14
      refine VFin.eq ?_  -- 15
      refine VFin.eq ?_  -- 16
      refine VFin.eq ?_  -- 17
      refine VFin.eq ?_  -- 18
      refine VFin.eq ?_  -- 19
      refine VFin.eq ?_  -- 20
      refine VFin.nil ?_
      simp only [Act.put, List.setIfInBounds_toArray, List.set_cons_zero, List.set_cons_succ]
      clear hv2_1
      have hX := VP.st _ _ _ _ hX ((ext_drew _).tr hE2)
      have hY := VP.st _ _ _ _ hY ((ext_drew _).tr hE2)
      have hE := hE.tr ((ext_drew _).tr hE2)
      clear hX hY
      go_wp2
      go_ret
      exact Ret.mk hE (congrArg (fun n : Nat => Value.int .i64 (n : Int)) hres.out.symm)
section
variable {w0 : World}
theorem c_common (xs ys : List UInt8) : ∀ u v w, Ext w0 w → VBytes xs u w → VBytes ys v w → Calls Try.prog 47 #[u, v] w (Ret w (VEq (.int .i64 (commonN xs ys : Int)))) := fun u v w _ hu hv => common_any xs ys u v w hu hv
end
end Go.Proofs.Ytfbamdkalamliaa
