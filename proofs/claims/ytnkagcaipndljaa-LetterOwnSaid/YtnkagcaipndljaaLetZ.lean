/- LetterOwn, walked. -/
import Derived.Test.YtnkagcaipndljaaLetT
import Derived.Laws.Bits64
import Derived.Deep.Cut
namespace Go.Proofs.Ytnkagcaipndljaa
open Go.RowKit LetM
theorem bits_xor_u8 (x y : UInt8) : bits .xor .u8 (x.toNat : Int) (y.toNat : Int) = ((x ^^^ y).toNat : Int) := by
  have hx := x.toNat_lt
  have hy := y.toNat_lt
  have hz := (x ^^^ y).toNat_lt
  have h1 : (BitVec.ofInt IntKind.u8.bits (x.toNat : Int)).toNat = x.toNat := by
    show (BitVec.ofInt 8 (x.toNat : Int)).toNat = x.toNat
    rw [BitVec.toNat_ofInt]; omega
  have h2 : (BitVec.ofInt IntKind.u8.bits (y.toNat : Int)).toNat = y.toNat := by
    show (BitVec.ofInt 8 (y.toNat : Int)).toNat = y.toNat
    rw [BitVec.toNat_ofInt]; omega
  have h3 : (x ^^^ y).toNat = x.toNat ^^^ y.toNat := UInt8.toNat_xor x y
  unfold bits
  simp only []
  rw [BitVec.toNat_xor, h1, h2, ← h3]
  exact IntWalk.u8_in _ (by omega)
theorem bits_xor_255 (x : UInt8) : bits .xor .u8 (x.toNat : Int) 255 = ((x ^^^ 255).toNat : Int) := bits_xor_u8 x 255
set_option maxRecDepth 100000 in
set_option maxHeartbeats 4000000 in
theorem letterOwn_any (ps : List (List UInt8)) (vp : Value) (w : World) (hP : VParts ps vp w) : Calls Try.prog 7 #[vp] w (Ret w (VEq (.bool true))) := by
  have hP0 := hP
  obtain ⟨A1, c1, rfl, -⟩ := VParts.form hP
  go_enter Try.func7, Try.ntmps7
  go_wp2_with fail
  refine (great_any ps _ _ hP).mono ?_
  rintro e W1 ⟨v, rfl, hE, rfl⟩
  have hP := VP.st _ _ _ _ hP hE
  by_cases hg : greatB ps = true
  · rw [hg]
    go_upto_region 2 with (fail)
    refine vregion0 1 (by kernel_rfl) ?_
    refine VWalk.call0 9 _ rfl (enters_of Try.func9 (by kernel_rfl) rfl) (want_none rfl) c_wakes ?_
    refine ⟨rfl, fun W2 hE2 => ?_⟩
    refine VFin.eq ?_  -- 0
    refine VFin.nil ?_
    simp only [Act.put, List.setIfInBounds_toArray, List.set_cons_zero, List.set_cons_succ]
    have hP := VP.st _ _ _ _ hP hE2
    have hE := hE.tr hE2
    go_wp2
    go_ret
    exact Ret.mk hE rfl
  have hg' : greatB ps = false := by simpa using hg
  rw [hg']
  obtain ⟨hpl, hfl⟩ := greatB_false hg'
  have hws : ∀ b ∈ ps, b.length ≤ 3000 := fun b hb => by
    have := flat_mem_le hb
    omega
  clear hg hg'
  go_upto_region 3 with (fail)
  refine vregion0 3 (by kernel_rfl) ?_
  refine VWalk.move _ rfl (want_none rfl) (opd_fr 0 rfl hP (Ext.rf _) (by kernel_rfl)) ?_
  refine VWalk.call1 21 _ _ rfl (enters_of Try.func21 (by kernel_rfl) rfl) (want_none rfl) (opd_dep 0 12 0 rfl rfl rfl rfl) (c_rjoin ps (by omega)) ?_
  refine VWalk.string 22 9 5 _ rfl Try.underlying22 Try.underlying5 Try.underlying9 (want_none rfl) (opd_dep 1 13 0 rfl rfl rfl rfl) ?_
  refine ⟨rfl, fun W3 hE3 => ?_⟩
  refine VFin.any fun v3_0 hv3_0 => ?_
  refine VFin.any fun v3_1 hv3_1 => ?_
  refine VFin.eq ?_  -- 2
  refine VFin.nil ?_
  simp only [Act.put, List.setIfInBounds_toArray, List.set_cons_zero, List.set_cons_succ]
  clear hv3_0 hv3_1
  have hP := VP.st _ _ _ _ hP hE3
  have hE := hE.tr hE3
  obtain ⟨J, hJ⟩ : ∃ J, J = ps.flatten := ⟨_, rfl⟩
  have hjoin := join_any ps _ W3 hP (by omega)
  rw [← hJ] at hjoin ⊢
  rw [← hJ] at hfl
  have hJ3 : J.length ≤ 1000000 := by omega
  have HJ := hide hJ
  clear hJ
  go_wp2_with fail
  refine hjoin.mono ?_
  rintro e W4 ⟨v, rfl, hE4, hO⟩
  clear hjoin
  have hP3 := hP
  have hE3' := hE
  obtain ⟨A3, c3, rfl⟩ := OwnB.form hO
  obtain ⟨n, hn⟩ : ∃ n, n = J.length := ⟨_, rfl⟩
  rw [← hn] at hfl hO ⊢
  have hO : ∃ bs : List UInt8, bs.length = n ∧ OwnB W4 W3.heap.size 5 (.slice A3 n c3) bs := ⟨J, hn.symm, hO⟩
  have HO := hide hO
  clear hO hn
  go_wp2
  go_loopw [5] (fun i wr => ∃ k : Nat, k ≤ n ∧ i = .int .i64 k ∧ Hid (∃ bs : List UInt8, bs.length = n ∧ OwnB wr W3.heap.size 5 (.slice A3 n c3) bs) ∧ Below W3.heap.size W3 wr) (fun i _ => n - (intOf i).toNat)
  case atStart => exact ⟨0, by omega, rfl, HO, hE4⟩
  case round =>
    clear HO
    obtain ⟨k, hk, rfl, HO, hR⟩ := hrel
    have hP := VP.st _ _ _ _ hP3 hR
    have hE := hE3'.tr hR
    by_cases hlt : k < n
    · obtain ⟨bs, rfl, hO⟩ := HO.out
      obtain ⟨g, cap, cur, hv, hbg, hx, hl, hm, hsz, htk⟩ := OwnB.row hO (by omega)
      cases hv
      have hc := (hx.cell k).trans (row_at htk hlt)
      have hfz := hx.frozen k
      unfold byteV at hc
      go_wp2
      rw [bits_xor_255]
      refine ⟨⟨k + 1, by omega, by go_num, ⟨bs.set k (bs[k] ^^^ 255), by simp, ?_⟩, Below.setCell hR (p := ⟨g, k, none⟩) hbg _⟩, by simp [intOf]; omega⟩
      exact OwnB.put hbg hx hl hm hsz htk k (bs[k] ^^^ 255)
    · obtain rfl : k = n := by omega
      go_wp2
      go_loopw [6] (fun i wr2 => ∃ j : Nat, j ≤ ps.length ∧ i = .int .i64 j ∧ Below w.heap.size w wr2) (fun i _ => ps.length - (intOf i).toNat)
      case atStart => exact ⟨0, by omega, rfl, hE⟩
      case round =>
        obtain ⟨j, hj, rfl, hR2⟩ := hrel
        generalize wr = wr2 at *
        have hP := VP.st _ _ _ _ hP0 hR2
        by_cases hlt2 : j < ps.length
        · obtain ⟨A, c, hform, -, -, hx⟩ := VParts.form hP
          cases hform
          obtain ⟨b, off, rfl, hb, hcell⟩ := hx (by omega)
          obtain ⟨x, hx1, hx2⟩ := hcell j hlt2
          have hbl := hws _ (List.getElem_mem hlt2)
          have hfold := foldeds_any ps[j] x wr2 hx2 (by omega)
          obtain ⟨A5, c5, rfl, -⟩ := VBytes.form hx2
          clear hcell hx hx2
          go_wp2_with fail
          refine hfold.mono ?_
          rintro e W5 ⟨v, rfl, hE5, hO5⟩
          clear hfold
          obtain ⟨A6, c6, rfl⟩ := OwnB.form hO5
          obtain ⟨n6, hn6⟩ : ∃ n, n = (folds ps[j]).length := ⟨_, rfl⟩
          rw [← hn6] at hO5 ⊢
          have hn7 : n6 ≤ 3000 := by rw [hn6, folds_length]; exact hbl
          have HO6 : Hid (∃ bs : List UInt8, bs.length = n6 ∧ OwnB W5 wr2.heap.size 5 (.slice A6 n6 c6) bs) := ⟨_, hn6.symm, hO5⟩
          clear hO5 hn6 hx1
          go_wp2
          go_loopw [8] (fun i wr3 => ∃ q : Nat, q ≤ n6 ∧ i = .int .i64 q ∧ Hid (∃ bs : List UInt8, bs.length = n6 ∧ OwnB wr3 wr2.heap.size 5 (.slice A6 n6 c6) bs) ∧ Below wr2.heap.size wr2 wr3) (fun i _ => n6 - (intOf i).toNat)
          case atStart => exact ⟨0, by omega, rfl, HO6, hE5⟩
          case round =>
            clear HO6
            obtain ⟨q, hq, rfl, HO6, hR3⟩ := hrel
            by_cases hlt3 : q < n6
            · obtain ⟨bs, rfl, hO⟩ := HO6.out
              obtain ⟨g, cap, cur, hv, hbg, hx, hl, hm, hsz, htk⟩ := OwnB.row hO (by omega)
              cases hv
              have hc := (hx.cell q).trans (row_at htk hlt3)
              have hfz := hx.frozen q
              unfold byteV at hc
              go_wp2
              rw [bits_xor_255]
              refine ⟨⟨q + 1, by omega, by go_num, ⟨bs.set q (bs[q] ^^^ 255), by simp, ?_⟩, Below.setCell hR3 (p := ⟨g, q, none⟩) hbg _⟩, by simp [intOf]; omega⟩
              exact OwnB.put hbg hx hl hm hsz htk q (bs[q] ^^^ 255)
            · obtain rfl : q = n6 := by omega
              go_wp2
              exact ⟨⟨j + 1, by omega, by go_num, Ext.tr hR2 hR3⟩, by simp [intOf]; omega⟩
        · obtain rfl : j = ps.length := by omega
          have hE : Ext w wr2 := hR2
          go_upto_region 17 with (fail)
          refine law_end0 (r := .bool true) (by assumption) 8 2 63 _ (by kernel_rfl) rfl rfl rfl rfl rfl (by kernel_rfl) rfl 7 rfl rfl ?_
          refine VWalk.move _ rfl (want_none rfl) (opd_fr 0 rfl hP (Ext.rf _) (by kernel_rfl)) ?_
          refine VWalk.call1 21 _ _ rfl (enters_of Try.func21 (by kernel_rfl) rfl) (want_none rfl) (opd_dep 0 56 0 rfl rfl rfl rfl) (c_rjoin ps (by rw [← HJ.out]; exact hJ3)) ?_
          refine VWalk.string 22 9 5 _ rfl Try.underlying22 Try.underlying5 Try.underlying9 (want_none rfl) (opd_dep 1 57 0 rfl rfl rfl rfl) ?_
          refine VWalk.move _ rfl (want_none rfl) (opd_frame 3 rfl (by kernel_rfl)) ?_
          refine VWalk.eqTs _ _ _ _ rfl (want_none rfl) (opd_dep 2 58 1 rfl rfl rfl rfl) (opd_dep 3 59 0 rfl rfl rfl rfl) (by rw [HJ.out]) ?_
          refine VWalk.move _ rfl (want_none rfl) (opd_dep 4 60 0 rfl rfl rfl rfl) ?_
          refine VWalk.call0 9 _ rfl (enters_of Try.func9 (by kernel_rfl) rfl) (want_tt 5 61 0 rfl (by kernel_rfl) rfl rfl rfl rfl) c_wakes ?_
          refine VWalk.pickT _ _ _ rfl (want_none rfl) (opd_dep 5 61 1 rfl rfl rfl rfl) (opd_dep 6 62 0 rfl rfl rfl rfl) ?_
          refine ⟨rfl, rfl, rfl, fun W17 hE17 => ?_⟩
          exact Ret.mk (hE.tr hE17) rfl
end Go.Proofs.Ytnkagcaipndljaa
