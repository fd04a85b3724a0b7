/- LetterTells, walked. -/
import Derived.Test.YtnkagcaipndljaaLetW
import Derived.Test.YtnkagcaipndljaaLetG
import Derived.Deep.Cut
namespace Go.Proofs.Ytnkagcaipndljaa
open Go.RowKit LetM
theorem flat_mem_le {ps : List (List UInt8)} {b : List UInt8} (h : b ∈ ps) : b.length ≤ ps.flatten.length := by
  induction ps with
  | nil => simp at h
  | cons p ps ih =>
    rw [List.flatten_cons, List.length_append]
    rcases List.mem_cons.1 h with rfl | h
    · omega
    · have := ih h; omega
set_option maxRecDepth 100000 in
set_option maxHeartbeats 4000000 in
theorem letterTells_any (fold : Bool) (c : UInt8) (xs ys : List UInt8) (place : Int) (ps : List (List UInt8)) (va vb vp : Value) (w : World) (hA : VBytes xs va w) (hB : VBytes ys vb w) (hP : VParts ps vp w) : Calls Try.prog 3 #[.bool fold, byteV c, va, vb, .int .i64 place, vp] w (Ret w (VEq (.bool true))) := by
  obtain ⟨A1, c1, rfl, -⟩ := VBytes.form hA
  obtain ⟨A2, c2, rfl, -⟩ := VBytes.form hB
  go_enter Try.func3, Try.ntmps3
  by_cases hla : (400 : Int) < xs.length
  · go_upto_region 2 with (fail)
    refine vregion0 1 (by kernel_rfl) ?_
    refine VWalk.call0 9 _ rfl (enters_of Try.func9 (by kernel_rfl) rfl) (want_none rfl) c_wakes ?_
    refine ⟨rfl, fun W2 hE2 => ?_⟩
    refine VFin.eq ?_  -- 0
    refine VFin.nil ?_
    simp only [Act.put, List.setIfInBounds_toArray, List.set_cons_zero, List.set_cons_succ]
    have hA := VP.st _ _ _ _ hA hE2
    have hB := VP.st _ _ _ _ hB hE2
    have hP := VP.st _ _ _ _ hP hE2
    have hE := hE2
    go_wp2
    go_ret
    exact Ret.mk hE rfl
  have hla' : xs.length ≤ 400 := by omega
  by_cases hlb : (400 : Int) < ys.length
  · go_upto_region 2 with (fail)
    refine vregion0 1 (by kernel_rfl) ?_
    refine VWalk.call0 9 _ rfl (enters_of Try.func9 (by kernel_rfl) rfl) (want_none rfl) c_wakes ?_
    refine ⟨rfl, fun W2 hE2 => ?_⟩
    refine VFin.eq ?_  -- 0
    refine VFin.nil ?_
    simp only [Act.put, List.setIfInBounds_toArray, List.set_cons_zero, List.set_cons_succ]
    have hA := VP.st _ _ _ _ hA hE2
    have hB := VP.st _ _ _ _ hB hE2
    have hP := VP.st _ _ _ _ hP hE2
    have hE := hE2
    go_wp2
    go_ret
    exact Ret.mk hE rfl
  have hlb' : ys.length ≤ 400 := by omega
  go_wp2_with fail
  refine (great_any ps _ _ hP).mono ?_
  rintro e W1 ⟨v, rfl, hE, rfl⟩
  have hA := VP.st _ _ _ _ hA hE
  have hB := VP.st _ _ _ _ hB hE
  have hP := VP.st _ _ _ _ hP hE
  by_cases hg : greatB ps = true
  · rw [hg]
    go_upto_region 2 with (fail)
    refine vregion0 1 (by kernel_rfl) ?_
    refine VWalk.call0 9 _ rfl (enters_of Try.func9 (by kernel_rfl) rfl) (want_none rfl) c_wakes ?_
    refine ⟨rfl, fun W2 hE2 => ?_⟩
    refine VFin.eq ?_  -- 0
    refine VFin.nil ?_
    simp only [Act.put, List.setIfInBounds_toArray, List.set_cons_zero, List.set_cons_succ]
    have hA := VP.st _ _ _ _ hA hE2
    have hB := VP.st _ _ _ _ hB hE2
    have hP := VP.st _ _ _ _ hP hE2
    have hE := hE.tr hE2
    go_wp2
    go_ret
    exact Ret.mk hE rfl
  have hg' : greatB ps = false := by simpa using hg
  rw [hg']
  obtain ⟨-, hfl⟩ := greatB_false hg'
  have hws : ∀ b ∈ ps, b.length ≤ 1000000 := fun b hb => by
    have := flat_mem_le hb
    omega
  clear hla hlb hg hg'
  go_upto_region 3 with (fail)
  refine law_end (r := .bool true) (by assumption) 61 [] 12 86 _ (by kernel_rfl) (by kernel_rfl) (fun _ _ _ _ _ h => h) rfl rfl rfl rfl rfl (by kernel_rfl) rfl 60 rfl rfl ?_
  refine VWalk.move _ rfl (want_none rfl) (opd_frame 1 rfl (by kernel_rfl)) ?_
  refine VWalk.call1 10 _ _ rfl (enters_of Try.func10 (by kernel_rfl) rfl) (want_none rfl) (opd_dep 0 26 0 rfl rfl rfl rfl) (c_fold _) ?_
  refine VWalk.move _ rfl (want_none rfl) (opd_frame 1 rfl (by kernel_rfl)) ?_
  refine VWalk.call1 11 _ _ rfl (enters_of Try.func11 (by kernel_rfl) rfl) (want_none rfl) (opd_dep 2 28 0 rfl rfl rfl rfl) (c_rfold _) ?_
  refine VWalk.eqT _ _ _ _ rfl (want_none rfl) (opd_dep 1 27 2 rfl rfl rfl rfl) (opd_dep 3 29 0 rfl rfl rfl rfl) rfl ?_
  refine VWalk.move _ rfl (want_none rfl) (opd_dep 4 30 0 rfl rfl rfl rfl) ?_
  refine VWalk.move _ rfl (want_tt 5 31 0 rfl (by kernel_rfl) rfl rfl rfl rfl) (opd_fr 2 rfl hA (ext_drew _) (by kernel_rfl)) ?_
  refine VWalk.call1 12 _ _ rfl (enters_of Try.func12 (by kernel_rfl) rfl) (want_tt 5 31 1 rfl (by kernel_rfl) rfl rfl rfl rfl) (opd_dep 6 32 0 rfl rfl rfl rfl) (c_folded _ (by omega)) ?_
  refine VWalk.string 22 9 5 _ rfl Try.underlying22 Try.underlying5 Try.underlying9 (want_tt 5 31 2 rfl (by kernel_rfl) rfl rfl rfl rfl) (opd_dep 7 33 0 rfl rfl rfl rfl) ?_
  refine VWalk.move _ rfl (want_tt 5 31 3 rfl (by kernel_rfl) rfl rfl rfl rfl) (opd_fr 2 rfl hA (ext_drew _) (by kernel_rfl)) ?_
  refine VWalk.call1 13 _ _ rfl (enters_of Try.func13 (by kernel_rfl) rfl) (want_tt 5 31 4 rfl (by kernel_rfl) rfl rfl rfl rfl) (opd_dep 9 35 0 rfl rfl rfl rfl) (c_rfolded _ (by omega)) ?_
  refine VWalk.string 22 9 5 _ rfl Try.underlying22 Try.underlying5 Try.underlying9 (want_tt 5 31 5 rfl (by kernel_rfl) rfl rfl rfl rfl) (opd_dep 10 36 0 rfl rfl rfl rfl) ?_
  refine VWalk.eqTs _ _ _ _ rfl (want_tt 5 31 6 rfl (by kernel_rfl) rfl rfl rfl rfl) (opd_dep 8 34 3 rfl rfl rfl rfl) (opd_dep 11 37 0 rfl rfl rfl rfl) rfl ?_
  refine VWalk.pickT _ _ _ rfl (want_none rfl) (opd_dep 5 31 7 rfl rfl rfl rfl) (opd_dep 12 38 0 rfl rfl rfl rfl) ?_
  refine VWalk.move _ rfl (want_none rfl) (opd_dep 13 39 0 rfl rfl rfl rfl) ?_
  refine VWalk.move _ rfl (want_tt 14 40 0 rfl (by kernel_rfl) rfl rfl rfl rfl) (opd_frame 0 rfl (by kernel_rfl)) ?_
  refine VWalk.move _ rfl (want_tt 14 40 1 rfl (by kernel_rfl) rfl rfl rfl rfl) (opd_fr 2 rfl hA (ext_drew _) (by kernel_rfl)) ?_
  refine VWalk.move _ rfl (want_tt 14 40 2 rfl (by kernel_rfl) rfl rfl rfl rfl) (opd_fr 3 rfl hB (ext_drew _) (by kernel_rfl)) ?_
  refine VWalk.call3 14 _ _ _ _ rfl (enters_of Try.func14 (by kernel_rfl) rfl) (want_tt 14 40 3 rfl (by kernel_rfl) rfl rfl rfl rfl) (opd_dep 15 41 2 rfl rfl rfl rfl) (opd_dep 16 42 1 rfl rfl rfl rfl) (opd_dep 17 43 0 rfl rfl rfl rfl) (c_same _ _ _) ?_
  refine VWalk.move _ rfl (want_tt 14 40 4 rfl (by kernel_rfl) rfl rfl rfl rfl) (opd_frame 0 rfl (by kernel_rfl)) ?_
  refine VWalk.move _ rfl (want_tt 14 40 5 rfl (by kernel_rfl) rfl rfl rfl rfl) (opd_fr 2 rfl hA (ext_drew _) (by kernel_rfl)) ?_
  refine VWalk.move _ rfl (want_tt 14 40 6 rfl (by kernel_rfl) rfl rfl rfl rfl) (opd_fr 3 rfl hB (ext_drew _) (by kernel_rfl)) ?_
  refine VWalk.call3 15 _ _ _ _ rfl (enters_of Try.func15 (by kernel_rfl) rfl) (want_tt 14 40 7 rfl (by kernel_rfl) rfl rfl rfl rfl) (opd_dep 19 45 2 rfl rfl rfl rfl) (opd_dep 20 46 1 rfl rfl rfl rfl) (opd_dep 21 47 0 rfl rfl rfl rfl) (c_rsame _ _ _ (by omega) (by omega)) ?_
  refine VWalk.eqTb _ _ _ _ rfl (want_tt 14 40 8 rfl (by kernel_rfl) rfl rfl rfl rfl) (opd_dep 18 44 4 rfl rfl rfl rfl) (opd_dep 22 48 0 rfl rfl rfl rfl) Try.underlying4 rfl ?_
  refine VWalk.pickT _ _ _ rfl (want_none rfl) (opd_dep 14 40 9 rfl rfl rfl rfl) (opd_dep 23 49 0 rfl rfl rfl rfl) ?_
  refine VWalk.move _ rfl (want_none rfl) (opd_dep 24 50 0 rfl rfl rfl rfl) ?_
  refine VWalk.move _ rfl (want_tt 25 51 0 rfl (by kernel_rfl) rfl rfl rfl rfl) (opd_frame 0 rfl (by kernel_rfl)) ?_
  refine VWalk.move _ rfl (want_tt 25 51 1 rfl (by kernel_rfl) rfl rfl rfl rfl) (opd_fr 2 rfl hA (ext_drew _) (by kernel_rfl)) ?_
  refine VWalk.move _ rfl (want_tt 25 51 2 rfl (by kernel_rfl) rfl rfl rfl rfl) (opd_frame 4 rfl (by kernel_rfl)) ?_
  refine VWalk.move _ rfl (want_tt 25 51 3 rfl (by kernel_rfl) rfl rfl rfl rfl) (opd_fr 3 rfl hB (ext_drew _) (by kernel_rfl)) ?_
  refine VWalk.call4 16 _ _ _ _ _ rfl (enters_of Try.func16 (by kernel_rfl) rfl) (want_tt 25 51 4 rfl (by kernel_rfl) rfl rfl rfl rfl) (opd_dep 26 52 3 rfl rfl rfl rfl) (opd_dep 27 53 2 rfl rfl rfl rfl) (opd_dep 28 54 1 rfl rfl rfl rfl) (opd_dep 29 55 0 rfl rfl rfl rfl) (c_at _ _ _ _) ?_
  refine VWalk.move _ rfl (want_tt 25 51 5 rfl (by kernel_rfl) rfl rfl rfl rfl) (opd_frame 0 rfl (by kernel_rfl)) ?_
  refine VWalk.move _ rfl (want_tt 25 51 6 rfl (by kernel_rfl) rfl rfl rfl rfl) (opd_fr 2 rfl hA (ext_drew _) (by kernel_rfl)) ?_
  refine VWalk.move _ rfl (want_tt 25 51 7 rfl (by kernel_rfl) rfl rfl rfl rfl) (opd_frame 4 rfl (by kernel_rfl)) ?_
  refine VWalk.move _ rfl (want_tt 25 51 8 rfl (by kernel_rfl) rfl rfl rfl rfl) (opd_fr 3 rfl hB (ext_drew _) (by kernel_rfl)) ?_
  refine VWalk.call4 17 _ _ _ _ _ rfl (enters_of Try.func17 (by kernel_rfl) rfl) (want_tt 25 51 9 rfl (by kernel_rfl) rfl rfl rfl rfl) (opd_dep 31 57 3 rfl rfl rfl rfl) (opd_dep 32 58 2 rfl rfl rfl rfl) (opd_dep 33 59 1 rfl rfl rfl rfl) (opd_dep 34 60 0 rfl rfl rfl rfl) (c_rat _ _ _ _ (by omega)) ?_
  refine VWalk.eqTb _ _ _ _ rfl (want_tt 25 51 10 rfl (by kernel_rfl) rfl rfl rfl rfl) (opd_dep 30 56 5 rfl rfl rfl rfl) (opd_dep 35 61 0 rfl rfl rfl rfl) Try.underlying4 rfl ?_
  refine VWalk.pickT _ _ _ rfl (want_none rfl) (opd_dep 25 51 11 rfl rfl rfl rfl) (opd_dep 36 62 0 rfl rfl rfl rfl) ?_
  refine VWalk.move _ rfl (want_none rfl) (opd_dep 37 63 0 rfl rfl rfl rfl) ?_
  refine VWalk.move _ rfl (want_tt 38 64 0 rfl (by kernel_rfl) rfl rfl rfl rfl) (opd_frame 0 rfl (by kernel_rfl)) ?_
  refine VWalk.move _ rfl (want_tt 38 64 1 rfl (by kernel_rfl) rfl rfl rfl rfl) (opd_fr 2 rfl hA (ext_drew _) (by kernel_rfl)) ?_
  refine VWalk.move _ rfl (want_tt 38 64 2 rfl (by kernel_rfl) rfl rfl rfl rfl) (opd_fr 5 rfl hP (ext_drew _) (by kernel_rfl)) ?_
  refine VWalk.call3 18 _ _ _ _ rfl (enters_of Try.func18 (by kernel_rfl) rfl) (want_tt 38 64 3 rfl (by kernel_rfl) rfl rfl rfl rfl) (opd_dep 39 65 2 rfl rfl rfl rfl) (opd_dep 40 66 1 rfl rfl rfl rfl) (opd_dep 41 67 0 rfl rfl rfl rfl) (c_which _ _ ps) ?_
  refine VWalk.move _ rfl (want_tt 38 64 4 rfl (by kernel_rfl) rfl rfl rfl rfl) (opd_frame 0 rfl (by kernel_rfl)) ?_
  refine VWalk.move _ rfl (want_tt 38 64 5 rfl (by kernel_rfl) rfl rfl rfl rfl) (opd_fr 2 rfl hA (ext_drew _) (by kernel_rfl)) ?_
  refine VWalk.move _ rfl (want_tt 38 64 6 rfl (by kernel_rfl) rfl rfl rfl rfl) (opd_fr 5 rfl hP (ext_drew _) (by kernel_rfl)) ?_
  refine VWalk.call3 19 _ _ _ _ rfl (enters_of Try.func19 (by kernel_rfl) rfl) (want_tt 38 64 7 rfl (by kernel_rfl) rfl rfl rfl rfl) (opd_dep 43 69 2 rfl rfl rfl rfl) (opd_dep 44 70 1 rfl rfl rfl rfl) (opd_dep 45 71 0 rfl rfl rfl rfl) (c_rwhich _ _ ps (by omega) hws) ?_
  refine VWalk.eqT _ _ _ _ rfl (want_tt 38 64 8 rfl (by kernel_rfl) rfl rfl rfl rfl) (opd_dep 42 68 4 rfl rfl rfl rfl) (opd_dep 46 72 0 rfl rfl rfl rfl) rfl ?_
  refine VWalk.pickT _ _ _ rfl (want_none rfl) (opd_dep 38 64 9 rfl rfl rfl rfl) (opd_dep 47 73 0 rfl rfl rfl rfl) ?_
  refine VWalk.move _ rfl (want_none rfl) (opd_dep 48 74 0 rfl rfl rfl rfl) ?_
  refine VWalk.move _ rfl (want_tt 49 75 0 rfl (by kernel_rfl) rfl rfl rfl rfl) (opd_fr 5 rfl hP (ext_drew _) (by kernel_rfl)) ?_
  refine VWalk.call1 20 _ _ rfl (enters_of Try.func20 (by kernel_rfl) rfl) (want_tt 49 75 1 rfl (by kernel_rfl) rfl rfl rfl rfl) (opd_dep 50 76 0 rfl rfl rfl rfl) (c_join ps (by omega)) ?_
  refine VWalk.string 22 9 5 _ rfl Try.underlying22 Try.underlying5 Try.underlying9 (want_tt 49 75 2 rfl (by kernel_rfl) rfl rfl rfl rfl) (opd_dep 51 77 0 rfl rfl rfl rfl) ?_
  refine VWalk.move _ rfl (want_tt 49 75 3 rfl (by kernel_rfl) rfl rfl rfl rfl) (opd_fr 5 rfl hP (ext_drew _) (by kernel_rfl)) ?_
  refine VWalk.call1 21 _ _ rfl (enters_of Try.func21 (by kernel_rfl) rfl) (want_tt 49 75 4 rfl (by kernel_rfl) rfl rfl rfl rfl) (opd_dep 53 79 0 rfl rfl rfl rfl) (c_rjoin ps (by omega)) ?_
  refine VWalk.string 22 9 5 _ rfl Try.underlying22 Try.underlying5 Try.underlying9 (want_tt 49 75 5 rfl (by kernel_rfl) rfl rfl rfl rfl) (opd_dep 54 80 0 rfl rfl rfl rfl) ?_
  refine VWalk.eqTs _ _ _ _ rfl (want_tt 49 75 6 rfl (by kernel_rfl) rfl rfl rfl rfl) (opd_dep 52 78 3 rfl rfl rfl rfl) (opd_dep 55 81 0 rfl rfl rfl rfl) rfl ?_
  refine VWalk.pickT _ _ _ rfl (want_none rfl) (opd_dep 49 75 7 rfl rfl rfl rfl) (opd_dep 56 82 0 rfl rfl rfl rfl) ?_
  refine VWalk.move _ rfl (want_none rfl) (opd_dep 57 83 0 rfl rfl rfl rfl) ?_
  refine VWalk.call0 9 _ rfl (enters_of Try.func9 (by kernel_rfl) rfl) (want_tt 58 84 0 rfl (by kernel_rfl) rfl rfl rfl rfl) c_wakes ?_
  refine VWalk.pickT _ _ _ rfl (want_none rfl) (opd_dep 58 84 1 rfl rfl rfl rfl) (opd_dep 59 85 0 rfl rfl rfl rfl) ?_
  refine ⟨rfl, rfl, rfl, fun W3 hE3 => ?_⟩
  exact Ret.mk (hE.tr ((ext_drew _).tr hE3)) rfl
end Go.Proofs.Ytnkagcaipndljaa
