/- The document's own At. -/
import Derived.Test.YtfbamdkalamliaaRB
namespace Go.Proofs.Ytfbamdkalamliaa
open Go.RowKit LetM
set_option maxRecDepth 100000 in
theorem rat_any (fold : Bool) (text word : List UInt8) (place : Int) (u v : Value) (w : World) (hx : VBytes text u w) (hy : VBytes word v w) (hw : word.length ≤ 1000000) : Calls Try.prog 19 #[.bool fold, u, .int .i64 place, v] w (Ret w (VEq (.bool (standsB fold text place word)))) := by
  obtain ⟨A, c, rfl, hc1, hc2, -⟩ := VBytes.form hx
  obtain ⟨B, d, rfl, hd1, hd2, -⟩ := VBytes.form hy
  unfold maxLen at hc2 hd2
  go_enter Try.func19, Try.ntmps19
  go_upto_region 2 with (fail)
  by_cases h1 : (word.length : Int) ≤ place
  · by_cases h2 : place ≤ (text.length : Int)
    · obtain ⟨k, rfl⟩ : ∃ k : Nat, place = (k : Int) := ⟨place.toNat, by omega⟩
      have h3 : word.length ≤ k := by omega
      have h4 : k ≤ text.length := by omega
      have hs : (k : Int) - (word.length : Int) = ((k - word.length : Nat) : Int) := by omega
      refine law_end0 (r := .bool (standsB fold text k word)) (by assumption) 20 8 31 _ (by kernel_rfl) rfl rfl rfl rfl rfl (by kernel_rfl) rfl 19 rfl rfl ?_
      refine VWalk.move _ rfl (want_none rfl) (opd_frame 2 rfl (by kernel_rfl)) ?_
      refine VWalk.move _ rfl (want_none rfl) (opd_frame 9 rfl (by kernel_rfl)) ?_
      refine VWalk.geqT _ _ _ _ rfl (want_none rfl) (opd_dep 0 12 1 rfl rfl rfl rfl) (opd_dep 1 13 0 rfl rfl rfl rfl) h1 ?_
      refine VWalk.move _ rfl (want_none rfl) (opd_dep 2 14 0 rfl rfl rfl rfl) ?_
      refine VWalk.move _ rfl (want_tt 3 15 0 rfl (by kernel_rfl) rfl rfl rfl rfl) (opd_frame 2 rfl (by kernel_rfl)) ?_
      refine VWalk.move _ rfl (want_tt 3 15 1 rfl (by kernel_rfl) rfl rfl rfl rfl) (opd_fr 1 rfl hx (Ext.rf _) (by kernel_rfl)) ?_
      refine VWalk.lenB 26 5 _ rfl Try.underlying26 (want_tt 3 15 2 rfl (by kernel_rfl) rfl rfl rfl rfl) (opd_dep 5 17 0 rfl rfl rfl rfl) ?_
      refine VWalk.leqT _ _ _ _ rfl (want_tt 3 15 3 rfl (by kernel_rfl) rfl rfl rfl rfl) (opd_dep 4 16 2 rfl rfl rfl rfl) (opd_dep 6 18 0 rfl rfl rfl rfl) h2 ?_
      refine VWalk.pickT _ _ _ rfl (want_none rfl) (opd_dep 3 15 4 rfl rfl rfl rfl) (opd_dep 7 19 0 rfl rfl rfl rfl) ?_
      refine VWalk.move _ rfl (want_none rfl) (opd_dep 8 20 0 rfl rfl rfl rfl) ?_
      refine VWalk.move _ rfl (want_tt 9 21 0 rfl (by kernel_rfl) rfl rfl rfl rfl) (opd_frame 0 rfl (by kernel_rfl)) ?_
      refine VWalk.move _ rfl (want_tt 9 21 1 rfl (by kernel_rfl) rfl rfl rfl rfl) (opd_fr 1 rfl hx (Ext.rf _) (by kernel_rfl)) ?_
      refine VWalk.move _ rfl (want_tt 9 21 2 rfl (by kernel_rfl) rfl rfl rfl rfl) (opd_frame 2 rfl (by kernel_rfl)) ?_
      refine VWalk.move _ rfl (want_tt 9 21 3 rfl (by kernel_rfl) rfl rfl rfl rfl) (opd_frame 9 rfl (by kernel_rfl)) ?_
      refine VWalk.sub64 _ _ _ _ rfl (want_tt 9 21 4 rfl (by kernel_rfl) rfl rfl rfl rfl) (opd_dep 12 24 1 rfl rfl rfl rfl) (opd_dep 13 25 0 rfl rfl rfl rfl) (by omega) ?_
      rw [hs]
      refine VWalk.move _ rfl (want_tt 9 21 5 rfl (by kernel_rfl) rfl rfl rfl rfl) (opd_frame 2 rfl (by kernel_rfl)) ?_
      refine VWalk.cut2B 26 5 _ _ _ .i64 .i64 (k - word.length) k rfl Try.underlying26 (by kernel_rfl) (want_tt 9 21 6 rfl (by kernel_rfl) rfl rfl rfl rfl) (opd_dep 11 23 4 rfl rfl rfl rfl) (opd_dep 14 26 1 rfl rfl rfl rfl) (opd_dep 15 27 0 rfl rfl rfl rfl) (by omega) h4 ?_
      refine VWalk.move _ rfl (want_tt 9 21 7 rfl (by kernel_rfl) rfl rfl rfl rfl) (opd_fr 3 rfl hy (Ext.rf _) (by kernel_rfl)) ?_
      refine VWalk.call3 20 _ _ _ _ rfl (enters_of Try.func20 (by kernel_rfl) rfl) (want_tt 9 21 8 rfl (by kernel_rfl) rfl rfl rfl rfl) (opd_dep 10 22 7 rfl rfl rfl rfl) (opd_dep 16 28 1 rfl rfl rfl rfl) (opd_dep 17 29 0 rfl rfl rfl rfl) (c_rsame fold _ word (by simp; omega) hw) ?_
      rw [← stands_yes fold text word k h3 h4]
      refine VWalk.pickT _ _ _ rfl (want_none rfl) (opd_dep 9 21 9 rfl rfl rfl rfl) (opd_dep 18 30 0 rfl rfl rfl rfl) ?_
      refine ⟨rfl, rfl, rfl, fun W2 hE2 => ?_⟩
      exact Ret.mk hE2 rfl
    · have hn := stands_no2 fold text word place (by omega)
      refine law_end0 (r := .bool false) (by assumption) 20 8 31 _ (by kernel_rfl) rfl rfl rfl rfl rfl (by kernel_rfl) rfl 19 rfl rfl ?_
      refine VWalk.move _ rfl (want_none rfl) (opd_frame 2 rfl (by kernel_rfl)) ?_
      refine VWalk.move _ rfl (want_none rfl) (opd_frame 9 rfl (by kernel_rfl)) ?_
      refine VWalk.geqT _ _ _ _ rfl (want_none rfl) (opd_dep 0 12 1 rfl rfl rfl rfl) (opd_dep 1 13 0 rfl rfl rfl rfl) h1 ?_
      refine VWalk.move _ rfl (want_none rfl) (opd_dep 2 14 0 rfl rfl rfl rfl) ?_
      refine VWalk.move _ rfl (want_tt 3 15 0 rfl (by kernel_rfl) rfl rfl rfl rfl) (opd_frame 2 rfl (by kernel_rfl)) ?_
      refine VWalk.move _ rfl (want_tt 3 15 1 rfl (by kernel_rfl) rfl rfl rfl rfl) (opd_fr 1 rfl hx (Ext.rf _) (by kernel_rfl)) ?_
      refine VWalk.lenB 26 5 _ rfl Try.underlying26 (want_tt 3 15 2 rfl (by kernel_rfl) rfl rfl rfl rfl) (opd_dep 5 17 0 rfl rfl rfl rfl) ?_
      refine VWalk.leqF _ _ _ _ rfl (want_tt 3 15 3 rfl (by kernel_rfl) rfl rfl rfl rfl) (opd_dep 4 16 2 rfl rfl rfl rfl) (opd_dep 6 18 0 rfl rfl rfl rfl) h2 ?_
      refine VWalk.pickT _ _ _ rfl (want_none rfl) (opd_dep 3 15 4 rfl rfl rfl rfl) (opd_dep 7 19 0 rfl rfl rfl rfl) ?_
      refine VWalk.move _ rfl (want_none rfl) (opd_dep 8 20 0 rfl rfl rfl rfl) ?_
      refine VWalk.skip (want_ft 9 21 0 rfl (by kernel_rfl) rfl rfl rfl rfl) ?_
      refine VWalk.skip (want_ft 9 21 1 rfl (by kernel_rfl) rfl rfl rfl rfl) ?_
      refine VWalk.skip (want_ft 9 21 2 rfl (by kernel_rfl) rfl rfl rfl rfl) ?_
      refine VWalk.skip (want_ft 9 21 3 rfl (by kernel_rfl) rfl rfl rfl rfl) ?_
      refine VWalk.skip (want_ft 9 21 4 rfl (by kernel_rfl) rfl rfl rfl rfl) ?_
      refine VWalk.skip (want_ft 9 21 5 rfl (by kernel_rfl) rfl rfl rfl rfl) ?_
      refine VWalk.skip (want_ft 9 21 6 rfl (by kernel_rfl) rfl rfl rfl rfl) ?_
      refine VWalk.skip (want_ft 9 21 7 rfl (by kernel_rfl) rfl rfl rfl rfl) ?_
      refine VWalk.skip (want_ft 9 21 8 rfl (by kernel_rfl) rfl rfl rfl rfl) ?_
      refine VWalk.pickF _ _ _ rfl (want_none rfl) (opd_dep 9 21 9 rfl rfl rfl rfl) (opd_const _) ?_
      refine ⟨rfl, rfl, rfl, fun W2 hE2 => ?_⟩
      exact Ret.mk hE2 (congrArg Value.bool hn.symm)
  · have hn := stands_no1 fold text word place (by omega)
    refine law_end0 (r := .bool false) (by assumption) 20 8 31 _ (by kernel_rfl) rfl rfl rfl rfl rfl (by kernel_rfl) rfl 19 rfl rfl ?_
    refine VWalk.move _ rfl (want_none rfl) (opd_frame 2 rfl (by kernel_rfl)) ?_
    refine VWalk.move _ rfl (want_none rfl) (opd_frame 9 rfl (by kernel_rfl)) ?_
    refine VWalk.geqF _ _ _ _ rfl (want_none rfl) (opd_dep 0 12 1 rfl rfl rfl rfl) (opd_dep 1 13 0 rfl rfl rfl rfl) h1 ?_
    refine VWalk.move _ rfl (want_none rfl) (opd_dep 2 14 0 rfl rfl rfl rfl) ?_
    refine VWalk.skip (want_ft 3 15 0 rfl (by kernel_rfl) rfl rfl rfl rfl) ?_
    refine VWalk.skip (want_ft 3 15 1 rfl (by kernel_rfl) rfl rfl rfl rfl) ?_
    refine VWalk.skip (want_ft 3 15 2 rfl (by kernel_rfl) rfl rfl rfl rfl) ?_
    refine VWalk.skip (want_ft 3 15 3 rfl (by kernel_rfl) rfl rfl rfl rfl) ?_
    refine VWalk.pickF _ _ _ rfl (want_none rfl) (opd_dep 3 15 4 rfl rfl rfl rfl) (opd_const _) ?_
    refine VWalk.move _ rfl (want_none rfl) (opd_dep 8 20 0 rfl rfl rfl rfl) ?_
    refine VWalk.skip (want_ft 9 21 0 rfl (by kernel_rfl) rfl rfl rfl rfl) ?_
    refine VWalk.skip (want_ft 9 21 1 rfl (by kernel_rfl) rfl rfl rfl rfl) ?_
    refine VWalk.skip (want_ft 9 21 2 rfl (by kernel_rfl) rfl rfl rfl rfl) ?_
    refine VWalk.skip (want_ft 9 21 3 rfl (by kernel_rfl) rfl rfl rfl rfl) ?_
    refine VWalk.skip (want_ft 9 21 4 rfl (by kernel_rfl) rfl rfl rfl rfl) ?_
    refine VWalk.skip (want_ft 9 21 5 rfl (by kernel_rfl) rfl rfl rfl rfl) ?_
    refine VWalk.skip (want_ft 9 21 6 rfl (by kernel_rfl) rfl rfl rfl rfl) ?_
    refine VWalk.skip (want_ft 9 21 7 rfl (by kernel_rfl) rfl rfl rfl rfl) ?_
    refine VWalk.skip (want_ft 9 21 8 rfl (by kernel_rfl) rfl rfl rfl rfl) ?_
    refine VWalk.pickF _ _ _ rfl (want_none rfl) (opd_dep 9 21 9 rfl rfl rfl rfl) (opd_const _) ?_
    refine ⟨rfl, rfl, rfl, fun W2 hE2 => ?_⟩
    exact Ret.mk hE2 (congrArg Value.bool hn.symm)
section
variable {w0 : World}
theorem c_rat (fold : Bool) (text word : List UInt8) (place : Int) (h : word.length ≤ 1000000) : ∀ b u x v w, Ext w0 w → VEq (.bool fold) b w → VBytes text u w → VEq (.int .i64 place) x w → VBytes word v w → Calls Try.prog 19 #[b, u, x, v] w (Ret w (VEq (.bool (standsB fold text place word)))) := fun b u x v w _ hb hu hx hv => by
  rw [show b = _ from hb, show x = _ from hx]; exact rat_any fold text word place u v w hu hv h
end
end Go.Proofs.Ytfbamdkalamliaa
