/- The document's own Same and At. -/
import Derived.Test.YtfbamdkalamliaaRA
namespace Go.Proofs.Ytfbamdkalamliaa
open Go.RowKit LetM
section
variable {w0 : World}
theorem c_rfolded (bs : List UInt8) (h : bs.length ≤ 1000000) : ∀ v w, Ext w0 w → VBytes bs v w → Calls Try.prog 28 #[v] w (Ret w (VBytes (folds bs))) := fun v w _ hv =>
  (rfolded_any bs v w hv h).mono fun _ _ ⟨u, h1, h2, h3⟩ => ⟨u, h1, h2, OwnB.bytes h3⟩
end
theorem bytes_dec (a b : List UInt8) : decide ((⟨a.toArray⟩ : ByteArray) = ⟨b.toArray⟩) = decide (a = b) := by
  rw [Bool.eq_iff_iff]
  simp only [decide_eq_true_eq]
  exact ⟨fun h => by injection h with h; exact List.toArray_inj h, fun h => by rw [h]⟩
section
variable {P : Program} {Q : Exit → Act → World → Prop} {ops : Array Oper} {M m : Nat} {a0 : Act} {w0 : World} {K : List Oper → List VP → Prop} {o : Oper} {rest : List Oper} {env : List VP}
theorem VWalk.eqTd {a b : List UInt8} (t t' : TypeId) (x y : Operand) (ho : o.op = .binOp .eql t x y t') (hw : Want ops M a0 w0 env o true) (hx : Opd ops M a0 w0 env o x (VEq (.string ⟨a.toArray⟩))) (hy : Opd ops M a0 w0 env o y (VEq (.string ⟨b.toArray⟩)))
    (hr : VWalk P Q ops M a0 w0 K m rest (VEq (.bool (decide (a = b))) :: env)) : VWalk P Q ops M a0 w0 K (m + 1) (o :: rest) env := by
  by_cases h : a = b
  · rw [show decide (a = b) = true by simpa using h] at hr
    exact VWalk.eqTs t t' x y ho hw hx hy (by rw [h]) hr
  · rw [show decide (a = b) = false by simpa using h] at hr
    exact .det2 x y hw hx hy (fun ρ w _ h1 h2 => by
      unfold execOp
      simp [ho, h1, h2, go_sem, h]) hr
end
set_option maxRecDepth 100000 in
theorem rsame_any (fold : Bool) (xs ys : List UInt8) (u v : Value) (w : World) (hx : VBytes xs u w) (hy : VBytes ys v w) (h1 : xs.length ≤ 1000000) (h2 : ys.length ≤ 1000000) : Calls Try.prog 20 #[.bool fold, u, v] w (Ret w (VEq (.bool (sameB fold xs ys)))) := by
  obtain ⟨A, c, rfl, -⟩ := VBytes.form hx
  obtain ⟨B, d, rfl, -⟩ := VBytes.form hy
  go_enter Try.func20, Try.ntmps20
  cases fold
  · go_upto_region 3 with (fail)
    refine law_end0 (r := .bool (sameB false xs ys)) (by assumption) 5 6 19 _ (by kernel_rfl) rfl rfl rfl rfl rfl (by kernel_rfl) rfl 4 rfl rfl ?_
    refine VWalk.move _ rfl (want_none rfl) (opd_fr 1 rfl hx (Ext.rf _) (by kernel_rfl)) ?_
    refine VWalk.string 26 9 5 _ rfl Try.underlying26 Try.underlying5 Try.underlying9 (want_none rfl) (opd_dep 0 15 0 rfl rfl rfl rfl) ?_
    refine VWalk.move _ rfl (want_none rfl) (opd_fr 2 rfl hy (Ext.rf _) (by kernel_rfl)) ?_
    refine VWalk.string 26 9 5 _ rfl Try.underlying26 Try.underlying5 Try.underlying9 (want_none rfl) (opd_dep 2 17 0 rfl rfl rfl rfl) ?_
    refine VWalk.eqTd _ _ _ _ rfl (want_none rfl) (opd_dep 1 16 2 rfl rfl rfl rfl) (opd_dep 3 18 0 rfl rfl rfl rfl) ?_
    refine ⟨rfl, rfl, rfl, fun W3 hE3 => ?_⟩
    exact Ret.mk hE3 rfl
  · go_upto_region 2 with (fail)
    refine vregion 7 [] (by kernel_rfl) (by kernel_rfl) (fun _ _ _ _ _ h => h) ?_
    refine VWalk.move _ rfl (want_none rfl) (opd_fr 1 rfl hx (ext_drew _) (by kernel_rfl)) ?_
    refine VWalk.call1 28 _ _ rfl (enters_of Try.func28 (by kernel_rfl) rfl) (want_none rfl) (opd_dep 0 8 0 rfl rfl rfl rfl) (c_rfolded xs h1) ?_
    refine VWalk.string 26 9 5 _ rfl Try.underlying26 Try.underlying5 Try.underlying9 (want_none rfl) (opd_dep 1 9 0 rfl rfl rfl rfl) ?_
    refine VWalk.move _ rfl (want_none rfl) (opd_fr 2 rfl hy (ext_drew _) (by kernel_rfl)) ?_
    refine VWalk.call1 28 _ _ rfl (enters_of Try.func28 (by kernel_rfl) rfl) (want_none rfl) (opd_dep 3 11 0 rfl rfl rfl rfl) (c_rfolded ys h2) ?_
    refine VWalk.string 26 9 5 _ rfl Try.underlying26 Try.underlying5 Try.underlying9 (want_none rfl) (opd_dep 4 12 0 rfl rfl rfl rfl) ?_
    refine VWalk.eqTd _ _ _ _ rfl (want_none rfl) (opd_dep 2 10 3 rfl rfl rfl rfl) (opd_dep 5 13 0 rfl rfl rfl rfl) ?_
    refine ⟨rfl, fun W2 hE2 => ?_⟩
    first | refine VFin.eq ?_ | refine VFin.any fun v2_0 hv2_0 => ?_
    first | refine VFin.eq ?_ | refine VFin.any fun v2_1 hv2_1 => ?_
    refine VFin.eq ?_  -- 2
    first | refine VFin.eq ?_ | refine VFin.any fun v2_3 hv2_3 => ?_
    first | refine VFin.eq ?_ | refine VFin.any fun v2_4 hv2_4 => ?_
    refine VFin.eq ?_  -- 5
    refine VFin.eq ?_  -- 6
    refine VFin.nil ?_
    simp only [Act.put, List.setIfInBounds_toArray, List.set_cons_zero, List.set_cons_succ]
    go_wp2
    go_ret
    exact Ret.mk ((ext_drew _).tr hE2) rfl
theorem stands_no1 (fold : Bool) (text word : List UInt8) (place : Int) (h : place < word.length) : standsB fold text place word = false := by unfold standsB; rw [show decide ((word.length : Int) ≤ place) = false by simpa using h]; rfl
theorem stands_no2 (fold : Bool) (text word : List UInt8) (place : Int) (h : (text.length : Int) < place) : standsB fold text place word = false := by unfold standsB; rw [show decide (place ≤ (text.length : Int)) = false by simpa using h, Bool.and_false]; rfl
theorem stands_yes (fold : Bool) (text word : List UInt8) (k : Nat) (h1 : word.length ≤ k) (h2 : k ≤ text.length) : standsB fold text (k : Int) word = sameB fold ((text.take k).drop (k - word.length)) word := by
  unfold standsB
  rw [show decide ((word.length : Int) ≤ (k : Int)) = true by simpa using h1, show decide ((k : Int) ≤ (text.length : Int)) = true by simpa using h2]
  simp
section
variable {w0 : World}
theorem c_rsame (fold : Bool) (xs ys : List UInt8) (h1 : xs.length ≤ 1000000) (h2 : ys.length ≤ 1000000) : ∀ b u v w, Ext w0 w → VEq (.bool fold) b w → VBytes xs u w → VBytes ys v w → Calls Try.prog 20 #[b, u, v] w (Ret w (VEq (.bool (sameB fold xs ys)))) := fun b u v w _ hb hu hv => by
  rw [show b = _ from hb]; exact rsame_any fold xs ys u v w hu hv h1 h2
end
end Go.Proofs.Ytfbamdkalamliaa
