/- Classes, counted by this program and by the document: the same. -/
import Derived.Test.YtfbamdkalamliaaClL
import Derived.Test.YtfbamdkalamliaaKDI
namespace Go.Proofs.Ytfbamdkalamliaa
open Go.RowKit LetM SetM
theorem clfold_no (c : UInt8) : ¬ (65 ≤ (foldC c).toNat ∧ (foldC c).toNat ≤ 90) := by
  unfold foldC
  split
  · rename_i h
    rw [UInt8.toNat_ofNat']
    omega
  · assumption
theorem makeFrom_all (fold : Bool) (P : List UInt8 → Prop) (hP : ∀ w, P (textF fold w)) : ∀ (ws acc : List (List UInt8)), (∀ a ∈ acc, P a) → ∀ a ∈ makeFrom fold acc ws, P a
  | [], acc, h => by unfold makeFrom; exact h
  | w :: ws, acc, h => by
    unfold makeFrom
    refine makeFrom_all fold P hP ws _ ?_
    split
    · intro a ha
      rcases List.mem_append.1 ha with ha | ha
      · exact h a ha
      · rw [List.mem_singleton] at ha; subst ha; exact hP w
    · exact h
theorem right_clean {ws : List (List UInt8)} (h : rightS true ws = true) : ∀ c ∈ ws.flatten, ¬ (65 ≤ c.toNat ∧ c.toNat ≤ 90) := by
  unfold rightS at h
  simp only [Bool.and_eq_true, decide_eq_true_eq] at h
  intro c hc
  obtain ⟨w, hw, hcw⟩ := List.mem_flatten.1 hc
  rw [← h.2] at hw
  refine makeFrom_all true (fun a => ∀ c ∈ a, ¬ (65 ≤ c.toNat ∧ c.toNat ≤ 90)) (fun v => ?_) ws [] (fun a ha => by cases ha) w hw c hcw
  intro c hc
  unfold textF folds at hc
  simp only [if_true] at hc
  obtain ⟨d, -, rfl⟩ := List.mem_map.1 hc
  exact clfold_no d
theorem one_same {f : Bool} {c : UInt8} (hc : f = true → ¬ (65 ≤ c.toNat ∧ c.toNat ≤ 90)) {i : Nat} (hi : i < 256) : (i == c.toNat || (f && smallB c.toNat && i == c.toNat - 32)) = sameB f [c] [UInt8.ofNat i] := by
  have hb := byte_toNat hi
  have hcl := UInt8.toNat_lt c
  rw [Bool.eq_iff_iff]
  cases f
  · unfold sameB
    simp only [Bool.false_and, Bool.or_false, beq_iff_eq, Bool.false_eq_true, if_false, decide_eq_true_eq, List.cons.injEq, and_true]
    constructor
    · intro e; apply UInt8.toNat_inj.1; omega
    · intro e; rw [e]; exact hb.symm
  · have hc := hc rfl
    unfold sameB folds smallB
    simp only [Bool.true_and, Bool.or_eq_true, Bool.and_eq_true, beq_iff_eq, if_true, decide_eq_true_eq, List.map_cons, List.map_nil, List.cons.injEq, and_true]
    rw [show foldC c = c by unfold foldC; rw [if_neg hc]]
    unfold foldC
    rw [hb]
    constructor
    · rintro (e | ⟨⟨h1, h2⟩, e⟩)
      · rw [if_neg (by omega)]
        apply UInt8.toNat_inj.1; omega
      · rw [if_pos (by omega)]
        apply UInt8.toNat_inj.1
        rw [UInt8.toNat_ofNat']; omega
    · intro e
      have e := congrArg UInt8.toNat e
      split at e
      · right
        rw [UInt8.toNat_ofNat'] at e
        omega
      · left; omega
theorem hasB_hR {f : Bool} {bs : List UInt8} (h : f = true → ∀ c ∈ bs, ¬ (65 ≤ c.toNat ∧ c.toNat ≤ 90)) {i : Nat} (hi : i < 256) : hasB f bs i = hR f bs i := by
  unfold hasB hR inR
  induction bs with
  | nil => rfl
  | cons c bs ih =>
    rw [List.any_cons, List.any_cons, ih (fun hf d hd => h hf d (by simp [hd])), one_same (fun hf => h hf c (by simp)) hi]
theorem cRun_congr (f : Bool) {h g : Nat → Bool} : ∀ n, (∀ i, i < n → h i = g i) → cRun f h n = cRun f g n
  | 0, _ => rfl
  | n + 1, e => by
    rw [cRun_succ, cRun_succ, cRun_congr f n (fun i hi => e i (by omega))]
    unfold cStep
    rw [e n (by omega)]
theorem cRun_same {f : Bool} {ws : List (List UInt8)} (hr : rightS f ws = true) : cRun f (hR f ws.flatten) 256 = cRun f (hasB f ws.flatten) 256 :=
  cRun_congr f 256 fun i hi => (hasB_hR (fun hf => by subst hf; exact right_clean hr) hi).symm
theorem rclsO_eq (f : Bool) (ws : List (List UInt8)) : rclsO f ws = clsO f ws := by
  unfold rclsO clsO
  split
  · rename_i hr; rw [cRun_same hr]
  · rfl
theorem rclsesO_eq (f : Bool) (ws : List (List UInt8)) (bs : List UInt8) : rclsesO f ws bs = clsesO f ws bs := by
  unfold rclsesO clsesO
  split
  · rename_i hr; rw [cRun_same hr]
  · rfl
theorem rbytesO_eq (f : Bool) (ws : List (List UInt8)) (cl : Int) : rbytesO f ws cl = bytesO f ws cl := by
  unfold rbytesO bytesO
  split
  · rename_i hr; rw [cRun_same hr]
  · rfl
theorem rleastO_eq' (f : Bool) (ws : List (List UInt8)) (ns : List Int) : rleastO f ws ns = leastO f ws ns := by
  unfold rleastO leastO
  split
  · rename_i hr; rw [cRun_same hr]
  · rfl
section
variable {w0 : World}
theorem c_clOf (f : Bool) (ws : List (List UInt8)) (hlen : ws.flatten.length ≤ 1000000) (hn : ws.length ≤ 1000000) : ∀ u w, Ext w0 w → VSet f ws u w → Calls Try.prog 9 #[u] w (Ret w (VTup [VEq (.agg (iArr (clsO f ws).1)), VEq (.int .i64 (clsO f ws).2.1), VEq (.int .i64 (clsO f ws).2.2)])) := fun u w _ h => clOf_any f ws u w h hlen hn
theorem c_rOf (f : Bool) (ws : List (List UInt8)) : ∀ u w, Ext w0 w → VSet f ws u w → Calls Try.prog 10 #[u] w (Ret w (VTup [VEq (.agg (iArr (clsO f ws).1)), VEq (.int .i64 (clsO f ws).2.1), VEq (.int .i64 (clsO f ws).2.2)])) := fun u w _ h => by rw [← rclsO_eq]; exact rOf_any f ws u w h
theorem c_clClasses (f : Bool) (ws : List (List UInt8)) (bs : List UInt8) (hlen : ws.flatten.length ≤ 1000000) (hn : ws.length ≤ 1000000) (hb : bs.length ≤ 1000000) : ∀ u v w, Ext w0 w → VSet f ws u w → VBytes bs v w → Calls Try.prog 11 #[u, v] w (Ret w (VTup [VInts (clsesO f ws bs).1, VEq (.int .i64 (clsesO f ws bs).2)])) := fun u v w _ h h2 => clClasses_any f ws bs u v w h h2 hlen hn hb
theorem c_rClasses (f : Bool) (ws : List (List UInt8)) (bs : List UInt8) (hb : bs.length ≤ 1000000) : ∀ u v w, Ext w0 w → VSet f ws u w → VBytes bs v w → Calls Try.prog 12 #[u, v] w (Ret w (VTup [VInts (clsesO f ws bs).1, VEq (.int .i64 (clsesO f ws bs).2)])) := fun u v w _ h h2 => by rw [← rclsesO_eq]; exact rClasses_any f ws bs u v w h h2 hb
theorem c_clBytes (f : Bool) (ws : List (List UInt8)) (cl : Int) (hlen : ws.flatten.length ≤ 1000000) (hn : ws.length ≤ 1000000) : ∀ u v w, Ext w0 w → VSet f ws u w → VEq (.int .i64 cl) v w → Calls Try.prog 14 #[u, v] w (Ret w (VBytes (bytesO f ws cl))) := fun u v w _ h h2 => by rw [show v = _ from h2]; exact clBytes_any f ws cl u w h hlen hn
theorem c_rBytes' (f : Bool) (ws : List (List UInt8)) (cl : Int) : ∀ u v w, Ext w0 w → VSet f ws u w → VEq (.int .i64 cl) v w → Calls Try.prog 15 #[u, v] w (Ret w (VBytes (bytesO f ws cl))) := fun u v w _ h h2 => by rw [show v = _ from h2, ← rbytesO_eq]; exact rBytes_any f ws cl u w h
theorem c_clLeast (f : Bool) (ws : List (List UInt8)) (ns : List Int) (hlen : ws.flatten.length ≤ 1000000) (hn : ws.length ≤ 1000000) (hb : ns.length ≤ 1000000) : ∀ u v w, Ext w0 w → VSet f ws u w → VInts ns v w → Calls Try.prog 16 #[u, v] w (Ret w (VBytes (leastO f ws ns))) := fun u v w _ h h2 => clLeast_any f ws ns u v w h h2 hlen hn hb
theorem c_rLeast (f : Bool) (ws : List (List UInt8)) (ns : List Int) (hb : ns.length ≤ 1000000) : ∀ u v w, Ext w0 w → VSet f ws u w → VInts ns v w → Calls Try.prog 17 #[u, v] w (Ret w (VBytes (leastO f ws ns))) := fun u v w _ h h2 => by rw [← rleastO_eq']; exact rLeast_any f ws ns u v w h h2 hb
theorem c_ints (xs ys : List Int) : ∀ u v w, Ext w0 w → VInts xs u w → VInts ys v w → Calls Try.prog 13 #[u, v] w (Ret w (VEq (.bool (decide (xs = ys))))) := fun u v w _ hu hv => ints_any xs ys u v w hu hv
end
end Go.Proofs.Ytfbamdkalamliaa
