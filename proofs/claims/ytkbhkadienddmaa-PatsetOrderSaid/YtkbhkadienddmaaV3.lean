/- A region that draws its order, where one operation (an append) turns memory of its own: what was known of that memory is let go. -/
import Derived.Test.YtkbhkadienddmaaV
import Derived.Orders
import Derived.WalkKit
namespace Go.Proofs.Ytkbhkadienddmaa
open Go.RowKit
section
variable {P : Program} {ops : Array Oper} {Q : Exit → Act → World → Prop}
/-- Of such an operation: nothing that is older than the region has turned. -/
def SpecG (P : Program) (Q : Exit → Act → World → Prop) (ops : Array Oper) (m : Nat) (a0 : Act) (w0 : World) (env : Nat → VP) (o : Oper) (F : VP) : Prop :=
  ∀ a w, Ext w0 w → Ctx ops m a0 a → Dep ops env o a w →
    if Region.wanted o (yielded ops a.tmps) = true then o.wp P a w (fun a' w' => ∃ v, a' = a.put o.dst v ∧ Below w0.heap.size w w' ∧ F v w') Q else F undef w
/-- A fact that hangs on no world. -/
def Still (F : VP) : Prop := ∀ v w w', F v w → F v w'
/-- May number k's fact be known ahead of number i, and be asked behind it? -/
def concB (ops : Array Oper) (m : Nat) (en : List Nat) (i k : Nat) : Bool :=
  k != i && !((marks i ops.toList).getD k false) && (en.contains k || (List.range m).any fun j => j != i && !((marks j ops.toList).getD i false) && (match ops[j]? with | some oj => oj.after.toList.any (fun e => Region.binds .any e && e.on == k) | none => false))
/-- Number k's fact is asked yet. -/
def LiveG (ops : Array Oper) (m : Nat) (en : List Nat) (listed : Array Bool) (k : Nat) : Prop :=
  k ∈ en ∨ ∃ j oj, j < m ∧ ops[j]? = some oj ∧ listed.getD j true = false ∧ ∃ e ∈ oj.after, Region.binds .any e = true ∧ e.on = k
structure InvG (ops : Array Oper) (m : Nat) (en : List Nat) (a0 : Act) (w0 : World) (env : Nat → VP) (listed : Array Bool) (a : Act) (w : World) : Prop where
  size : listed.size = ops.size
  closed : Closed ops listed
  tail : ∀ j, m ≤ j → j < ops.size → listed.getD j true = false
  ext : Ext w0 w
  ctx : Ctx ops m a0 a
  facts : ∀ i, i < m → listed.getD i true = true → LiveG ops m en listed i → ∃ v, env i v w ∧ ∀ d, dstOf ops i = some d → v = a.tmps.getD d undef
theorem pre_wpG (m : Nat) (gi : Nat) (en : List Nat) (a0 : Act) (w0 : World) (env : Nat → VP) (hmle : m ≤ ops.size) (hf : fwdB ops = true) (ht : tailB ops m [] = true) (hd : dstB ops m a0.tmps.size = true)
    (hsp : ∀ i o, i < m → i ≠ gi → ops[i]? = some o → Spec P Q ops m a0 w0 env o (env i))
    (hspg : ∀ o, gi < m → ops[gi]? = some o → SpecG P Q ops m a0 w0 env o (env gi)) (hst : ∀ k, k < m → concB ops m en gi k = true → Still (env k))
    (hfin : ∀ a w, Ext w0 w → Ctx ops m a0 a → (∀ i, i < m → i ∈ en → ∃ v, env i v w ∧ ∀ d, dstOf ops i = some d → v = a.tmps.getD d undef) → wpOps P ops Q (List.range' m (ops.size - m)) a w) :
    ∀ (fuel : Nat) (listed : Array Bool) (a : Act) (w : World), cnt (fun i => !listed.getD i true) ops.size ≤ fuel → InvG ops m en a0 w0 env listed a w → wpAny P .any ops Q fuel listed a w := by
  intro fuel
  have fin : ∀ (fuel : Nat) (listed : Array Bool) (a : Act) (w : World), cnt (fun i => !listed.getD i true) ops.size ≤ fuel → InvG ops m en a0 w0 env listed a w → (∀ i, i < m → listed.getD i true = true) → wpAny P .any ops Q fuel listed a w := by
    intro fuel listed a w hc hI hall
    refine tail_wp m [] (fun i hi => by cases hi) hf ht (ops.size - m) m (by omega) (Nat.le_refl _) fuel listed a w ?_ hI.size hI.closed hall hI.tail (hfin a w hI.ext hI.ctx fun i hi he => hI.facts i hi (hall i hi) (.inl he))
    have : ∀ r, r ≤ ops.size - m → r ≤ cnt (fun i => !listed.getD i true) (m + r) := by
      intro r
      induction r with
      | zero => intro _; omega
      | succ r ih =>
        intro hr
        have h1 := ih (by omega)
        have h2 := hI.tail (m + r) (by omega) (by omega)
        have h3 : cnt (fun i => !listed.getD i true) (m + (r + 1)) = cnt (fun i => !listed.getD i true) (m + r) + if (!listed.getD (m + r) true) = true then 1 else 0 := rfl
        rw [h3, h2, Bool.not_false, if_pos rfl]
        exact Nat.succ_le_succ h1
    have h2 := this (ops.size - m) (Nat.le_refl _)
    rw [show m + (ops.size - m) = ops.size by omega] at h2
    omega
  induction fuel with
  | zero =>
    intro listed a w hc hI
    refine fin 0 listed a w hc hI fun i hi => ?_
    have := cnt_zero (p := fun i => !listed.getD i true) ops.size (by omega) i (show i < ops.size by omega)
    simpa using this
  | succ fuel ih =>
    intro listed a w hc hI
    by_cases hall : ∀ i, i < m → listed.getD i true = true
    · exact fin _ listed a w hc hI hall
    · have hex : ∃ j, j < m ∧ (!listed.getD j true) = true := by
        apply Classical.byContradiction
        intro hno
        apply hall
        intro i hi
        cases hli : listed.getD i true
        · exact absurd ⟨i, hi, by rw [hli]; rfl⟩ hno
        · rfl
      obtain ⟨j0, hj0, hp0, hl0⟩ := least_unlisted (p := fun i => !listed.getD i true) m hex
      have hr0 : j0 ∈ Region.ready .any ops listed := ready_of_least hf (by omega) (by simpa using hp0) (fun i hi => by simpa using hl0 i hi) hI.size
      -- what a step brings
      have next : ∀ i o, i < m → ops[i]? = some o → listed.getD i true = false → (∀ e ∈ o.after, Region.binds .any e = true → listed.getD e.on false = true) → ∀ v w', Below w0.heap.size w w' → (i ≠ gi → Weak w w') → env i v w' → wpAny P .any ops Q fuel (listed.setIfInBounds i true) (a.put o.dst v) w' := by
        intro i o him ho hu hrdy v w' hE hW hF
        have hil : i < ops.size := (Array.getElem?_eq_some_iff.1 ho).1
        refine ih _ _ _ ?_ ⟨by simpa using hI.size, closed_set hI.size hf hI.closed ho hrdy, fun j hj hj2 => by rw [getD_set_ne true (by omega)]; exact hI.tail j hj hj2, Below.trans hI.ext hE, ?_, ?_⟩
        · have := cnt_drop (p := fun i => !listed.getD i true) (q := fun j => !(listed.setIfInBounds i true).getD j true) (i := i) (by rw [hu]; rfl) (by simp [show i < listed.size by rw [hI.size]; exact hil])
            (fun j hj => by rw [getD_set_ne true (Ne.symm hj)]) ops.size hil
          omega
        · cases hdo : o.dst with
          | none => exact hI.ctx
          | some d =>
            refine ⟨by simp only [Act.put, Array.size_setIfInBounds]; exact hI.ctx.size, hI.ctx.defers, fun t ht' => ?_⟩
            have hne : d ≠ t := fun e => ht' i him (by unfold dstOf; rw [ho]; simpa [e] using hdo)
            simp only [Act.put, Array.getElem?_setIfInBounds_ne hne]
            exact hI.ctx.frame t ht'
        · intro k hk hlk hlv
          by_cases e : i = k
          · subst e
            refine ⟨v, hF, fun d hd' => ?_⟩
            have hdo : o.dst = some d := by unfold dstOf at hd'; rw [ho] at hd'; exact hd'
            have hlt := (dstB_spec hd him hd').1
            rw [hdo]
            simp [Act.put, hI.ctx.size, hlt]
          · rw [getD_set_ne true e] at hlk
            have hlv0 : LiveG ops m en listed k := by
              rcases hlv with h | ⟨j, oj, hj, hoj, hju, h⟩
              · exact .inl h
              · refine .inr ⟨j, oj, hj, hoj, ?_, h⟩
                by_cases eij : i = j
                · subst eij; exact hu
                · rwa [getD_set_ne true eij] at hju
            obtain ⟨u, hu1, hu2⟩ := hI.facts k hk hlk hlv0
            have hkeep : env k u w' := by
              by_cases eg : i = gi
              · subst eg
                refine hst k hk ?_ u w w' hu1
                have hnk : (marks i ops.toList).getD k false = false := by
                  cases hmk : (marks i ops.toList).getD k false
                  · rfl
                  · have := marks_unlisted hf hI.closed hu k (by omega) hmk
                    rw [hlk] at this; cases this
                unfold concB
                rw [hnk]
                simp only [Bool.not_false, Bool.and_true, Bool.and_eq_true, bne_iff_ne, ne_eq, Bool.or_eq_true, List.contains_iff_mem]
                refine ⟨fun h => e h.symm, ?_⟩
                rcases hlv with h | ⟨j, oj, hj, hoj, hju, ea, hea, hba, hon⟩
                · exact .inl h
                · refine .inr (List.any_eq_true.2 ⟨j, List.mem_range.2 hj, ?_⟩)
                  have hij : i ≠ j := fun eij => by
                    subst eij
                    have hil2 : i < listed.size := by rw [hI.size]; exact hil
                    simp [hil2] at hju
                  rw [getD_set_ne true hij] at hju
                  have hnj : (marks j ops.toList).getD i false = false := by
                    cases hmj : (marks j ops.toList).getD i false
                    · rfl
                    · rcases marks_spec ho hmj with e2 | ⟨e2, he2, hb2, hm2⟩
                      · exact absurd e2 hij
                      · have hlt2 := fwdB_spec hf ho he2 hb2
                        have h1 := marks_unlisted hf hI.closed hju e2.on (by omega) hm2
                        have h2 := hrdy e2 he2 hb2
                        rw [getD_listed (by rw [hI.size]; omega)] at h1
                        rw [h1] at h2; cases h2
                  rw [hnj, hoj]
                  simp only [Bool.not_false, Bool.and_true, Bool.and_eq_true, bne_iff_ne, ne_eq]
                  exact ⟨fun h => hij h.symm, List.any_eq_true.2 ⟨ea, Array.mem_toList_iff.2 hea, by simp [hba, hon]⟩⟩
              · exact (env k).wk u w w' hu1 (hW eg)
            refine ⟨u, hkeep, fun d hd' => ?_⟩
            rw [hu2 d hd']
            cases hdo : o.dst with
            | none => rfl
            | some d2 =>
              have hne : d2 ≠ d := fun e2 => (dstB_spec hd hk hd').2 i him e (by unfold dstOf; rw [ho]; simpa [e2] using hdo)
              simp [Act.put, Array.getElem?_setIfInBounds_ne hne]
      have dep : ∀ i o, i < m → ops[i]? = some o → listed.getD i true = false → (∀ e ∈ o.after, Region.binds .any e = true → listed.getD e.on false = true) → Dep ops env o a w := by
        intro i o him ho hu hrdy e he hb d hd'
        have hlt := fwdB_spec hf ho he hb
        obtain ⟨v, hv, hvd⟩ := hI.facts e.on (by omega) (by rw [getD_listed (by rw [hI.size]; omega)]; exact hrdy e he hb) (.inr ⟨i, o, him, ho, hu, e, he, hb, rfl⟩)
        rw [← hvd d hd']; exact hv
      refine ⟨fun h0 => (by rw [h0] at hr0; cases hr0), fun i hi => ?_⟩
      obtain ⟨hu, o, ho, hrdy⟩ := mem_ready.1 hi
      have hil : i < ops.size := (Array.getElem?_eq_some_iff.1 ho).1
      have hu' : listed.getD i true = false := hu
      have him : i < m := by
        rcases Nat.lt_or_ge i m with h | h
        · exact h
        · obtain ⟨e, he, hb, hun⟩ := tailB_spec ht hf hI.closed ho h (show j0 < i by omega) (fun hmem => by cases hmem) (by simpa using hp0)
          have := hrdy e he hb
          have hlt := fwdB_spec hf ho he hb
          rw [← getD_listed (by rw [hI.size]; omega), hun] at this
          cases this
      have hD := dep i o him ho hu' hrdy
      unfold wpOp
      simp only [ho]
      by_cases eg : i = gi
      · subst eg
        have hs := hspg o him ho a w hI.ext hI.ctx hD
        split
        · rename_i hw
          rw [if_pos hw] at hs
          exact .inl (Oper.wp_mono (fun a' w' ⟨v, e1, hE, hF⟩ => by subst e1; exact next i o him ho hu' hrdy v w' hE (fun h => absurd rfl h) hF) hs)
        · rename_i hw
          rw [if_neg hw] at hs
          exact next i o him ho hu' hrdy undef w (Below.refl _ _) (fun h => absurd rfl h) hs
      · have hs := hsp i o him eg ho a w hI.ext hI.ctx hD
        split
        · rename_i hw
          rw [if_pos hw] at hs
          exact .inl (Oper.wp_mono (fun a' w' ⟨v, e1, hE, hF⟩ => by subst e1; exact next i o him ho hu' hrdy v w' hE.1 (fun _ => hE.2) hF) hs)
        · rename_i hw
          rw [if_neg hw] at hs
          exact next i o him ho hu' hrdy undef w (Below.refl _ _) (fun _ => (Ext.rf _).weak) hs

/-- The operation that turns its memory, in the walk. -/
def GStep (P : Program) (Q : Exit → Act → World → Prop) (ops : Array Oper) (M : Nat) (a0 : Act) (w0 : World) (K : List Oper → List VP → Prop) (n : Nat) (rest : List Oper) (env : List VP) : Prop :=
  ∃ o rest', rest = o :: rest' ∧ ∃ F, SpecG P Q ops M a0 w0 (envOf env) o F ∧ VWalk P Q ops M a0 w0 K n rest' (F :: env)
def StillL (c : Nat → Bool) : Nat → List VP → Prop
  | _, [] => True
  | k, F :: Fs => (c k = false ∨ ∃ x, F = VEq x) ∧ StillL c (k + 1) Fs
theorem StillL.at_ {c : Nat → Bool} : ∀ (Fs : List VP) (k0 : Nat), StillL c k0 Fs → ∀ (i : Nat) (F : VP), Fs[i]? = some F → c (k0 + i) = true → Still F
  | [], _, _, i, F, h, _ => by simp at h
  | G :: Fs, k0, ⟨h1, h2⟩, 0, F, h, hc => by
    simp at h; subst h
    rcases h1 with h1 | ⟨x, rfl⟩
    · rw [Nat.add_zero] at hc; rw [h1] at hc; cases hc
    · exact fun v w w' hv => hv
  | G :: Fs, k0, ⟨h1, h2⟩, i + 1, F, h, hc => StillL.at_ Fs (k0 + 1) h2 i F (by simpa using h) (by rw [show k0 + 1 + i = k0 + (i + 1) by omega]; exact hc)
/-- What is let go at the end. -/
def maskL (en : List Nat) : Nat → List VP → List VP
  | _, [] => []
  | k, F :: Fs => (if en.contains k then F else VAny) :: maskL en (k + 1) Fs
theorem maskL_length (en : List Nat) : ∀ (Fs : List VP) (k : Nat), (maskL en k Fs).length = Fs.length
  | [], _ => rfl
  | F :: Fs, k => by show _ + 1 = _ + 1; rw [maskL_length en Fs (k + 1)]
theorem maskL_get (en : List Nat) : ∀ (Fs : List VP) (k i : Nat) (F : VP), Fs[i]? = some F → (maskL en k Fs)[i]? = some (if en.contains (k + i) then F else VAny)
  | [], _, i, F, h => by simp at h
  | G :: Fs, k, 0, F, h => by simp at h; subst h; rfl
  | G :: Fs, k, i + 1, F, h => by
    have := maskL_get en Fs (k + 1) i F (by simpa using h)
    rw [show k + 1 + i = k + (i + 1) by omega] at this
    exact this
theorem spec_more {m : Nat} {a0 : Act} {w0 : World} {env Gs : List VP} {o : Oper} {F : VP} (hon : ∀ e ∈ o.after, Region.binds .any e = true → e.on < env.length) (h : Spec P Q ops m a0 w0 (envOf env) o F) : Spec P Q ops m a0 w0 (envOf (Gs ++ env)) o F :=
  fun a w hE hC hD => h a w hE hC fun e he hb d hd' => by
    have := hD e he hb d hd'
    have hlt := hon e he hb
    unfold envOf at this ⊢
    rwa [List.reverse_append, List.getD_eq_getElem?_getD, List.getElem?_append_left (by simpa using hlt), ← List.getD_eq_getElem?_getD] at this
theorem specG_more {m : Nat} {a0 : Act} {w0 : World} {env Gs : List VP} {o : Oper} {F : VP} (hon : ∀ e ∈ o.after, Region.binds .any e = true → e.on < env.length) (h : SpecG P Q ops m a0 w0 (envOf env) o F) : SpecG P Q ops m a0 w0 (envOf (Gs ++ env)) o F :=
  fun a w hE hC hD => h a w hE hC fun e he hb d hd' => by
    have := hD e he hb d hd'
    have hlt := hon e he hb
    unfold envOf at this ⊢
    rwa [List.reverse_append, List.getD_eq_getElem?_getD, List.getElem?_append_left (by simpa using hlt), ← List.getD_eq_getElem?_getD] at this
theorem envOf_more (Gs env : List VP) (i : Nat) (h : i < env.length) : envOf (Gs ++ env) i = envOf env i := by
  unfold envOf
  rw [List.reverse_append, List.getD_eq_getElem?_getD, List.getElem?_append_left (by simpa using h), ← List.getD_eq_getElem?_getD]
theorem vregionG {id : Nat} {l : List Oper} {a0 : Act} {w : World} (m n1 n2 : Nat) (en : List Nat) (hmn : m = n1 + 1 + n2) (hm : P.follows .mixedOrders = true) (hB : preB l.toArray m a0.tmps.size [] = true)
    (h : VWalk P Q l.toArray m a0 w.drew (GStep P Q l.toArray m a0 w.drew (fun tail env => decide (env.length = m) = true ∧ StillL (concB l.toArray m en n1) 0 env.reverse ∧ ∀ w', Ext w.drew w' → VFin P Q l.toArray tail (l.take m) (maskL en 0 env.reverse) a0 w') n2) n1 l []) : (Code.region id l.toArray true).wp P Q a0 w := by
  refine wp_region_any hm ?_
  have hml := preB_le hB
  simp only [preB, Bool.and_eq_true, decide_eq_true_eq] at hB
  obtain ⟨⟨⟨⟨⟨hmle, hf⟩, ht⟩, hd⟩, -⟩, hsel⟩ := hB
  obtain ⟨g0, Fs1, g1, g2, g3⟩ := VWalk.spec hf n1 l [] (fun j => by simp) h
  simp only [List.append_nil, List.length_nil, Nat.zero_add] at g2 g3
  obtain ⟨o, rest', hrest, F, hG, hW⟩ := g2
  have hog : l.toArray[n1]? = some o := by
    have : (l.drop n1)[0]? = some o := by rw [hrest]; rfl
    rw [List.getElem?_drop, Nat.add_zero] at this
    simpa using this
  have hr' : rest' = l.drop (n1 + 1) := by
    have : (l.drop n1).drop 1 = rest' := by rw [hrest]; rfl
    rw [← this, List.drop_drop]
  obtain ⟨k0, Fs2, k1, k2, k3⟩ := VWalk.spec hf n2 rest' (F :: Fs1) (fun j => by
    rw [hr', List.getElem?_drop, List.length_cons, g1]
    simp) hW
  rw [hr', List.drop_drop, show n1 + 1 + n2 = m from hmn.symm] at k2
  obtain ⟨c1, c2, c3⟩ := k2
  have c1 := of_decide_eq_true c1
  have hlen : (Fs2 ++ F :: Fs1).length = m := c1
  have hl1 : (F :: Fs1).length = n1 + 1 := by simp [g1]
  have e1 : Fs2 ++ F :: Fs1 = (Fs2 ++ [F]) ++ Fs1 := by simp
  refine pre_wpG m n1 en a0 w.drew (envOf (Fs2 ++ F :: Fs1)) hmle hf ht hd ?_ ?_ ?_ ?_ _ _ _ _ ?_ ⟨by simp, closed_init _, fun j _ hj => by simp at hj; simp [hj], Ext.rf _, ⟨rfl, rfl, fun _ _ => rfl⟩, fun i hi hl _ => ?_⟩
  · intro i o' hi hne ho
    rcases Nat.lt_or_ge i n1 with h1 | h1
    · have hs := g3 i o' h1 ho
      have hon : ∀ e ∈ o'.after, Region.binds .any e = true → e.on < Fs1.length := fun e he hb => by have := fwdB_spec hf ho he hb; omega
      rw [e1, envOf_more _ _ _ (by omega)]
      exact spec_more hon hs
    · have hs := k3 (i - (n1 + 1)) o' (by omega) (by rw [hl1, show n1 + 1 + (i - (n1 + 1)) = i by omega]; exact ho)
      rw [hl1, show n1 + 1 + (i - (n1 + 1)) = i by omega] at hs
      exact hs
  · intro o' hgm ho
    rw [hog] at ho
    cases ho
    have hon : ∀ e ∈ o.after, Region.binds .any e = true → e.on < Fs1.length := fun e he hb => by have := fwdB_spec hf hog he hb; omega
    rw [show envOf (Fs2 ++ F :: Fs1) n1 = F by
      rw [envOf_more Fs2 (F :: Fs1) n1 (by rw [hl1]; omega)]
      unfold envOf
      simp [← g1]]
    rw [e1]
    exact specG_more hon hG
  · intro k hk hc
    have hk2 : k < (Fs2 ++ F :: Fs1).reverse.length := by rw [List.length_reverse, hlen]; exact hk
    have hg := List.getElem?_eq_getElem hk2
    have := StillL.at_ _ 0 c2 k _ hg (by rw [Nat.zero_add]; exact hc)
    unfold envOf
    rw [List.getD_eq_getElem?_getD, hg]
    exact this
  · intro a w' hE hC hF
    have hlen' : (l.drop m).length = l.toArray.size - m := by simp
    rw [← hlen', wpOps_eq_wpList (l.drop m) m (fun j => by simp)]
    refine vfin_of hml (m := m) (Fs := (maskL en 0 (Fs2 ++ F :: Fs1).reverse).reverse) (by rw [List.length_reverse, maskL_length, List.length_reverse, hlen]) hC (fun i hi => ?_) (by rw [List.reverse_reverse]; exact c3 w' hE)
    have hk2 : i < (Fs2 ++ F :: Fs1).reverse.length := by rw [List.length_reverse, hlen]; exact hi
    have hg := List.getElem?_eq_getElem hk2
    have hmg := maskL_get en _ 0 i _ hg
    rw [Nat.zero_add] at hmg
    unfold envOf
    rw [List.reverse_reverse, List.getD_eq_getElem?_getD, hmg]
    by_cases hen : i ∈ en
    · rw [if_pos (List.contains_iff_mem.2 hen)]
      obtain ⟨v, h1, h2⟩ := hF i hi hen
      refine ⟨v, ?_, h2⟩
      unfold envOf at h1
      rw [List.getD_eq_getElem?_getD, hg] at h1
      exact h1
    · rw [if_neg (fun h => hen (List.contains_iff_mem.1 h))]
      cases hdi : dstOf l.toArray i with
      | none => exact ⟨undef, trivial, fun d h => by cases h⟩
      | some d => exact ⟨a.tmps.getD d undef, trivial, fun d' h => by cases h; rfl⟩
  · have : ∀ n p, cnt p n ≤ n := by
      intro n p
      induction n with
      | zero => simp [cnt]
      | succ n ih => simp only [cnt]; split <;> omega
    exact this _ _
  · exfalso
    have : i < l.length := by simp at hmle; omega
    simp [this] at hl
end
end Go.Proofs.Ytkbhkadienddmaa
