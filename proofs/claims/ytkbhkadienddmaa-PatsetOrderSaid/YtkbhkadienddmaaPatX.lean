/- Rows of words, appended to in a region that draws its order. -/
import Derived.Test.YtkbhkadienddmaaPatR
import Derived.Test.YtkbhkadienddmaaPatS
import Derived.Test.YtkbhkadienddmaaV3
namespace Go.Proofs.Ytkbhkadienddmaa
open Go.RowKit Go.Shelf LetM SetM
theorem vbytes_held {bs : List UInt8} {v : Value} {w w' : World} (h : VBytes bs v w) (hk : 0 < bs.length → ∀ k, v.ownBlock = some k → w'.heap[k]? = w.heap[k]?) : VBytes bs v w' := by
  obtain ⟨A, c, rfl, h2, h3, h4⟩ := VBytes.form h
  refine VBytes.of h2 h3 fun hp => ?_
  obtain ⟨b, off, rfl, hb, hcell⟩ := h4 hp
  have he := hk hp b rfl
  refine ⟨b, off, rfl, ?_, fun j hj => ?_⟩
  · rcases Nat.lt_or_ge b w'.heap.size with h | h
    · exact h
    · rw [Array.getElem?_eq_none h, Array.getElem?_eq_getElem hb] at he; cases he
  · rw [← hcell j hj]; unfold World.cell?; rw [he]
/-- Bytes in memory that is older than B. -/
def VOldB (B : Nat) (bs : List UInt8) : VP := ⟨fun v w => VBytes bs v w ∧ (0 < bs.length → ∀ k, v.ownBlock = some k → k < B), fun v w w' ⟨h1, h2⟩ hW => ⟨VP.wk _ _ _ _ h1 hW, h2⟩⟩
theorem VOldB.of {bs : List UInt8} {v : Value} {w : World} {B : Nat} (h : VBytes bs v w) (hB : w.heap.size ≤ B) : VOldB B bs v w := ⟨h, fun hp k hk => by
  obtain ⟨A, c, rfl, _, _, hx⟩ := VBytes.form h
  obtain ⟨b, off, rfl, hb, _⟩ := hx hp
  cases hk
  exact Nat.lt_of_lt_of_le hb hB⟩
theorem VOldB.keep {B : Nat} {bs : List UInt8} {v : Value} {w w' : World} (h : VOldB B bs v w) (hB : B ≤ w.heap.size) {row : Option Nat} (hg : w.grownBy w' row) (hr : ∀ k, row = some k → B ≤ k) : VOldB B bs v w' :=
  ⟨vbytes_held h.1 fun hp k hk => hg.block k (by have := h.2 hp k hk; omega) (fun e => by have := h.2 hp k hk; have := hr k e.symm; omega), h.2⟩
theorem oneCell_old (B : Nat) (bs : List UInt8) : OneCell (VOldB B bs) := fun v _ hv => by obtain ⟨A, c, rfl, _⟩ := hv.1; rfl
/-- A row of one's own, of words that stand in older memory. -/
def VRowP (B : Nat) (e : TypeId) (ps : List (List UInt8)) : VP := ⟨fun v w => ∃ xs : List Value, w.ownsRow B e 1 v ps.length xs ∧ xs.length = ps.length ∧ (∀ (i : Nat) (h1 : i < xs.length) (h2 : i < ps.length), VOldB B ps[i] xs[i] w) ∧ ∀ g cs t m, v.ownBlock = some g → w.heap[g]? = some (.cells cs t m) → noByte cs = true, by
  rintro v w w' ⟨xs, h1, h2, h3, h4⟩ hW
  rcases h1.2 with ⟨rfl, h0⟩ | ⟨g, cap, cur, rfl, hb, hg, r⟩
  · exact ⟨xs, ⟨h1.1, .inl ⟨rfl, h0⟩⟩, h2, fun i p q => VP.wk _ _ _ _ (h3 i p q) hW, fun g cs t m hk => by cases hk⟩
  · have hn := h4 g _ _ _ rfl hg
    have hg' := hW.block_of hg (.inl hn)
    refine ⟨xs, ⟨h1.1, .inr ⟨g, cap, cur, rfl, hb, hg', r⟩⟩, h2, fun i p q => VP.wk _ _ _ _ (h3 i p q) hW, fun g' cs t m hk hc => ?_⟩
    cases hk
    rw [hg'] at hc
    cases hc
    exact hn⟩
theorem VRowP.mk {B : Nat} {e : TypeId} {ps : List (List UInt8)} {v : Value} {w : World} {xs : List Value} (h1 : w.ownsRow B e 1 v ps.length xs) (h2 : xs.length = ps.length) (h3 : ∀ (i : Nat) (h1 : i < xs.length) (h2 : i < ps.length), VOldB B ps[i] xs[i] w) (hp : 0 < ps.length) : VRowP B e ps v w := by
  refine ⟨xs, h1, h2, h3, fun g cs t m hk hc => ?_⟩
  obtain ⟨g', cap, cur, rfl, hr⟩ := row_open h1 hp
  obtain rfl : g' = g := by simpa [Value.ownBlock] using hk
  have hb : w.heap[g']? = _ := hr.box
  rw [hc] at hb
  cases hb
  have h0 := hr.at_ 0 (by omega) hp
  rw [hr.box.cell 0] at h0
  obtain ⟨A, c, e0, -⟩ := VBytes.form (h3 0 (by omega) hp).1
  unfold noByte
  rw [h0, e0]
def VMade (B : Nat) (e : TypeId) : VP := ⟨fun v w => ∃ g, v = .slice (some ⟨g, 0, none⟩) 0 0 ∧ B ≤ g ∧ w.heap[g]? = some (.cells #[] e (0, 0)), fun v w w' ⟨g, h1, h2, h3⟩ hW => ⟨g, h1, h2, hW.block_of h3 (.inl rfl)⟩⟩
/-- A slice of older words, as what an append takes. -/
theorem Src.olds {B : Nat} {ps : List (List UInt8)} {u : Value} {w : World} (h : VSl (ps.map (VOldB B)) u w) : ∃ xs : List Value, Src w u ps.length xs ∧ xs.length = ps.length ∧ ∀ (i : Nat) (h1 : i < xs.length) (h2 : i < ps.length), VOldB B ps[i] xs[i] w := by
  obtain ⟨A, c, rfl, hl, hm, hx⟩ := h
  rw [List.length_map] at hl hx ⊢
  by_cases hp : 0 < ps.length
  · obtain ⟨b, off, rfl, _, hc⟩ := hx hp
    have hex : ∀ j : Fin ps.length, ∃ x, w.cell? ⟨b, off + j.val, none⟩ = some x ∧ VOldB B ps[j.val] x w := fun j => hc j.val _ (by rw [List.getElem?_map, List.getElem?_eq_getElem j.isLt]; rfl)
    refine ⟨List.ofFn fun j => Classical.choose (hex j), ⟨_, _, rfl, fun _ => ⟨b, off, rfl, fun j y hj => ?_⟩⟩, by simp, fun i h1 h2 => ?_⟩
    · obtain ⟨hj1, rfl⟩ := List.getElem?_eq_some_iff.1 hj
      rw [List.getElem_ofFn]
      exact (Classical.choose_spec (hex ⟨j, by simpa using hj1⟩)).1
    · rw [List.getElem_ofFn]
      exact (Classical.choose_spec (hex ⟨i, h2⟩)).2
  · obtain rfl : ps = [] := List.eq_nil_of_length_eq_zero (by omega)
    exact ⟨[], ⟨A, c, rfl, fun h => absurd h hp⟩, rfl, fun i h => by simp at h⟩
theorem olds_of {ps : List (List UInt8)} {u : Value} {w : World} {B : Nat} (h : VParts ps u w) (hB : w.heap.size ≤ B) : VSl (ps.map (VOldB B)) u w := by
  obtain ⟨A, c, rfl, hl, hm, hx⟩ := VParts.form h
  refine ⟨A, c, by rw [List.length_map], by rwa [List.length_map], hm, fun hp => ?_⟩
  rw [List.length_map] at hp
  obtain ⟨b, off, rfl, hb, hc⟩ := hx hp
  refine ⟨b, off, rfl, hb, fun j F hj => ?_⟩
  rw [List.getElem?_map] at hj
  cases hq : ps[j]? with
  | none => rw [hq] at hj; cases hj
  | some p =>
    rw [hq] at hj
    obtain rfl : VOldB B p = F := by simpa using hj
    obtain ⟨hj1, hj2⟩ := List.getElem?_eq_some_iff.1 hq
    obtain ⟨x, h1, h2⟩ := hc j hj1
    rw [hj2] at h2
    exact ⟨x, h1, VOldB.of h2 hB⟩
section
variable {P : Program} {Q : Exit → Act → World → Prop} {ops : Array Oper} {M m : Nat} {a0 : Act} {w0 : World} {K : List Oper → List VP → Prop} {o : Oper} {rest : List Oper} {env : List VP}
theorem VWalk.made (t e : TypeId) (ho : o.op = .buildSlice t 0 #[]) (hu : P.underlying t = some (.slice e)) (hsz : (P.info? e).map (·.size) = some 1) (hz : ((P.info? e).bind (·.zero)).isSome = true)
    (hw : Want ops M a0 w0 env o true) (hr : VWalk P Q ops M a0 w0 K m rest (VMade w0.heap.size e :: env)) : VWalk P Q ops M a0 w0 K (m + 1) (o :: rest) env :=
  .new hw (fun a w hE hC hD => by
    cases hie : P.info? e with
    | none => simp [hie] at hsz
    | some ie =>
      simp only [hie, Option.map_some, Option.some.injEq, Option.bind_some] at hsz hz
      obtain ⟨z, hzz⟩ := Option.isSome_iff_exists.1 hz
      refine ⟨.slice (some ⟨w.heap.size, 0, none⟩) 0 0, w.alloc (.cells #[] e), ?_, (Below.refl _ _).alloc (Nat.le_refl _) _, w.heap.size, rfl, hE.size, heap_alloc_new w _⟩
      unfold execOp
      simp [ho, Instr.buildSlice, run_underlying hu, sizeOf, typeInfo, zeroValue, hie, hzz, newRow, Instr.fill, Result.andThen]
      first | rfl | (rw [show Array.range 0 = #[] from by decide]; rfl) | (rw [Array.range_zero]; rfl) | (congr 1; simp [Array.range])) hr
/-- x[:hi], by value -/
theorem VWalk.cutToE {A : Option Addr} {n c : Nat} (t e : TypeId) (x y : Operand) (k : IntKind) (hi : Nat) (ho : o.op = .slice t x none (some y) none) (hu : P.underlying t = some (.slice e)) (hsz : (P.info? e).map (·.size) = some 1)
    (hw : Want ops M a0 w0 env o true) (hx : Opd ops M a0 w0 env o x (VEq (.slice A n c))) (hy : Opd ops M a0 w0 env o y (VEq (.int k (hi : Int)))) (hh : hi ≤ n) (hc : n ≤ c)
    (hr : VWalk P Q ops M a0 w0 K m rest (VEq (.slice A hi c) :: env)) : VWalk P Q ops M a0 w0 K (m + 1) (o :: rest) env :=
  .val hw (fun a w hE hC hD => by
    have hA : a.eval x = .slice A n c := hx a w hE hC hD
    have hY : a.eval y = .int k (hi : Int) := hy a w hE hC hD
    have hid : A.map (·.add 0) = A := by
      cases A with
      | none => rfl
      | some a => simp [Addr.add]
    cases hi' : P.info? e with
    | none => simp [hi'] at hsz
    | some ie =>
      simp only [hi', Option.map_some, Option.some.injEq] at hsz
      refine ⟨_, ?_, rfl⟩
      unfold execOp
      simp [ho, hA, hY, Instr.sliceAt, Instr.slice, Instr.sliceBounds, Instr.sliceBound, asIntOf, run_underlying hu, sizeOf, typeInfo, hi', show hi ≤ c by omega]
      exact fun _ => hid) hr
/-- x[lo:], by value -/
theorem VWalk.cutFromE {A : Option Addr} {n c : Nat} (t e : TypeId) (x y : Operand) (k : IntKind) (lo : Nat) (ho : o.op = .slice t x (some y) none none) (hu : P.underlying t = some (.slice e)) (hsz : (P.info? e).map (·.size) = some 1)
    (hw : Want ops M a0 w0 env o true) (hx : Opd ops M a0 w0 env o x (VEq (.slice A n c))) (hy : Opd ops M a0 w0 env o y (VEq (.int k (lo : Int)))) (hh : lo ≤ n)
    (hr : VWalk P Q ops M a0 w0 K m rest (VEq (.slice (if c = lo then A else A.map (·.add lo)) (n - lo) (c - lo)) :: env)) : VWalk P Q ops M a0 w0 K (m + 1) (o :: rest) env :=
  .val hw (fun a w hE hC hD => by
    have hA : a.eval x = .slice A n c := hx a w hE hC hD
    have hY : a.eval y = .int k (lo : Int) := hy a w hE hC hD
    cases hi' : P.info? e with
    | none => simp [hi'] at hsz
    | some ie =>
      simp only [hi', Option.map_some, Option.some.injEq] at hsz
      refine ⟨_, ?_, rfl⟩
      unfold execOp
      simp [ho, hA, hY, Instr.sliceAt, Instr.slice, Instr.sliceBounds, Instr.sliceBound, asIntOf, run_underlying hu, sizeOf, typeInfo, hi', hsz, hh]) hr
/-- append to a row that was just made -/
theorem VWalk.app0 {B : Nat} {ps : List (List UInt8)} {u : Value} {w00 : World} (s x : Operand) (t e : TypeId) (i : TypeInfo) (z : Value) (bytes : Nat) (ho : o.op = .call { callee := .builtin .append, args := #[s, x], argTypes := #[t, t] })
    (ht : P.underlying t = some (.slice e)) (hi : P.info? e = some i) (hz : i.zero = some z) (hs1 : i.size = 1) (hb : i.bytes = bytes) (hzs : z.cells.size = 1)
    (hw : Want ops M a0 w0 env o true) (hs : Opd ops M a0 w0 env o s (VMade B e)) (hx : Opd ops M a0 w0 env o x (VEq u)) (hP : VSl (ps.map (VOldB B)) u w00) (hE0 : Ext w00 w0) (hB : B = w0.heap.size) (hlen : ps.length * (bytes + 1) ≤ 140000000000000)
    (hr : VWalk P Q ops M a0 w0 K m rest (VRowP B e ps :: env)) : VWalk P Q ops M a0 w0 K (m + 1) (o :: rest) env :=
  .new hw (fun a w hE hC hD => by
    obtain ⟨g, hv, hg, hgc⟩ := hs a w hE hC hD
    have hu : a.eval x = u := hx a w hE hC hD
    have hPw := VP.st _ _ _ _ hP (hE0.tr hE)
    obtain ⟨xs, hsrc, hxl, hxv⟩ := Src.olds hPw
    obtain ⟨A, c, rfl, hc4⟩ := hsrc
    by_cases hp : ps.length = 0
    · obtain rfl : ps = [] := List.eq_nil_of_length_eq_zero hp
      refine ⟨.slice (some ⟨g, 0, none⟩) 0 0, w, ?_, Ext.rf w, [], ⟨rfl, .inr ⟨g, 0, #[], rfl, hg, hgc, Nat.le_refl _, by unfold maxLen; omega, rfl, rfl⟩⟩, rfl, fun i h => by simp at h, fun g' cs t' m' hk hc => by cases hk; rw [hgc] at hc; cases hc; rfl⟩
      unfold execOp
      cases A with
      | none => simp [ho, resolve, invoke, builtin, hv, hu, Builtin.append_, run_underlying ht, sizeOf, typeInfo, hi, Builtin.lenOf, Builtin.firstCells, storeCells, Result.andThen]
      | some ad => simp [ho, resolve, invoke, builtin, hv, hu, Builtin.append_, run_underlying ht, sizeOf, typeInfo, hi, Builtin.lenOf, Builtin.firstCells, storeCells, loadCells, loadCellsFrom, Sem.run_pure, Result.andThen]
    · obtain ⟨b, off, rfl, hcell⟩ := hc4 (by omega)
      have hb1 : ps.length * bytes ≤ ps.length * (bytes + 1) := Nat.mul_le_mul_left _ (by omega)
      have hb2 : ps.length * 1 ≤ ps.length * (bytes + 1) := Nat.mul_le_mul_left _ (by omega)
      obtain ⟨v', w', hrun, r1, r2⟩ := run_append_arg_grows (P := P) w t o.type e i z 1 bytes ht hi hz hs1 hb hzs (by omega) ⟨g, 0, none⟩ 0 0 [] rfl (fun j u hj => by simp at hj) ⟨b, off, none⟩ ps.length c xs (by omega) (fun j u hj => by rw [addr_add]; exact hcell j u hj) (by omega) (by unfold maxLen; omega) (by rw [Nat.zero_add]; omega)
      have hEx := ext_of_grown r2 rfl
      rw [Nat.zero_add, List.nil_append] at r1
      refine ⟨v', w', ?_, hEx, VRowP.mk (by rw [hB]; exact own_mono r1 hE.size) hxl (fun i p q => VP.st _ _ _ _ (VP.st _ _ _ _ (hxv i p q) (Ext.rf w)) hEx) (by omega)⟩
      unfold execOp
      simp [ho, resolve, invoke, builtin, hv, hu, hrun, Result.andThen]) hr
/-- append to a row of one's own, which may have room -/
theorem GStep.app1 {B : Nat} {ps : List (List UInt8)} {wd : List UInt8} {n : Nat} (s x : Operand) (t e : TypeId) (i : TypeInfo) (z : Value) (bytes : Nat) (hgd : o.guard = none) (ho : o.op = .call { callee := .builtin .append, args := #[s, x], argTypes := #[t, t] })
    (ht : P.underlying t = some (.slice e)) (hi : P.info? e = some i) (hz : i.zero = some z) (hs1 : i.size = 1) (hb : i.bytes = bytes) (hzs : z.cells.size = 1)
    (hs : Opd ops M a0 w0 env o s (VRowP B e ps)) (hx : Opd ops M a0 w0 env o x (VSl [VOldB B wd])) (hB : B = w0.heap.size) (hlen : (ps.length + 1) * (bytes + 1) ≤ 140000000000000)
    (hr : VWalk P Q ops M a0 w0 K n rest (VRowP B e (ps ++ [wd]) :: env)) : GStep P Q ops M a0 w0 K n (o :: rest) env :=
  ⟨o, rest, rfl, VRowP B e (ps ++ [wd]), fun a w hE hC hD => by
    rw [if_pos (by simp [Region.wanted, hgd])]
    obtain ⟨xs, h1, h2, h3, h4⟩ := hs a w hE hC hD
    obtain ⟨y, hsrc, hy⟩ := Src.one (hx a w hE hC hD)
    have hb' : B ≤ w.heap.size := by rw [hB]; exact hE.size
    obtain ⟨v', w', hrun, r1, r2, -⟩ := run_append_src (P := P) B t o.type e i z 1 bytes ht hi hz hs1 hb hzs (by omega) (a.eval s) (a.eval x) ps.length 1 xs [y] h1 rfl hsrc (fun q hq => by rw [List.mem_singleton] at hq; subst hq; exact VBytes.cell1 hy.1) hlen hb'
    have hlow : Below w0.heap.size w w' := (Below.refl _ _).grown r2 hE.size (fun j hj => by have := own_ge h1 j hj; omega)
    unfold Oper.wp
    have hrun' : (execOp a.eval o).run P w = .ok (.value v') w' := by
      unfold execOp
      simp [ho, resolve, invoke, builtin, hrun, Result.andThen]
    rw [hrun']
    refine ⟨v', rfl, hlow, VRowP.mk (by rw [List.length_append]; exact r1) (by simp [h2]) (fun i p q => ?_) (by simp)⟩
    have hkeep : ∀ (bs : List UInt8) (u : Value), VOldB B bs u w → VOldB B bs u w' := fun bs u hu => VOldB.keep hu hb' r2 (fun k hk => own_ge h1 k hk)
    simp only [List.getElem_append]
    by_cases hi2 : i < xs.length
    · rw [dif_pos hi2, dif_pos (by omega)]
      exact hkeep _ _ (h3 i hi2 (by omega))
    · rw [dif_neg hi2, dif_neg (by omega)]
      have e2 : i - xs.length = 0 := by simp at p; omega
      have e3 : i - ps.length = 0 := by omega
      simp only [e2, e3, List.getElem_cons_zero]
      exact hkeep _ _ hy, hr⟩
end
end Go.Proofs.Ytkbhkadienddmaa
