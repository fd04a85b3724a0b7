/- Rows of rows of bytes of one's own, one byte of which is written. -/
import Derived.Test.YtkbhkadienddmaaPatQ
namespace Go.Proofs.Ytkbhkadienddmaa
open Go.RowKit
theorem heap_put {w : World} {b : Nat} {cs : Array Value} {e : TypeId} {m : Nat × Nat} (h : w.heap[b]? = some (.cells cs e m)) (i : Nat) (v : Value) : (w.setCell ⟨b, i, none⟩ v).heap[b]? = some (.cells (cs.setIfInBounds i v) e m) := by
  unfold World.setCell
  rw [Array.getElem?_modify, if_pos rfl, h]
  rfl
theorem frozen_own {w : World} {b : Nat} {cs : Array Value} {e : TypeId} {m : Nat × Nat} (h : w.heap[b]? = some (.cells cs e m)) (hm : m = (0, 0) ∨ m = (cs.size, cs.size + 1)) (i : Nat) (hi : i < cs.size) : w.frozen? ⟨b, i, none⟩ = false := by
  unfold World.frozen?
  simp only [h]
  rcases hm with rfl | rfl
  · simp
  · simp; omega
/-- What stands at a place of such bytes. -/
theorem VOwn.spot {base : Nat} {e1 : TypeId} {bs : List UInt8} {u : Value} {w : World} (h : VOwn base e1 bs u w) (k : Nat) (hk : k < bs.length) : ∃ b off c, u = .slice (some ⟨b, off, none⟩) bs.length c ∧ base ≤ b ∧ w.cell? ⟨b, off + k, none⟩ = some (byteV bs[k]) ∧ w.frozen? ⟨b, off + k, none⟩ = false ∧ ∃ cs m, w.heap[b]? = some (.cells cs e1 m) := by
  obtain ⟨h1, h2⟩ := h
  obtain ⟨A, c, rfl, _, _, hx⟩ := VBytes.form h1
  obtain ⟨b, off, rfl, _, hc⟩ := hx (by omega)
  obtain ⟨h3, cs, m, h4, h5⟩ := h2 b rfl
  have hck := hc k hk
  refine ⟨b, off, c, rfl, h3, hck, frozen_own h4 h5 _ ?_, cs, m, h4⟩
  rw [cell_of_row w b (off + k) cs e1 m h4] at hck
  exact (Array.getElem?_eq_some_iff.1 hck).1
theorem VOwn.poke {base : Nat} {e1 : TypeId} {bs : List UInt8} {u : Value} {w : World} (h : VOwn base e1 bs u w) (b i : Nat) (z : UInt8) : ∃ bs' : List UInt8, bs'.length = bs.length ∧ VOwn base e1 bs' u (w.setCell ⟨b, i, none⟩ (byteV z)) := by
  obtain ⟨h1, h2⟩ := h
  obtain ⟨A, c, rfl, hl, hm, hx⟩ := VBytes.form h1
  by_cases hp : 0 < bs.length
  · obtain ⟨g, off, rfl, hlt, hc⟩ := hx hp
    obtain ⟨h3, cs, m, h4, h5⟩ := h2 g rfl
    by_cases hg : g = b
    · subst hg
      have h6 := heap_put h4 i (byteV z)
      have hcell : ∀ j (hj : j < bs.length), cs[off + j]? = some (byteV bs[j]) := fun j hj => by
        have := hc j hj
        rwa [cell_of_row w g (off + j) cs e1 m h4] at this
      obtain ⟨bs', hl', hget⟩ : ∃ bs' : List UInt8, bs'.length = bs.length ∧ ∀ j (hj : j < bs.length) (hj' : j < bs'.length), bs'[j] = if off + j = i then z else bs[j] :=
        ⟨List.ofFn fun j : Fin bs.length => if off + j.val = i then z else bs[j.val], by simp, fun j hj hj' => by rw [List.getElem_ofFn]⟩
      refine ⟨bs', hl', ?_, fun g' hg' => ?_⟩
      · rw [← hl']
        refine VBytes.of (by omega) hm fun _ => ⟨g, off, rfl, by simpa using hlt, fun j hj => ?_⟩
        have hj' : j < bs.length := by omega
        rw [cell_of_row _ g (off + j) _ e1 m h6, hget j hj' hj]
        have hlt2 := (Array.getElem?_eq_some_iff.1 (hcell j hj')).1
        by_cases hi : i = off + j
        · subst hi
          rw [Array.getElem?_setIfInBounds_self_of_lt hlt2, if_pos rfl]
          rfl
        · rw [Array.getElem?_setIfInBounds_ne hi, hcell j hj', if_neg (fun e => hi e.symm)]
          rfl
      · cases hg'
        refine ⟨h3, _, m, h6, ?_⟩
        simpa using h5
    · refine ⟨bs, rfl, VOwn.keep ⟨h1, h2⟩ (by simp) fun g' hg' => ?_⟩
      cases hg'
      exact Below.heap_setCell w _ _ g hg
  · refine ⟨bs, rfl, VBytes.of hl hm (fun hp' => absurd hp' hp), fun g hg => ?_⟩
    obtain ⟨h3, cs, m, h4, h5⟩ := h2 g hg
    by_cases hg2 : g = b
    · subst hg2
      exact ⟨h3, _, m, heap_put h4 i (byteV z), by simpa using h5⟩
    · exact ⟨h3, cs, m, (Below.heap_setCell w _ _ g hg2).trans h4, h5⟩
theorem OwnP.poke {w : World} {base : Nat} {e e1 : TypeId} {v : Value} {ps : List (List UInt8)} (h : OwnP w base e e1 v ps) (he : e1 ≠ e) {b : Nat} (hb : ∃ cs m, w.heap[b]? = some (.cells cs e1 m)) (i : Nat) (z : UInt8) :
    ∃ ps' : List (List UInt8), ps'.map List.length = ps.map List.length ∧ OwnP (w.setCell ⟨b, i, none⟩ (byteV z)) base e e1 v ps' := by
  obtain ⟨xs, h1, h2, h3⟩ := h
  obtain ⟨cs, m, hbc⟩ := hb
  have hex : ∀ j : Fin ps.length, ∃ bs' : List UInt8, bs'.length = ps[j.val].length ∧ VOwn base e1 bs' (xs[j.val]'(by omega)) (w.setCell ⟨b, i, none⟩ (byteV z)) := fun j => VOwn.poke (h3 j.val (by omega) j.isLt) b i z
  refine ⟨List.ofFn fun j => Classical.choose (hex j), ?_, xs, ?_, by simpa using h2, fun j p1 p2 => ?_⟩
  · apply List.ext_getElem
    · simp
    · intro j h4 h5
      simp only [List.getElem_map, List.getElem_ofFn]
      exact (Classical.choose_spec (hex ⟨j, by simpa using h4⟩)).1
  · rw [List.length_ofFn]
    refine ⟨h1.1, ?_⟩
    rcases h1.2 with h4 | ⟨g, cap, cur, rfl, hb4, hg4, r⟩
    · exact .inl h4
    · refine .inr ⟨g, cap, cur, rfl, hb4, (Below.heap_setCell w _ _ g fun e0 => ?_).trans hg4, r⟩
      simp only at e0
      rw [e0, hbc] at hg4
      cases hg4
      exact he rfl
  · rw [List.getElem_ofFn]
    exact (Classical.choose_spec (hex ⟨j, by simpa using p2⟩)).2
/-- .. with just these lengths. -/
def OwnL (w : World) (base : Nat) (e e1 : TypeId) (v : Value) (ns : List Nat) : Prop := ∃ ps : List (List UInt8), ps.map List.length = ns ∧ OwnP w base e e1 v ps
theorem OwnL.poke {w : World} {base : Nat} {e e1 : TypeId} {v : Value} {ns : List Nat} (h : OwnL w base e e1 v ns) (he : e1 ≠ e) {b : Nat} (hb : ∃ cs m, w.heap[b]? = some (.cells cs e1 m)) (i : Nat) (z : UInt8) : OwnL (w.setCell ⟨b, i, none⟩ (byteV z)) base e e1 v ns := by
  obtain ⟨ps, h1, h2⟩ := h
  obtain ⟨ps', h3, h4⟩ := OwnP.poke h2 he hb i z
  exact ⟨ps', h3.trans h1, h4⟩
theorem OwnL.st {w w' : World} {base : Nat} {e e1 : TypeId} {v : Value} {ns : List Nat} (h : OwnL w base e e1 v ns) (hE : Ext w w') : OwnL w' base e e1 v ns := by
  obtain ⟨ps, h1, h2⟩ := h
  exact ⟨ps, h1, OwnP.st h2 hE⟩
/-- What a round reads: the row, the word, the byte. -/
theorem OwnL.at_ {w : World} {base : Nat} {e e1 : TypeId} {v : Value} {ns : List Nat} (h : OwnL w base e e1 v ns) (i k : Nat) (hi : i < ns.length) (hk : k < ns[i]) : ∃ g cap b off c, ∃ z : UInt8, v = .slice (some ⟨g, 0, none⟩) ns.length cap ∧ w.cell? ⟨g, i, none⟩ = some (.slice (some ⟨b, off, none⟩) ns[i] c) ∧
    w.cell? ⟨b, off + k, none⟩ = some (byteV z) ∧ w.frozen? ⟨b, off + k, none⟩ = false ∧ base ≤ b ∧ ∃ cs m, w.heap[b]? = some (.cells cs e1 m) := by
  obtain ⟨ps, h1, xs, h2, h3, h4⟩ := h
  subst h1
  rw [List.length_map] at hi ⊢
  obtain ⟨g, cap, cur, rfl, hr⟩ := row_open h2 (by omega)
  simp only [List.getElem_map] at hk ⊢
  have h5 := h4 i (by omega) hi
  obtain ⟨b, off, c, h6, h7, h8, h9, h10⟩ := VOwn.spot h5 k hk
  exact ⟨g, cap, b, off, c, _, rfl, (hr.at_ i (by omega) hi).trans (by rw [h6]), h8, h9, h7, h10⟩
/-- .. and the word alone. -/
theorem OwnL.word {w : World} {base : Nat} {e e1 : TypeId} {v : Value} {ns : List Nat} (h : OwnL w base e e1 v ns) (i : Nat) (hi : i < ns.length) : ∃ g cap A c, v = .slice (some ⟨g, 0, none⟩) ns.length cap ∧ w.cell? ⟨g, i, none⟩ = some (.slice A ns[i] c) := by
  obtain ⟨ps, h1, xs, h2, h3, h4⟩ := h
  subst h1
  rw [List.length_map] at hi ⊢
  obtain ⟨g, cap, cur, rfl, hr⟩ := row_open h2 (by omega)
  simp only [List.getElem_map]
  have h5 := (h4 i (by omega) hi).1
  obtain ⟨A, c, h6, -⟩ := VBytes.form h5
  exact ⟨g, cap, A, c, rfl, (hr.at_ i (by omega) hi).trans (by rw [h6])⟩
section
variable {P : Program} {Q : Exit → Act → World → Prop} {ops : Array Oper} {M m : Nat} {a0 : Act} {w0 : World} {K : List Oper → List VP → Prop} {o : Oper} {rest : List Oper} {env : List VP}
theorem VWalk.index1O {bl off n c : Nat} (t e : TypeId) (x y : Operand) (k : IntKind) (i : Nat) (ho : o.op = .indexAddr t x y) (hu : P.underlying t = some (.slice e)) (hsz : (P.info? e).map (·.size) = some 1)
    (hw : Want ops M a0 w0 env o true) (hx : Opd ops M a0 w0 env o x (VEq (.slice (some ⟨bl, off, none⟩) n c))) (hy : Opd ops M a0 w0 env o y (VEq (.int k (i : Int)))) (hlt : i < n)
    (hr : VWalk P Q ops M a0 w0 K m rest (VEq (.pointer (some ⟨bl, off + i, none⟩)) :: env)) : VWalk P Q ops M a0 w0 K (m + 1) (o :: rest) env :=
  .det2 x y hw hx hy (fun ρ w _ hA hY => by
    have he : P.elem t = e := by unfold Program.elem; rw [hu]
    cases hi' : P.info? e with
    | none => simp [hi'] at hsz
    | some ie =>
      simp only [hi', Option.map_some, Option.some.injEq] at hsz
      have hu' : P.underlying t = some (.slice (P.elem t)) := by rw [he]; exact hu
      unfold execOp
      simp [ho, hA, hY, run_indexAt_slice (h := hu'), hu, sizeOf, typeInfo, hi', hsz, hlt, addr_add, go_sem, Result.andThen]) hr
end
end Go.Proofs.Ytkbhkadienddmaa
