/- Rows of one's own whose elements are given: read, opened, put at a place. -/
import Derived.Test.YtkbhkadienddmaaPatT
import Derived.Test.YtkbhkadienddmaaPatP
namespace Go.Proofs.Ytkbhkadienddmaa
open Go.RowKit Go.Shelf LetM SetM
theorem VBytes.cell1 {bs : List UInt8} {u : Value} {w : World} (h : VBytes bs u w) : u.oneCell' = true := by obtain ⟨A, c, rfl, _⟩ := VBytes.form h; rfl
theorem Src.parts {ps : List (List UInt8)} {u : Value} {w : World} (h : VParts ps u w) : ∃ xs : List Value, Src w u ps.length xs ∧ xs.length = ps.length ∧ ∀ (i : Nat) (h1 : i < xs.length) (h2 : i < ps.length), VBytes ps[i] xs[i] w := by
  obtain ⟨A, c, rfl, hl, hm, hx⟩ := VParts.form h
  by_cases hp : 0 < ps.length
  · obtain ⟨b, off, rfl, hb, hc⟩ := hx hp
    have key : ∀ (i : Nat) (h2 : i < ps.length), VBytes ps[i] ((w.cell? ⟨b, off + i, none⟩).getD undef) w ∧ w.cell? ⟨b, off + i, none⟩ = some ((w.cell? ⟨b, off + i, none⟩).getD undef) := fun i h2 => by
      obtain ⟨x, h3, h4⟩ := hc i h2
      rw [h3]
      exact ⟨h4, rfl⟩
    refine ⟨(List.range ps.length).map fun j => (w.cell? ⟨b, off + j, none⟩).getD undef, ⟨_, _, rfl, fun _ => ⟨b, off, rfl, fun j x hj => ?_⟩⟩, by simp, fun i h1 h2 => ?_⟩
    · rw [List.getElem?_map] at hj
      by_cases hjl : j < ps.length
      · rw [List.getElem?_range hjl] at hj
        cases hj
        exact (key j hjl).2
      · rw [List.getElem?_eq_none (by simp; omega)] at hj
        cases hj
    · rw [List.getElem_map, List.getElem_range]
      exact (key i h2).1
  · have h0 : ps = [] := List.eq_nil_of_length_eq_zero (by omega)
    subst h0
    exact ⟨[], ⟨_, _, rfl, fun h => by simp at h⟩, rfl, fun i h1 => by simp at h1⟩
theorem row_parts {w : World} {base : Nat} {e : TypeId} {v : Value} {xs : List Value} {ps : List (List UInt8)} (h1 : w.ownsRow base e 1 v ps.length xs) (h2 : xs.length = ps.length) (h3 : ∀ (i : Nat) (h1 : i < xs.length) (h2 : i < ps.length), VBytes ps[i] xs[i] w) : VParts ps v w := by
  unfold VParts
  rcases h1.2 with ⟨rfl, h0⟩ | ⟨g, cap, cur, rfl, hb, hcells, hl, hm, hsz, htk⟩
  · obtain rfl : ps = [] := List.eq_nil_of_length_eq_zero h0
    exact ⟨none, 0, rfl, Nat.le_refl _, by decide, fun h => by simp at h⟩
  · rw [Nat.mul_one] at hsz htk
    refine ⟨_, _, by rw [List.length_map], by rw [List.length_map]; exact hl, hm, fun hp => ⟨g, 0, rfl, (Array.getElem?_eq_some_iff.1 hcells).1, fun j F hj => ?_⟩⟩
    rw [List.getElem?_map] at hj
    cases hq : ps[j]? with
    | none => rw [hq] at hj; cases hj
    | some p =>
      rw [hq] at hj
      obtain rfl : VBytes p = F := by simpa using hj
      obtain ⟨hj1, hj2⟩ := List.getElem?_eq_some_iff.1 hq
      have hx : j < xs.length := by omega
      refine ⟨xs[j], ?_, ?_⟩
      · have h4 : (cur.toList.take ps.length)[j]? = some xs[j] := by rw [htk]; exact List.getElem?_eq_getElem hx
        rw [List.getElem?_take, if_pos hj1, Array.getElem?_toList] at h4
        rw [Nat.zero_add]
        exact (Box.cell (t := e) (cs := cur) hcells j).trans h4
      · have := h3 j hx hj1
        rwa [hj2] at this
/-- A row of one's own of one cell each, opened. -/
structure Row1 (w : World) (base : Nat) (e : TypeId) (g n cap : Nat) (cur : Array Value) (xs : List Value) : Prop where
  base : base ≤ g
  box : Box w g e cur
  le : n ≤ cap
  max : cap ≤ maxLen
  size : cur.size = cap
  take : cur.toList.take n = xs
theorem row_open {w : World} {base : Nat} {e : TypeId} {v : Value} {n : Nat} {xs : List Value} (h : w.ownsRow base e 1 v n xs) (hp : 0 < n) : ∃ g cap cur, v = .slice (some ⟨g, 0, none⟩) n cap ∧ Row1 w base e g n cap cur xs := by
  rcases h.2 with ⟨rfl, h0⟩ | ⟨g, cap, cur, rfl, hb, hcells, hl, hm, hsz, htk⟩
  · omega
  · rw [Nat.mul_one] at hsz htk
    exact ⟨g, cap, cur, rfl, hb, hcells, hl, hm, hsz, htk⟩
theorem Row1.own {w : World} {base : Nat} {e : TypeId} {g n cap : Nat} {cur : Array Value} {xs : List Value} (h : Row1 w base e g n cap cur xs) (hn : xs.length = n) : w.ownsRow base e 1 (.slice (some ⟨g, 0, none⟩) n cap) n xs :=
  ⟨by rw [hn, Nat.mul_one], .inr ⟨g, cap, cur, rfl, h.base, h.box, h.le, h.max, by rw [Nat.mul_one]; exact h.size, by rw [Nat.mul_one]; exact h.take⟩⟩
theorem Row1.put {w : World} {base : Nat} {e : TypeId} {g n cap : Nat} {cur : Array Value} {xs : List Value} (h : Row1 w base e g n cap cur xs) (i : Nat) (y : Value) : Row1 (w.setCell ⟨g, i, none⟩ y) base e g n cap (cur.setIfInBounds i y) (xs.set i y) :=
  ⟨h.base, h.box.set_ i y, h.le, h.max, by simpa using h.size, by rw [Array.toList_setIfInBounds, List.take_set, h.take]⟩
theorem Row1.at_ {w : World} {base : Nat} {e : TypeId} {g n cap : Nat} {cur : Array Value} {xs : List Value} (h : Row1 w base e g n cap cur xs) (i : Nat) (h1 : i < xs.length) (h2 : i < n) : w.cell? ⟨g, i, none⟩ = some xs[i] := by
  rw [h.box.cell i]
  have h4 : (cur.toList.take n)[i]? = some xs[i] := by rw [h.take]; exact List.getElem?_eq_getElem h1
  rwa [List.getElem?_take, if_pos h2, Array.getElem?_toList] at h4
theorem Row1.below {w0 w : World} {base : Nat} {e : TypeId} {g n cap : Nat} {cur : Array Value} {xs : List Value} (h : Row1 w base e g n cap cur xs) (hE : Below base w0 w) (i : Nat) (y : Value) : Below base w0 (w.setCell ⟨g, i, none⟩ y) := hE.setCell (p := ⟨g, i, none⟩) h.base y
theorem Row1.st {w w' : World} {base : Nat} {e : TypeId} {g n cap : Nat} {cur : Array Value} {xs : List Value} (h : Row1 w base e g n cap cur xs) (hE : Ext w w') : Row1 w' base e g n cap cur xs := ⟨h.base, h.box.ext hE, h.le, h.max, h.size, h.take⟩
theorem flat_bound (m : Nat) : ∀ ws : List (List UInt8), (∀ b ∈ ws, b.length ≤ m) → ws.flatten.length ≤ ws.length * m
  | [], _ => by simp
  | w :: ws, h => by
    have h1 := flat_bound m ws (fun b hb => h b (List.mem_cons_of_mem _ hb))
    have h2 := h w (List.mem_cons_self ..)
    rw [List.flatten_cons, List.length_append, List.length_cons, Nat.add_mul]
    omega
section
variable {P : Program} {Q : Exit → Act → World → Prop} {ops : Array Oper} {M m : Nat} {a0 : Act} {w0 : World} {K : List Oper → List VP → Prop} {o : Oper} {rest : List Oper} {env : List VP}
theorem VWalk.index1E {bl n c : Nat} (t e : TypeId) (x y : Operand) (k : IntKind) (i : Nat) (ho : o.op = .indexAddr t x y) (hu : P.underlying t = some (.slice e)) (hsz : (P.info? e).map (·.size) = some 1)
    (hw : Want ops M a0 w0 env o true) (hx : Opd ops M a0 w0 env o x (VEq (.slice (some ⟨bl, 0, none⟩) n c))) (hy : Opd ops M a0 w0 env o y (VEq (.int k (i : Int)))) (hlt : i < n)
    (hr : VWalk P Q ops M a0 w0 K m rest (VEq (.pointer (some ⟨bl, i, none⟩)) :: env)) : VWalk P Q ops M a0 w0 K (m + 1) (o :: rest) env :=
  .det2 x y hw hx hy (fun ρ w _ hA hY => by
    have he : P.elem t = e := by unfold Program.elem; rw [hu]
    cases hi' : P.info? e with
    | none => simp [hi'] at hsz
    | some ie =>
      simp only [hi', Option.map_some, Option.some.injEq] at hsz
      have hu' : P.underlying t = some (.slice (P.elem t)) := by rw [he]; exact hu
      unfold execOp
      simp [ho, hA, hY, run_indexAt_slice (h := hu'), hu, sizeOf, typeInfo, hi', hsz, hlt, addr_add, go_sem, Result.andThen]) hr
end
theorem set2_get {α : Type} (ls : List α) (i k : Nat) (hi : i < ls.length) (hk : k < ls.length) (j : Nat) (hj : j < ((ls.set i ls[k]).set k ls[i]).length) : ∃ (q : Nat) (hq : q < ls.length), ((ls.set i ls[k]).set k ls[i])[j] = ls[q] ∧ ∀ {β : Type} (xs : List β) (hl : xs.length = ls.length) (hj' : j < ((xs.set i (xs[k]'(by omega))).set k (xs[i]'(by omega))).length), ((xs.set i (xs[k]'(by omega))).set k (xs[i]'(by omega)))[j] = xs[q]'(by omega) := by
  have hjl : j < ls.length := by simpa using hj
  by_cases h1 : k = j
  · exact ⟨i, hi, by subst h1; simp, fun xs hl hj' => by subst h1; simp⟩
  · by_cases h2 : i = j
    · exact ⟨k, hk, by subst h2; simp [h1], fun xs hl hj' => by subst h2; simp [h1]⟩
    · exact ⟨j, hjl, by simp [h1, h2], fun xs hl hj' => by simp [h1, h2]⟩
end Go.Proofs.Ytkbhkadienddmaa
