/- Appending bytes onto a row of the call's own; slices that own their row. -/
import Derived.Test.YtfbamdkalamliaaX
import Derived.Maps.AppendAt
import Derived.OwnWalk
import Derived.Deep.Draws
namespace Go.Proofs.Ytfbamdkalamliaa
open Go.RowKit

section
variable {P : Program} {w : World}
/-- The slice value owns a row of just these bytes. -/
def OwnB (w : World) (base : Nat) (e : TypeId) (v : Value) (bs : List UInt8) : Prop := w.ownsRow base e 1 v bs.length (bs.map byteV)

theorem OwnB.bytes {base : Nat} {e : TypeId} {v : Value} {bs : List UInt8} (h : OwnB w base e v bs) : VBytes bs v w := by
  obtain ⟨h1, h2⟩ := h
  rcases h2 with ⟨rfl, h0⟩ | ⟨g, cap, cur, rfl, hb, hg, hn, hc, hs, ht⟩
  · obtain rfl := List.eq_nil_of_length_eq_zero h0
    exact VBytes.of (bs := []) (Nat.le_refl _) (by decide) (fun h => by simp at h)
  · refine VBytes.of hn hc fun hp => ⟨g, 0, rfl, (Array.getElem?_eq_some_iff.1 hg).1, fun j hj => ?_⟩
    rw [Nat.zero_add, cell_of_row w g j cur e (0, 0) hg]
    have h3 : (cur.toList.take (bs.length * 1))[j]? = (bs.map byteV)[j]? := by rw [ht]
    rw [List.getElem?_take, if_pos (by omega), List.getElem?_map, List.getElem?_eq_getElem hj] at h3
    rw [← Array.getElem?_toList]; exact h3
theorem ext_of_grown {w w' : World} {row : Option Nat} (hg : w.grownBy w' row) (h : row = none) : Ext w w' := ⟨hg.os, hg.tape, hg.output, hg.size, fun k hk => hg.block k hk (by rw [h]; simp)⟩
theorem ext_drewN (w : World) (n : Nat) : Ext w (w.drewN n) := ⟨rfl, rfl, rfl, Nat.le_refl _, fun _ _ => rfl⟩
theorem OwnB.nil (w : World) (base : Nat) (e : TypeId) : OwnB w base e (.slice none 0 0) [] := World.ownsRow_nil w base e 1
theorem OwnB.made (w : World) (base : Nat) (e : TypeId) (h : base ≤ w.heap.size) : OwnB (w.alloc (.cells #[] e)) base e (.slice (some ⟨w.heap.size, 0, none⟩) 0 0) [] :=
  World.ownsRow_made w #[] 0 h (by decide) rfl
theorem OwnB.st {base : Nat} {e : TypeId} {v : Value} {bs : List UInt8} {w' : World} (h : OwnB w base e v bs) (hE : Ext w w') : OwnB w' base e v bs := by
  refine ⟨h.1, ?_⟩
  rcases h.2 with h2 | ⟨g, cap, cur, rfl, hb, hg, r⟩
  · exact .inl h2
  · exact .inr ⟨g, cap, cur, rfl, hb, (hE.block g (Array.getElem?_eq_some_iff.1 hg).1).trans hg, r⟩

/-- A row of one's own, opened: it may be read and written at its places. -/
theorem OwnB.row {w : World} {base : Nat} {e : TypeId} {v : Value} {bs : List UInt8} (h : OwnB w base e v bs) (hp : 0 < bs.length) : ∃ g cap cur, v = .slice (some ⟨g, 0, none⟩) bs.length cap ∧ base ≤ g ∧ Box w g e cur ∧ bs.length ≤ cap ∧ cap ≤ maxLen ∧ cur.size = cap ∧ cur.toList.take bs.length = bs.map byteV := by
  obtain ⟨_, ⟨_, h0⟩ | ⟨g, cap, cur, rfl, hb, hcells, hl, hm, hsz, htk⟩⟩ := h
  · omega
  · rw [Nat.mul_one] at hsz htk
    exact ⟨g, cap, cur, rfl, hb, hcells, hl, hm, hsz, htk⟩
theorem row_at {cur : Array Value} {bs : List UInt8} (h : cur.toList.take bs.length = bs.map byteV) {i : Nat} (hi : i < bs.length) : cur[i]? = some (byteV bs[i]) := by
  have h1 : (cur.toList.take bs.length)[i]? = some (byteV bs[i]) := by rw [h, List.getElem?_map, List.getElem?_eq_getElem hi]; rfl
  rwa [List.getElem?_take, if_pos hi, Array.getElem?_toList] at h1
theorem OwnB.put {w : World} {base : Nat} {e : TypeId} {g cap : Nat} {cur : Array Value} {bs : List UInt8} (hb : base ≤ g) (hx : Box w g e cur) (hl : bs.length ≤ cap) (hm : cap ≤ maxLen) (hsz : cur.size = cap) (htk : cur.toList.take bs.length = bs.map byteV) (i : Nat) (b : UInt8) :
    OwnB (w.setCell ⟨g, i, none⟩ (byteV b)) base e (.slice (some ⟨g, 0, none⟩) bs.length cap) (bs.set i b) := by
  refine ⟨by simp, .inr ⟨g, cap, cur.setIfInBounds i (byteV b), by simp, hb, hx.set_ i _, by simpa using hl, hm, by simpa using hsz, ?_⟩⟩
  rw [Nat.mul_one, List.length_set, Array.toList_setIfInBounds, List.take_set, htk, List.map_set]
theorem OwnB.ge {w : World} {base : Nat} {e : TypeId} {v : Value} {bs : List UInt8} (h : OwnB w base e v bs) (k : Nat) (hk : v.ownBlock = some k) : base ≤ k := by
  obtain ⟨_, ⟨rfl, _⟩ | ⟨g, cap, cur, rfl, hb, _⟩⟩ := h
  · cases hk
  · cases hk; exact hb
theorem OwnB.form {w : World} {base : Nat} {e : TypeId} {v : Value} {bs : List UInt8} (h : OwnB w base e v bs) : ∃ A c, v = .slice A bs.length c := by
  obtain ⟨_, ⟨rfl, h0⟩ | ⟨g, cap, cur, rfl, _⟩⟩ := h
  · exact ⟨none, 0, by rw [h0]⟩
  · exact ⟨_, _, rfl⟩
theorem OwnB.low {w : World} {base base' : Nat} {e : TypeId} {v : Value} {bs : List UInt8} (h : OwnB w base e v bs) (hb : base' ≤ base) : OwnB w base' e v bs := by
  obtain ⟨h0, h1 | ⟨g, cap, cur, h2, h3, h4⟩⟩ := h
  · exact ⟨h0, .inl h1⟩
  · exact ⟨h0, .inr ⟨g, cap, cur, h2, Nat.le_trans hb h3, h4⟩⟩
theorem run_append_bytes (base : Nat) (t ty e : TypeId) (i : TypeInfo) (z : Value) (ht : P.underlying t = some (.slice e)) (hi : P.info? e = some i) (hz : i.zero = some z) (hs : i.size = 1) (hb : i.bytes = 1) (hzs : z.cells.size = 1)
    (v u : Value) (al bs : List UInt8) (hown : OwnB w base e v al) (hx : VBytes bs u w) (hlen : al.length + bs.length ≤ 1000000) (hbase : base ≤ w.heap.size) :
    ∃ v' w', (Builtin.append_ #[t, t] ty #[v, u]).run P w = .ok v' w' ∧ OwnB w' base e v' (al ++ bs) ∧ w.grownBy w' v.ownBlock ∧ (v'.ownBlock = v.ownBlock ∨ v'.ownBlock = some w.heap.size) := by
  obtain ⟨A, c, rfl, h2, h3, h4⟩ := VBytes.form hx
  rcases A with _ | ad
  · have : bs = [] := by
      rcases Nat.eq_zero_or_pos bs.length with h0 | h0
      · exact List.eq_nil_of_length_eq_zero h0
      · obtain ⟨_, _, h, _⟩ := h4 h0; cases h
    subst this
    refine ⟨v, w, ?_, by simpa using hown, World.grownBy.refl w _, .inl rfl⟩
    rcases hown.2 with ⟨rfl, _⟩ | ⟨g, cap, cur, rfl, _, _, hnc, _⟩
    · simp [Builtin.append_, run_underlying ht, sizeOf, typeInfo, hi, Builtin.lenOf, Builtin.firstCells]
    · simp [Builtin.append_, run_underlying ht, sizeOf, typeInfo, hi, Builtin.lenOf, Builtin.firstCells, hnc, storeCells]
  · obtain ⟨v', w', h5, h6, h7, _, h9⟩ := run_append_own_at (P := P) w base t ty e i z 1 1 ht hi hz hs hb hzs (by omega) v al.length (al.map byteV) hown ad bs.length c (bs.map byteV) (by simp) (fun j x hj => by
      rw [List.getElem?_map] at hj
      obtain ⟨y, hy, rfl⟩ := Option.map_eq_some_iff.1 hj
      obtain ⟨hlt, rfl⟩ := List.getElem?_eq_some_iff.1 hy
      obtain ⟨b, off, hA, _, hcell⟩ := h4 (by omega)
      cases hA
      rw [addr_add, hcell j hlt]; rfl) (fun x hx => by obtain ⟨b, _, rfl⟩ := List.mem_map.1 hx; rfl) (by unfold maxLen; omega) (by omega) hbase
    refine ⟨v', w', h5, ?_, h7, h9⟩
    unfold OwnB
    rw [List.length_append, List.map_append]
    exact h6

theorem wp_append_bytes {o : Oper} {a : Act} {K : Act → World → Prop} {Q : Exit → Act → World → Prop} (s x : Operand) (t : TypeId)
    (ho : o.op = .call { callee := .builtin .append, args := #[s, x], argTypes := #[t, t] })
    (base : Nat) (e : TypeId) (i : TypeInfo) (z : Value) (ht : P.underlying t = some (.slice e)) (hi : P.info? e = some i) (hz : i.zero = some z) (hs : i.size = 1) (hb : i.bytes = 1) (hzs : z.cells.size = 1)
    (v u : Value) (al bs : List UInt8) (hv : a.eval s = v) (hown : OwnB w base e v al) (hu : a.eval x = u) (hx : VBytes bs u w) (hlen : al.length + bs.length ≤ 1000000) (hbase : base ≤ w.heap.size)
    (h : ∀ v' w', OwnB w' base e v' (al ++ bs) → w.grownBy w' v.ownBlock → (v'.ownBlock = v.ownBlock ∨ v'.ownBlock = some w.heap.size) → K (a.put o.dst v') w') : o.wp P a w K Q := by
  obtain ⟨v', w', hrun, h2, h3, h4⟩ := run_append_bytes (P := P) base t o.type e i z ht hi hz hs hb hzs v u al bs hown hx hlen hbase
  unfold Oper.wp execOp
  simp only [ho, resolve, invoke, builtin, Sem.run_bind, Sem.run_pure, Result.andThen_ok, List.map_toArray, List.map_cons, List.map_nil, hv, hu, hrun]
  exact h v' w' h2 h3 h4

theorem wpList_append_bytes {ops : Array Oper} {rest : List Oper} {o : Oper} {a : Act} {Q : Exit → Act → World → Prop} (hgd : o.guard = none) (s x : Operand) (t : TypeId)
    (ho : o.op = .call { callee := .builtin .append, args := #[s, x], argTypes := #[t, t] })
    (base : Nat) (e : TypeId) (i : TypeInfo) (z : Value) (ht : P.underlying t = some (.slice e)) (hi : P.info? e = some i) (hz : i.zero = some z) (hs : i.size = 1) (hb : i.bytes = 1) (hzs : z.cells.size = 1)
    (v u : Value) (al bs : List UInt8) (hv : a.eval s = v) (hown : OwnB w base e v al) (hu : a.eval x = u) (hx : VBytes bs u w) (hlen : al.length + bs.length ≤ 1000000) (hbase : base ≤ w.heap.size)
    (h : ∀ v' w', OwnB w' base e v' (al ++ bs) → w.grownBy w' v.ownBlock → (v'.ownBlock = v.ownBlock ∨ v'.ownBlock = some w.heap.size) → wpList P ops Q rest (a.put o.dst v') w') : wpList P ops Q (o :: rest) a w :=
  wpList_plain hgd fun _ hK => wp_append_bytes s x t ho base e i z ht hi hz hs hb hzs v u al bs hv hown hu hx hlen hbase fun v' w' h2 h3 h4 => hK _ _ (h v' w' h2 h3 h4)

/-- A row that was made for an append's source, and the append. -/
theorem below_ng {wa wr w' : World} {o : Obj} {row : Option Nat} (hE : Below wa.heap.size wa wr) (hg : (wr.alloc o).grownBy w' row) (hr : ∀ k, row = some k → wa.heap.size ≤ k) : Below wa.heap.size wa w' := by
  have h2 := hE.trans ((ext_alloc wr o).mono hE.size)
  exact h2.grown hg h2.size hr
/-! Rows of one's own, whatever their elements. -/
theorem own_st {base : Nat} {e : TypeId} {size n : Nat} {v : Value} {xs : List Value} {w' : World} (h : w.ownsRow base e size v n xs) (hE : Ext w w') : w'.ownsRow base e size v n xs := by
  refine ⟨h.1, ?_⟩
  rcases h.2 with h2 | ⟨g, cap, cur, rfl, hb, hg, r⟩
  · exact .inl h2
  · exact .inr ⟨g, cap, cur, rfl, hb, (hE.block g (Array.getElem?_eq_some_iff.1 hg).1).trans hg, r⟩
theorem own_ge {base : Nat} {e : TypeId} {size n : Nat} {v : Value} {xs : List Value} (h : w.ownsRow base e size v n xs) (k : Nat) (hk : v.ownBlock = some k) : base ≤ k := by
  obtain ⟨_, ⟨rfl, _⟩ | ⟨g, cap, cur, rfl, hb, _⟩⟩ := h
  · cases hk
  · cases hk; exact hb
theorem own_lt {base : Nat} {e : TypeId} {size n : Nat} {v : Value} {xs : List Value} (h : w.ownsRow base e size v n xs) (k : Nat) (hk : v.ownBlock = some k) : k < w.heap.size := by
  obtain ⟨_, ⟨rfl, _⟩ | ⟨g, cap, cur, rfl, hb, hg, _⟩⟩ := h
  · cases hk
  · cases hk; exact (Array.getElem?_eq_some_iff.1 hg).1
/-- A row of one's own stands what is done at another row that was there ahead of it. -/
theorem own_other {base : Nat} {e : TypeId} {size n : Nat} {v : Value} {xs : List Value} {o : Obj} {w' : World} {row : Option Nat} (h : w.ownsRow base e size v n xs) (hg : (w.alloc o).grownBy w' row) (hr : ∀ k, row = some k → k < base) : w'.ownsRow base e size v n xs := by
  refine ⟨h.1, ?_⟩
  rcases h.2 with h2 | ⟨g, cap, cur, rfl, hb, hgc, r⟩
  · exact .inl h2
  · have hlt := (Array.getElem?_eq_some_iff.1 hgc).1
    exact .inr ⟨g, cap, cur, rfl, hb, ((hg.block g (by simp; omega) (fun e => by have := hr g e.symm; omega)).trans (Below.heap_alloc _ _ _ (by omega))).trans hgc, r⟩
theorem own_form {base : Nat} {e : TypeId} {size n : Nat} {v : Value} {xs : List Value} (h : w.ownsRow base e size v n xs) : ∃ A c, v = .slice A n c := by
  obtain ⟨_, ⟨rfl, h0⟩ | ⟨g, cap, cur, rfl, _⟩⟩ := h
  · exact ⟨none, 0, by rw [h0]⟩
  · exact ⟨_, _, rfl⟩
theorem own_grown {base : Nat} {e : TypeId} {size n : Nat} {v : Value} {xs : List Value} {w' : World} {row : Option Nat} (h : w.ownsRow base e size v n xs) (hg : w.grownBy w' row) (hr : ∀ k, row = some k → k < base) : w'.ownsRow base e size v n xs := by
  refine ⟨h.1, ?_⟩
  rcases h.2 with h2 | ⟨g, cap, cur, rfl, hb, hgc, r⟩
  · exact .inl h2
  · exact .inr ⟨g, cap, cur, rfl, hb, (hg.block g (Array.getElem?_eq_some_iff.1 hgc).1 (fun e => by have := hr g e.symm; omega)).trans hgc, r⟩
/-- What is appended: m elements, whose cells are these. -/
def Src (w : World) (u : Value) (m : Nat) (news : List Value) : Prop := ∃ A c, u = .slice A m c ∧ (0 < m → ∃ b off, A = some ⟨b, off, none⟩ ∧ ∀ (j : Nat) (x : Value), news[j]? = some x → w.cell? ⟨b, off + j, none⟩ = some x)
theorem Src.st {u : Value} {m : Nat} {news : List Value} {w' : World} (h : Src w u m news) (hE : Ext w w') : Src w' u m news := by
  obtain ⟨A, c, rfl, h2⟩ := h
  refine ⟨A, c, rfl, fun hm => ?_⟩
  obtain ⟨b, off, rfl, hc⟩ := h2 hm
  refine ⟨b, off, rfl, fun j x hj => ?_⟩
  have h3 := hc j x hj
  exact (hE.cell (World.block_lt_of_cell? w _ h3)).trans h3
theorem Src.vals {xs : List Value} {u : Value} (h : VSl (xs.map VEq) u w) : Src w u xs.length xs := by
  obtain ⟨A, c, h1, _, _, h4⟩ := h
  rw [List.length_map] at h1 h4
  refine ⟨A, c, h1, fun hm => ?_⟩
  obtain ⟨b, off, rfl, _, hc⟩ := h4 hm
  refine ⟨b, off, rfl, fun j x hj => ?_⟩
  obtain ⟨z, h5, h6⟩ := hc j (VEq x) (by rw [List.getElem?_map, hj]; rfl)
  rw [h5, show z = x from h6]
theorem Src.ints {ns : List Int} {u : Value} (h : VInts ns u w) : Src w u ns.length (ns.map (.int .i64)) := by
  have := Src.vals (w := w) (xs := ns.map (.int .i64)) (u := u) (by rw [List.map_map]; exact h)
  rwa [List.length_map] at this
theorem Src.bytes {bs : List UInt8} {u : Value} (h : VBytes bs u w) : Src w u bs.length (bs.map byteV) := by
  have := Src.vals (w := w) (xs := bs.map byteV) (u := u) (by rw [List.map_map]; exact h)
  rwa [List.length_map] at this
/-- A row that was just written out. -/
theorem Src.new (w : World) (t : TypeId) (cs : Array Value) (m : Nat) : Src (w.alloc (.cells cs t)) (.slice (some ⟨w.heap.size, 0, none⟩) m m) m cs.toList :=
  ⟨_, _, rfl, fun _ => ⟨_, _, rfl, fun j x hj => by rw [Nat.zero_add, (Box.new w t cs).cell j]; simpa using hj⟩⟩
theorem run_append_src (base : Nat) (t ty e : TypeId) (i : TypeInfo) (z : Value) (size bytes : Nat) (ht : P.underlying t = some (.slice e)) (hi : P.info? e = some i) (hz : i.zero = some z) (hs : i.size = size) (hb : i.bytes = bytes) (hzs : z.cells.size = size) (hsz : 0 < size)
    (v u : Value) (n m : Nat) (xs news : List Value) (hown : w.ownsRow base e size v n xs) (hl : news.length = m * size) (hx : Src w u m news) (h1 : ∀ y ∈ news, y.oneCell' = true) (hlen : (n + m) * (bytes + 1) ≤ 140000000000000) (hbase : base ≤ w.heap.size) :
    ∃ v' w', (Builtin.append_ #[t, t] ty #[v, u]).run P w = .ok v' w' ∧ w'.ownsRow base e size v' (n + m) (xs ++ news) ∧ w.grownBy w' v.ownBlock ∧ (v'.ownBlock = v.ownBlock ∨ v'.ownBlock = some w.heap.size) := by
  obtain ⟨A, c, rfl, h4⟩ := hx
  rcases A with _ | ad
  · obtain rfl : m = 0 := by
      rcases Nat.eq_zero_or_pos m with h | h
      · exact h
      · obtain ⟨_, _, h, _⟩ := h4 h; cases h
    have hn : news = [] := by simpa using hl
    subst hn
    refine ⟨v, w, ?_, by simpa using hown, World.grownBy.refl w _, .inl rfl⟩
    rcases hown.2 with ⟨rfl, _⟩ | ⟨g, cap, cur, rfl, _, _, hnc, _⟩
    · simp [Builtin.append_, run_underlying ht, sizeOf, typeInfo, hi, Builtin.lenOf, Builtin.firstCells]
    · simp [Builtin.append_, run_underlying ht, sizeOf, typeInfo, hi, Builtin.lenOf, Builtin.firstCells, hnc, storeCells]
  · have hb1 : (n + m) * bytes ≤ (n + m) * (bytes + 1) := Nat.mul_le_mul_left _ (by omega)
    have hb2 : (n + m) * 1 ≤ (n + m) * (bytes + 1) := Nat.mul_le_mul_left _ (by omega)
    obtain ⟨v', w', h5, h6, h7, _, h9⟩ := run_append_own_at (P := P) w base t ty e i z size bytes ht hi hz hs hb hzs hsz v n xs hown ad m c news hl (fun j u hj => by
      rcases Nat.eq_zero_or_pos m with rfl | hm
      · have hn : news = [] := by simpa using hl
        subst hn; simp at hj
      · obtain ⟨b, off, e, hc⟩ := h4 hm
        cases e
        rw [addr_add]; exact hc j u hj) h1 (by unfold maxLen; omega) (by omega) hbase
    exact ⟨v', w', h5, h6, h7, h9⟩
theorem wpList_append_src {ops : Array Oper} {rest : List Oper} {o : Oper} {a : Act} {Q : Exit → Act → World → Prop} (hgd : o.guard = none) (s x : Operand) (t : TypeId)
    (ho : o.op = .call { callee := .builtin .append, args := #[s, x], argTypes := #[t, t] })
    (base : Nat) (e : TypeId) (i : TypeInfo) (z : Value) (size bytes : Nat) (ht : P.underlying t = some (.slice e)) (hi : P.info? e = some i) (hz : i.zero = some z) (hs : i.size = size) (hb : i.bytes = bytes) (hzs : z.cells.size = size) (hsz : 0 < size)
    (v u : Value) (n m : Nat) (xs news : List Value) (hv : a.eval s = v) (hown : w.ownsRow base e size v n xs) (hl : news.length = m * size) (hu : a.eval x = u) (hx : Src w u m news) (h1 : ∀ y ∈ news, y.oneCell' = true) (hlen : (n + m) * (bytes + 1) ≤ 140000000000000) (hbase : base ≤ w.heap.size)
    (h : ∀ v' w', w'.ownsRow base e size v' (n + m) (xs ++ news) → w.grownBy w' v.ownBlock → (v'.ownBlock = v.ownBlock ∨ v'.ownBlock = some w.heap.size) → wpList P ops Q rest (a.put o.dst v') w') : wpList P ops Q (o :: rest) a w :=
  wpList_plain hgd fun _ hK => by
    obtain ⟨v', w', hrun, h2, h3, h4⟩ := run_append_src (P := P) base t o.type e i z size bytes ht hi hz hs hb hzs hsz v u n m xs news hown hl hx h1 hlen hbase
    unfold Oper.wp execOp
    simp only [ho, resolve, invoke, builtin, Sem.run_bind, Sem.run_pure, Result.andThen_ok, List.map_toArray, List.map_cons, List.map_nil, hv, hu, hrun]
    exact hK _ _ (h v' w' h2 h3 h4)
/-- A row of numbers. -/
def OwnI (w : World) (base : Nat) (e : TypeId) (v : Value) (ns : List Int) : Prop := w.ownsRow base e 1 v ns.length (ns.map (.int .i64))
theorem OwnI.ints {base : Nat} {e : TypeId} {v : Value} {ns : List Int} (h : OwnI w base e v ns) : VInts ns v w := by
  obtain ⟨h1, h2⟩ := h
  rcases h2 with ⟨rfl, h0⟩ | ⟨g, cap, cur, rfl, hb, hg, hn, hc, hs, ht⟩
  · obtain rfl := List.eq_nil_of_length_eq_zero h0
    exact ⟨none, 0, rfl, Nat.le_refl _, by decide, fun h => by simp at h⟩
  · refine ⟨_, cap, by rw [List.length_map], by rw [List.length_map]; exact hn, hc, fun hp => ⟨g, 0, rfl, (Array.getElem?_eq_some_iff.1 hg).1, fun j F hj => ?_⟩⟩
    rw [Nat.zero_add, cell_of_row w g j cur e (0, 0) hg]
    rw [List.getElem?_map] at hj
    obtain ⟨x, hx, rfl⟩ := Option.map_eq_some_iff.1 hj
    have hjl := (List.getElem?_eq_some_iff.1 hx).1
    have h3 : (cur.toList.take (ns.length * 1))[j]? = (ns.map (Value.int .i64))[j]? := by rw [ht]
    rw [List.getElem?_take, if_pos (by omega), List.getElem?_map, hx] at h3
    exact ⟨.int .i64 x, by rw [← Array.getElem?_toList]; exact h3, rfl⟩
theorem VInts.form {ns : List Int} {u : Value} (h : VInts ns u w) : ∃ A c, u = .slice A ns.length c ∧ ns.length ≤ c ∧ c ≤ maxLen ∧
    (0 < ns.length → ∃ b off, A = some ⟨b, off, none⟩ ∧ b < w.heap.size ∧ ∀ j (hj : j < ns.length), w.cell? ⟨b, off + j, none⟩ = some (.int .i64 ns[j])) := by
  obtain ⟨A, c, h1, h2, h3, h4⟩ := h
  rw [List.length_map] at h1 h2 h4
  refine ⟨A, c, h1, h2, h3, fun hp => ?_⟩
  obtain ⟨b, off, hA, hb, hcell⟩ := h4 hp
  refine ⟨b, off, hA, hb, fun j hj => ?_⟩
  obtain ⟨x, hx, hF⟩ := hcell j (VEq (.int .i64 ns[j])) (by rw [List.getElem?_map, List.getElem?_eq_getElem hj]; rfl)
  rw [hx, show x = _ from hF]
end
end Go.Proofs.Ytfbamdkalamliaa
