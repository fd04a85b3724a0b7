/- From a reading of what came in to the walk's predicates; and the row's last step where the world has only grown. -/
import Derived.Test.YtfbamdkalamliaaX
import Derived.ProofKit
import Derived.ChangeOld
import Derived.Deep.Slices
import Derived.Lib.SmallJoins
namespace Go.Proofs.Ytfbamdkalamliaa
open Go.RowKit Go.ChangeShapes Go.WideShapes Go.ChangeAt Go.Deep

section
variable {H : Type} {enc : TypeId × Value → H} {P : Program} {w : World} {base : Nat} {spare : Nat → Bool} {held : Bool}

theorem byte_of_wf {z : Int} (h : (Lit.int .u8 z).wf = true) : (Value.int .u8 z) = byteV (UInt8.ofNat z.toNat) := by
  have h1 : 0 ≤ z ∧ z < 256 := by
    have h2 : (0 : Int) ≤ z ∧ z ≤ 255 := by
      simp only [Lit.wf, Bool.and_eq_true, decide_eq_true_eq] at h
      exact h
    omega
  unfold byteV
  congr 1
  rw [UInt8.toNat_ofNat']
  omega
theorem lt_of_cell {a : Addr} {v : Value} (h : w.cell? a = some v) : a.block < w.heap.size := World.block_lt_of_cell? w _ h
theorem bytes_of_trod {t e : TypeId} {fuel : Nat} {cs : List Value} {x : DataW H × List MemPlace} (ht : P.underlying t = some (.slice e)) (he : P.underlying e = some (.int .u8)) (hc : P.cellsOf e = 1)
    (h : DataW.trod enc P w base spare held fuel t cs = some x) : ∃ bs v, cs = [v] ∧ VBytes bs v w := by
  rcases open_ints ht he hc h with ⟨rfl, _⟩ | ⟨⟨b, off, spot⟩, len, cap, zs, rfl, _, hl, hm, hz, _, hcell, hwz⟩
  · exact ⟨[], _, rfl, nil_bytes w⟩
  · have hle : len ≤ zs.length := by rw [hz]; split <;> omega
    have hlen : ((zs.take len).map fun z => UInt8.ofNat z.toNat).length = len := by simp; omega
    refine ⟨(zs.take len).map fun z => UInt8.ofNat z.toNat, _, rfl, ?_⟩
    have := VBytes.of (bs := (zs.take len).map fun z => UInt8.ofNat z.toNat) (A := some ⟨b, off, spot⟩) (c := cap) (w := w) (by omega) hm (fun hp => by
      have h0 := hcell 0 (by omega)
      have hspot : spot = none := by simpa [Addr.add] using World.cell?_spot h0
      subst hspot
      refine ⟨b, off, rfl, lt_of_cell h0, fun j hj => ?_⟩
      rw [hlen] at hj
      have h1 := hcell j (by omega)
      rw [addr_add] at h1
      rw [h1]
      have h2 : zs.getD j 0 ∈ zs := by
        rw [List.getD_eq_getElem?_getD, List.getElem?_eq_getElem (by omega : j < zs.length)]
        exact List.getElem_mem _
      have h3 := byte_of_wf (hwz _ h2)
      rw [h3]
      unfold byteV
      congr 3
      simp [List.getD_eq_getElem?_getD, List.getElem?_eq_getElem (by omega : j < zs.length)])
    rwa [hlen] at this
theorem open_bytes {r : Reach} {b0 : Nat} {t e : TypeId} {v : Value} {d : DataW H} {p : List MemPlace} (ht : P.underlying t = some (.slice e)) (he : P.underlying e = some (.int .u8)) (hc : P.cellsOf e = 1)
    (hv : Value.okWide P w r b0 t v) (h : DataW.Trod enc P w base spare held t v d p) : ∃ bs, VBytes bs v w := by
  obtain ⟨A, n, c, rfl⟩ := okWide_slice ht hv
  obtain ⟨fuel, hf⟩ := h
  obtain ⟨bs, u, hu, hb⟩ := bytes_of_trod ht he hc hf
  have : u = .slice A n c := by simp [Value.cells] at hu; exact hu.symm
  exact ⟨bs, this ▸ hb⟩
theorem parts_of_trod {t e e' : TypeId} {fuel : Nat} {cs : List Value} {x : DataW H × List MemPlace} (ht : P.underlying t = some (.slice e)) (hc : P.cellsOf e = 1) (he : P.underlying e = some (.slice e')) (he' : P.underlying e' = some (.int .u8)) (hc' : P.cellsOf e' = 1)
    (h : DataW.trod enc P w base spare held fuel t cs = some x) : ∃ ps v, cs = [v] ∧ VParts ps v w := by
  rcases open_slice1 ht hc h with ⟨rfl, _⟩ | ⟨⟨b, off, spot⟩, len, cap, m, n, V, D, Pl, rfl, _, hl, hm, hmm, _, hx⟩
  · exact ⟨[], _, rfl, none, 0, rfl, Nat.le_refl _, by decide, fun h => by simp at h⟩
  · have hle : len ≤ m := by rw [hmm]; split <;> omega
    have hex : ∀ i, ∃ bs : List UInt8, i < len → VBytes bs (V i) w := fun i => by
      by_cases hi : i < len
      · obtain ⟨bs, u, hu, hb⟩ := bytes_of_trod he he' hc' (hx i (by omega)).2
        have : u = V i := by simpa using hu.symm
        exact ⟨bs, fun _ => this ▸ hb⟩
      · exact ⟨[], fun h => absurd h hi⟩
    refine ⟨(List.range len).map fun i => Classical.choose (hex i), _, rfl, ?_⟩
    have hlen : (((List.range len).map fun i => Classical.choose (hex i)).map VBytes).length = len := by simp
    refine ⟨some ⟨b, off, spot⟩, cap, by rw [hlen], by rw [hlen]; exact hl, hm, fun hp => ?_⟩
    rw [hlen] at hp
    have h0 := (hx 0 (by omega)).1
    have hspot : spot = none := by simpa [Addr.add] using World.cell?_spot h0
    subst hspot
    refine ⟨b, off, rfl, lt_of_cell h0, fun j F hj => ?_⟩
    have hjl : j < len := by have := (List.getElem?_eq_some_iff.1 hj).1; rwa [hlen] at this
    have h1 := (hx j (by omega)).1
    rw [addr_add] at h1
    refine ⟨V j, h1, ?_⟩
    rw [List.getElem?_map, List.getElem?_map, List.getElem?_range hjl] at hj
    simp only [Option.map_some, Option.some.injEq] at hj
    subst hj
    exact Classical.choose_spec (hex j) hjl
theorem open_parts {r : Reach} {b0 : Nat} {t e e' : TypeId} {v : Value} {d : DataW H} {p : List MemPlace} (ht : P.underlying t = some (.slice e)) (hc : P.cellsOf e = 1) (he : P.underlying e = some (.slice e')) (he' : P.underlying e' = some (.int .u8)) (hc' : P.cellsOf e' = 1)
    (hv : Value.okWide P w r b0 t v) (h : DataW.Trod enc P w base spare held t v d p) : ∃ ps, VParts ps v w := by
  obtain ⟨A, n, c, rfl⟩ := okWide_slice ht hv
  obtain ⟨fuel, hf⟩ := h
  obtain ⟨ps, u, hu, hb⟩ := parts_of_trod ht hc he he' hc' hf
  have : u = .slice A n c := by simp [Value.cells] at hu; exact hu.symm
  exact ⟨ps, this ▸ hb⟩

theorem i64_of_wf {n : Int} (h : (Lit.int .i64 n).wf = true) : -9223372036854775808 ≤ n ∧ n ≤ 9223372036854775807 := by
  simp only [Lit.wf, Bool.and_eq_true, decide_eq_true_eq] at h
  exact h
theorem ints_of_trod {t e : TypeId} {fuel : Nat} {cs : List Value} {x : DataW H × List MemPlace} (ht : P.underlying t = some (.slice e)) (he : P.underlying e = some (.int .i64)) (hc : P.cellsOf e = 1)
    (h : DataW.trod enc P w base spare held fuel t cs = some x) : ∃ ns v, cs = [v] ∧ VInts ns v w := by
  rcases open_ints ht he hc h with ⟨rfl, _⟩ | ⟨⟨b, off, spot⟩, len, cap, zs, rfl, _, hl, hm, hz, _, hcell, hwz⟩
  · exact ⟨[], _, rfl, none, 0, rfl, Nat.le_refl _, by decide, fun h => by simp at h⟩
  · have hle : len ≤ zs.length := by rw [hz]; split <;> omega
    have hlen : (zs.take len).length = len := by simp; omega
    refine ⟨zs.take len, _, rfl, some ⟨b, off, spot⟩, cap, by rw [List.length_map, hlen], by rw [List.length_map, hlen]; exact hl, hm, fun hp => ?_⟩
    rw [List.length_map, hlen] at hp
    have h0 := hcell 0 (by omega)
    have hspot : spot = none := by simpa [Addr.add] using World.cell?_spot h0
    subst hspot
    refine ⟨b, off, rfl, lt_of_cell h0, fun j F hj => ?_⟩
    rw [List.getElem?_map] at hj
    obtain ⟨y, hy, rfl⟩ := Option.map_eq_some_iff.1 hj
    have hjl : j < len := by have := (List.getElem?_eq_some_iff.1 hy).1; rwa [hlen] at this
    have h1 := hcell j (by omega)
    rw [addr_add] at h1
    refine ⟨_, h1, ?_⟩
    rw [List.getElem?_take, if_pos hjl] at hy
    show _ = _
    rw [List.getD_eq_getElem?_getD, hy]; rfl
theorem open_nums {r : Reach} {b0 : Nat} {t e : TypeId} {v : Value} {d : DataW H} {p : List MemPlace} (ht : P.underlying t = some (.slice e)) (he : P.underlying e = some (.int .i64)) (hc : P.cellsOf e = 1)
    (hv : Value.okWide P w r b0 t v) (h : DataW.Trod enc P w base spare held t v d p) : ∃ ns, VInts ns v w := by
  obtain ⟨A, n, c, rfl⟩ := okWide_slice ht hv
  obtain ⟨fuel, hf⟩ := h
  obtain ⟨ns, u, hu, hb⟩ := ints_of_trod ht he hc hf
  have : u = .slice A n c := by simp [Value.cells] at hu; exact hu.symm
  exact ⟨ns, this ▸ hb⟩
/-- What came in reads behind the call as it did ahead of it. -/
theorem trodAll_below (hl : laidOutB P = true) {W W' : World} (hb : Below W.heap.size W W') : ∀ (ts : List TypeId), (ts.all fun t => P.readableRec t && decide (t < P.types.size)) = true → ∀ (vs : List Value) (ds : List (DataW H)) (ps : List MemPlace),
    DataW.TrodAll enc P W 0 (fun _ => true) true ts vs ds ps → (∀ x ∈ ps, x.block < W.heap.size) → DataW.TrodAll enc P W' 0 (fun b => decide (b < W.heap.size)) true ts vs ds ps := by
  intro ts
  induction ts with
  | nil =>
    intro _ vs ds ps h _
    obtain ⟨rfl, rfl, rfl⟩ := trodAll_nil h
    exact trodAll_mk0
  | cons t ts ih =>
    intro hts vs ds ps h hlt
    simp only [List.all_cons, Bool.and_eq_true, decide_eq_true_eq] at hts
    obtain ⟨v, vs', d, ds', p, q, rfl, rfl, rfl, h1, h2⟩ := trodAll_cons h
    exact trodAll_cons_mk (Below.trod hl hts.1.1 hts.1.2 h1 hb fun x hx => hlt x (List.mem_append_left _ hx)) (ih hts.2 _ _ _ h2 fun x hx => hlt x (List.mem_append_right _ hx))
end
end Go.Proofs.Ytfbamdkalamliaa
