/- Predicates on slices of one-cell elements, and what the operations on them do. -/
import Derived.Test.YtfbamdkalamliaaW
import Derived.Great.BuildSlice
import Derived.Shelf.Abstract
namespace Go.Proofs.Ytfbamdkalamliaa
open Go.RowKit

/-- A slice of as many one-cell elements as there are predicates, each of which holds of its element. -/
def VSlP (Fs : List VP) (u : Value) (w : World) : Prop := ∃ A c, u = .slice A Fs.length c ∧ Fs.length ≤ c ∧ c ≤ maxLen ∧
  (0 < Fs.length → ∃ b off, A = some ⟨b, off, none⟩ ∧ b < w.heap.size ∧ ∀ j F, Fs[j]? = some F → ∃ x, w.cell? ⟨b, off + j, none⟩ = some x ∧ F x w)
theorem vslP_wk (Fs : List VP) : ∀ u w w', VSlP Fs u w → Weak w w' → VSlP Fs u w' := by
  rintro u w w' ⟨A, c, rfl, hc, hm, hx⟩ hE
  refine ⟨A, c, rfl, hc, hm, fun hp => ?_⟩
  obtain ⟨b, off, hA, hb, hcell⟩ := hx hp
  refine ⟨b, off, hA, Nat.lt_of_lt_of_le hb hE.size, fun j F hj => ?_⟩
  obtain ⟨x, h1, h2⟩ := hcell j F hj
  exact ⟨x, (hE.cell hb).trans h1, F.wk x w w' h2 hE⟩
def VSl (Fs : List VP) : VP := ⟨VSlP Fs, vslP_wk Fs⟩
theorem VSl.slice {Fs : List VP} {v : Value} {w : World} (h : VSl Fs v w) : ∃ A n c, v = .slice A n c := by obtain ⟨A, c, h, _⟩ := h; exact ⟨A, _, c, h⟩
def byteV (b : UInt8) : Value := .int .u8 (b.toNat : Int)
/-- A slice of these bytes. -/
def VBytes (bs : List UInt8) : VP := VSl (bs.map fun b => VEq (byteV b))
def VInts (ns : List Int) : VP := VSl (ns.map fun n => VEq (.int .i64 n))
/-- A slice of slices of bytes. -/
def VParts (ps : List (List UInt8)) : VP := VSl (ps.map VBytes)

theorem VBytes.form {bs : List UInt8} {u : Value} {w : World} (h : VBytes bs u w) : ∃ A c, u = .slice A bs.length c ∧ bs.length ≤ c ∧ c ≤ maxLen ∧
    (0 < bs.length → ∃ b off, A = some ⟨b, off, none⟩ ∧ b < w.heap.size ∧ ∀ j (hj : j < bs.length), w.cell? ⟨b, off + j, none⟩ = some (.int .u8 (bs[j].toNat : Int))) := by
  obtain ⟨A, c, h1, h2, h3, h4⟩ := h
  rw [List.length_map] at h1 h2 h4
  refine ⟨A, c, h1, h2, h3, fun hp => ?_⟩
  obtain ⟨b, off, hA, hb, hcell⟩ := h4 hp
  refine ⟨b, off, hA, hb, fun j hj => ?_⟩
  obtain ⟨x, hx, hF⟩ := hcell j (VEq (byteV bs[j])) (by rw [List.getElem?_map, List.getElem?_eq_getElem hj]; rfl)
  rw [hx, show x = byteV bs[j] from hF]; rfl
theorem VBytes.of {bs : List UInt8} {A : Option Addr} {c : Nat} {w : World} (h1 : bs.length ≤ c) (h2 : c ≤ maxLen)
    (h : 0 < bs.length → ∃ b off, A = some ⟨b, off, none⟩ ∧ b < w.heap.size ∧ ∀ j (hj : j < bs.length), w.cell? ⟨b, off + j, none⟩ = some (.int .u8 (bs[j].toNat : Int))) : VBytes bs (.slice A bs.length c) w := by
  refine ⟨A, c, by rw [List.length_map], by rwa [List.length_map], h2, fun hp => ?_⟩
  rw [List.length_map] at hp
  obtain ⟨b, off, hA, hb, hcell⟩ := h hp
  refine ⟨b, off, hA, hb, fun j F hj => ?_⟩
  rw [List.getElem?_map] at hj
  obtain ⟨x, hx, rfl⟩ := Option.map_eq_some_iff.1 hj
  obtain ⟨hlt, rfl⟩ := List.getElem?_eq_some_iff.1 hx
  exact ⟨_, hcell j hlt, rfl⟩
theorem VParts.form {ps : List (List UInt8)} {u : Value} {w : World} (h : VParts ps u w) : ∃ A c, u = .slice A ps.length c ∧ ps.length ≤ c ∧ c ≤ maxLen ∧
    (0 < ps.length → ∃ b off, A = some ⟨b, off, none⟩ ∧ b < w.heap.size ∧ ∀ j (hj : j < ps.length), ∃ x, w.cell? ⟨b, off + j, none⟩ = some x ∧ VBytes ps[j] x w) := by
  obtain ⟨A, c, h1, h2, h3, h4⟩ := h
  rw [List.length_map] at h1 h2 h4
  refine ⟨A, c, h1, h2, h3, fun hp => ?_⟩
  obtain ⟨b, off, hA, hb, hcell⟩ := h4 hp
  refine ⟨b, off, hA, hb, fun j hj => hcell j (VBytes ps[j]) (by rw [List.getElem?_map, List.getElem?_eq_getElem hj]; rfl)⟩

theorem addr_add (b off j : Nat) : (⟨b, off, none⟩ : Addr).add j = ⟨b, off + j, none⟩ := by unfold Addr.add; split <;> simp_all

section
variable {P : Program} {w : World}

/-- x[lo:hi] of a slice of one-cell elements -/
theorem VSl.cut {Fs : List VP} {A : Option Addr} {n c lo hi : Nat} (h : VSl Fs (.slice A n c) w) (hl : lo ≤ hi) (hh : hi ≤ Fs.length) : n = Fs.length ∧ n ≤ c ∧ c ≤ maxLen ∧ VSl ((Fs.take hi).drop lo) (.slice (if c = lo then A else A.map (·.add lo)) (hi - lo) (c - lo)) w := by
  obtain ⟨A', c', e, h2, h3, h4⟩ := h
  cases e
  refine ⟨rfl, h2, h3, _, c - lo, by congr 1; simp; omega, by simp; omega, by omega, fun hp => ?_⟩
  have hp' : lo < hi ∧ 0 < Fs.length := by simp at hp; omega
  obtain ⟨b, off, rfl, hb, hcell⟩ := h4 hp'.2
  refine ⟨b, off + lo, by rw [if_neg (by omega)]; simp [addr_add], hb, fun j F hj => ?_⟩
  rw [List.getElem?_drop, List.getElem?_take] at hj
  split at hj
  · rw [Nat.add_assoc]; exact hcell (lo + j) F hj
  · cases hj

/-- string(b) -/
theorem run_string_of {src dst e : TypeId} (hs : P.underlying src = some (.slice e)) (he : P.underlying e = some (.int .u8)) (hd : P.underlying dst = some .string) {bs : List UInt8} {u : Value} (h : VBytes bs u w) :
    (convert src dst u).run P w = .ok (.string ⟨bs.toArray⟩) w := by
  obtain ⟨A, c, rfl, _, _, h4⟩ := VBytes.form h
  rw [run_convert_bytes_string w src dst e A bs.length c hs he hd]
  rcases A with _ | ad
  · have : bs = [] := by
      rcases Nat.eq_zero_or_pos bs.length with h0 | h0
      · exact List.eq_nil_of_length_eq_zero h0
      · obtain ⟨_, _, h, _⟩ := h4 h0; cases h
    subst this
    simp [Conv.bytesToString, Sem.run_pure]; rfl
  · have hl : (loadCells ad bs.length).run P w = .ok ((bs.map fun b => (b.toNat : Int)).map (Value.int .u8)).toArray w := by
      have := run_loadCells_list (P := P) w ad ((bs.map fun b => (b.toNat : Int)).map (Value.int .u8)) (fun j v hj => by
        rw [List.map_map, List.getElem?_map] at hj
        obtain ⟨x, hx, rfl⟩ := Option.map_eq_some_iff.1 hj
        obtain ⟨hlt, rfl⟩ := List.getElem?_eq_some_iff.1 hx
        obtain ⟨b, off, hA, _, hcell⟩ := h4 (by omega)
        cases hA
        rw [addr_add, hcell j hlt]; rfl)
      simpa using this
    rw [run_bytesToString w ad bs.length c _ hl, foldl_push_bytes]
    congr 2
    apply ByteArray.ext
    simp only [ByteArray.empty, ByteArray.emptyWithCapacity]
    apply Array.ext'
    simp only [Array.toList_append, List.map_map]
    show [] ++ _ = bs
    rw [List.nil_append]
    conv => rhs; rw [← List.map_id bs]
    exact List.map_congr_left fun b _ => by simp

/-- x[lo:hi] of a slice, each bound a number or left out -/
theorem VBytes.cut {bs : List UInt8} {u : Value} (h : VBytes bs u w) : ∃ A n c, u = .slice A n c ∧ n = bs.length ∧ n ≤ c ∧ c ≤ maxLen ∧
    ∀ lo hi, lo ≤ hi → hi ≤ n → VBytes ((bs.take hi).drop lo) (.slice (if c = lo then A else A.map (·.add lo)) (hi - lo) (c - lo)) w := by
  obtain ⟨A, c, rfl, h2, h3, h4⟩ := VBytes.form h
  refine ⟨A, _, c, rfl, rfl, h2, h3, fun lo hi hl hh => ?_⟩
  have hlen : ((bs.take hi).drop lo).length = hi - lo := by simp; omega
  have := VBytes.of (bs := (bs.take hi).drop lo) (A := if c = lo then A else A.map (·.add lo)) (c := c - lo) (w := w) (by omega) (by omega) (fun hp => by
    obtain ⟨b, off, rfl, hb, hcell⟩ := h4 (by omega)
    refine ⟨b, off + lo, by rw [if_neg (by omega)]; simp [addr_add], hb, fun j hj => ?_⟩
    rw [Nat.add_assoc, hcell (lo + j) (by omega)]
    simp)
  rwa [hlen] at this
end

section
variable {P : Program} {Q : Exit → Act → World → Prop} {ops : Array Oper} {M m : Nat} {a0 : Act} {w0 : World} {K : List Oper → List VP → Prop} {o : Oper} {rest : List Oper} {env : List VP}

theorem VWalk.string {bs : List UInt8} (src dst e : TypeId) (x : Operand) (ho : o.op = .convert src dst x) (hs : P.underlying src = some (.slice e)) (he : P.underlying e = some (.int .u8)) (hd : P.underlying dst = some .string)
    (hw : Want ops M a0 w0 env o true) (hx : Opd ops M a0 w0 env o x (VBytes bs))
    (hr : VWalk P Q ops M a0 w0 K m rest (VEq (.string ⟨bs.toArray⟩) :: env)) : VWalk P Q ops M a0 w0 K (m + 1) (o :: rest) env :=
  .val hw (fun a w hE hC hD => ⟨_, by unfold execOp; simp only [ho, run_string_of hs he hd (hx a w hE hC hD), Sem.run_bind, Sem.run_pure, Result.andThen_ok], rfl⟩) hr

/-- x[:hi], x[lo:] -/
theorem VWalk.cutTo {Fs : List VP} (t e : TypeId) (x y : Operand) (k : IntKind) (hi : Nat) (ho : o.op = .slice t x none (some y) none) (hu : P.underlying t = some (.slice e)) (hsz : (P.info? e).map (·.size) = some 1)
    (hw : Want ops M a0 w0 env o true) (hx : Opd ops M a0 w0 env o x (VSl Fs)) (hy : Opd ops M a0 w0 env o y (VEq (.int k (hi : Int)))) (hh : hi ≤ Fs.length)
    (hr : VWalk P Q ops M a0 w0 K m rest (VSl (Fs.take hi) :: env)) : VWalk P Q ops M a0 w0 K (m + 1) (o :: rest) env :=
  .val hw (fun a w hE hC hD => by
    have hX := hx a w hE hC hD
    have hY : a.eval y = .int k (hi : Int) := hy a w hE hC hD
    obtain ⟨A, c, hA, _⟩ := id hX
    rw [hA] at hX
    obtain ⟨_, h2, _, h4⟩ := VSl.cut (lo := 0) hX (Nat.zero_le hi) hh
    cases hi' : P.info? e with
    | none => simp [hi'] at hsz
    | some ie =>
      simp only [hi', Option.map_some, Option.some.injEq] at hsz
      refine ⟨_, ?_, by simpa using h4⟩
      unfold execOp
      simp [ho, hA, hY, Instr.sliceAt, Instr.slice, Instr.sliceBounds, Instr.sliceBound, asIntOf, run_underlying hu, sizeOf, typeInfo, hi', show hi ≤ c by omega]) hr
theorem VWalk.cutFrom {Fs : List VP} (t e : TypeId) (x y : Operand) (k : IntKind) (lo : Nat) (ho : o.op = .slice t x (some y) none none) (hu : P.underlying t = some (.slice e)) (hsz : (P.info? e).map (·.size) = some 1)
    (hw : Want ops M a0 w0 env o true) (hx : Opd ops M a0 w0 env o x (VSl Fs)) (hy : Opd ops M a0 w0 env o y (VEq (.int k (lo : Int)))) (hh : lo ≤ Fs.length)
    (hr : VWalk P Q ops M a0 w0 K m rest (VSl (Fs.drop lo) :: env)) : VWalk P Q ops M a0 w0 K (m + 1) (o :: rest) env :=
  .val hw (fun a w hE hC hD => by
    have hX := hx a w hE hC hD
    have hY : a.eval y = .int k (lo : Int) := hy a w hE hC hD
    obtain ⟨A, c, hA, _⟩ := id hX
    rw [hA] at hX
    obtain ⟨_, h2, _, h4⟩ := VSl.cut (lo := lo) (hi := Fs.length) hX hh (Nat.le_refl _)
    cases hi' : P.info? e with
    | none => simp [hi'] at hsz
    | some ie =>
      simp only [hi', Option.map_some, Option.some.injEq] at hsz
      refine ⟨_, ?_, by simpa using h4⟩
      unfold execOp
      simp [ho, hA, hY, Instr.sliceAt, Instr.slice, Instr.sliceBounds, Instr.sliceBound, asIntOf, run_underlying hu, sizeOf, typeInfo, hi', hsz, hh]) hr

theorem VWalk.cut2 {Fs : List VP} (t e : TypeId) (x y z : Operand) (k k' : IntKind) (lo hi : Nat) (ho : o.op = .slice t x (some y) (some z) none) (hu : P.underlying t = some (.slice e)) (hsz : (P.info? e).map (·.size) = some 1)
    (hw : Want ops M a0 w0 env o true) (hx : Opd ops M a0 w0 env o x (VSl Fs)) (hy : Opd ops M a0 w0 env o y (VEq (.int k (lo : Int)))) (hz : Opd ops M a0 w0 env o z (VEq (.int k' (hi : Int)))) (hl : lo ≤ hi) (hh : hi ≤ Fs.length)
    (hr : VWalk P Q ops M a0 w0 K m rest (VSl ((Fs.take hi).drop lo) :: env)) : VWalk P Q ops M a0 w0 K (m + 1) (o :: rest) env :=
  .val hw (fun a w hE hC hD => by
    have hX := hx a w hE hC hD
    have hY : a.eval y = .int k (lo : Int) := hy a w hE hC hD
    have hZ : a.eval z = .int k' (hi : Int) := hz a w hE hC hD
    obtain ⟨A, c, hA, _⟩ := id hX
    rw [hA] at hX
    obtain ⟨_, h2, _, h4⟩ := VSl.cut (lo := lo) (hi := hi) hX hl hh
    cases hi' : P.info? e with
    | none => simp [hi'] at hsz
    | some ie =>
      simp only [hi', Option.map_some, Option.some.injEq] at hsz
      refine ⟨_, ?_, by simpa using h4⟩
      unfold execOp
      simp [ho, hA, hY, hZ, Instr.sliceAt, Instr.slice, Instr.sliceBounds, Instr.sliceBound, asIntOf, run_underlying hu, sizeOf, typeInfo, hi', hsz, hl, show hi ≤ c by omega]) hr
theorem VWalk.cut2B {bs : List UInt8} (t e : TypeId) (x y z : Operand) (k k' : IntKind) (lo hi : Nat) (ho : o.op = .slice t x (some y) (some z) none) (hu : P.underlying t = some (.slice e)) (hsz : (P.info? e).map (·.size) = some 1)
    (hw : Want ops M a0 w0 env o true) (hx : Opd ops M a0 w0 env o x (VBytes bs)) (hy : Opd ops M a0 w0 env o y (VEq (.int k (lo : Int)))) (hz : Opd ops M a0 w0 env o z (VEq (.int k' (hi : Int)))) (hl : lo ≤ hi) (hh : hi ≤ bs.length)
    (hr : VWalk P Q ops M a0 w0 K m rest (VBytes ((bs.take hi).drop lo) :: env)) : VWalk P Q ops M a0 w0 K (m + 1) (o :: rest) env :=
  .cut2 t e x y z k k' lo hi ho hu hsz hw hx hy hz hl (by simpa using hh) (by rw [← List.map_take, ← List.map_drop]; exact hr)
/-- The same of bytes. -/
theorem VWalk.cutToB {bs : List UInt8} (t e : TypeId) (x y : Operand) (k : IntKind) (hi : Nat) (ho : o.op = .slice t x none (some y) none) (hu : P.underlying t = some (.slice e)) (hsz : (P.info? e).map (·.size) = some 1)
    (hw : Want ops M a0 w0 env o true) (hx : Opd ops M a0 w0 env o x (VBytes bs)) (hy : Opd ops M a0 w0 env o y (VEq (.int k (hi : Int)))) (hh : hi ≤ bs.length)
    (hr : VWalk P Q ops M a0 w0 K m rest (VBytes (bs.take hi) :: env)) : VWalk P Q ops M a0 w0 K (m + 1) (o :: rest) env :=
  .cutTo t e x y k hi ho hu hsz hw hx hy (by simpa using hh) (by rw [← List.map_take]; exact hr)
theorem VWalk.cutFromB {bs : List UInt8} (t e : TypeId) (x y : Operand) (k : IntKind) (lo : Nat) (ho : o.op = .slice t x (some y) none none) (hu : P.underlying t = some (.slice e)) (hsz : (P.info? e).map (·.size) = some 1)
    (hw : Want ops M a0 w0 env o true) (hx : Opd ops M a0 w0 env o x (VBytes bs)) (hy : Opd ops M a0 w0 env o y (VEq (.int k (lo : Int)))) (hh : lo ≤ bs.length)
    (hr : VWalk P Q ops M a0 w0 K m rest (VBytes (bs.drop lo) :: env)) : VWalk P Q ops M a0 w0 K (m + 1) (o :: rest) env :=
  .cutFrom t e x y k lo ho hu hsz hw hx hy (by simpa using hh) (by rw [← List.map_drop]; exact hr)
theorem VWalk.lenS {Fs : List VP} (t e : TypeId) (x : Operand) (ho : o.op = .call { callee := .builtin .len, args := #[x], argTypes := #[t] }) (hu : P.underlying t = some (.slice e))
    (hw : Want ops M a0 w0 env o true) (hx : Opd ops M a0 w0 env o x (VSl Fs))
    (hr : VWalk P Q ops M a0 w0 K m rest (VEq (.int .i64 (Fs.length : Int)) :: env)) : VWalk P Q ops M a0 w0 K (m + 1) (o :: rest) env :=
  .val hw (fun a w hE hC hD => by
    obtain ⟨A, c, hA, _⟩ := hx a w hE hC hD
    refine ⟨_, ?_, rfl⟩
    revert hA
    generalize a.eval = ρ
    intro hA
    unfold execOp
    simp [ho, go_sem, hA, Builtin.len_, run_underlying hu]) hr
theorem VWalk.lenB {bs : List UInt8} (t e : TypeId) (x : Operand) (ho : o.op = .call { callee := .builtin .len, args := #[x], argTypes := #[t] }) (hu : P.underlying t = some (.slice e))
    (hw : Want ops M a0 w0 env o true) (hx : Opd ops M a0 w0 env o x (VBytes bs))
    (hr : VWalk P Q ops M a0 w0 K m rest (VEq (.int .i64 (bs.length : Int)) :: env)) : VWalk P Q ops M a0 w0 K (m + 1) (o :: rest) env :=
  .lenS t e x ho hu hw hx (by rw [List.length_map]; exact hr)

def OpdAll (ops : Array Oper) (M : Nat) (a0 : Act) (w0 : World) (env : List VP) (o : Oper) : List Operand → List VP → Prop
  | [], [] => True
  | x :: xs, F :: Fs => Opd ops M a0 w0 env o x F ∧ OpdAll ops M a0 w0 env o xs Fs
  | _, _ => False
theorem OpdAll.get : ∀ {xs : List Operand} {Fs : List VP}, OpdAll ops M a0 w0 env o xs Fs → xs.length = Fs.length ∧ ∀ (i : Nat) (F : VP), Fs[i]? = some F → ∃ x, xs[i]? = some x ∧ Opd ops M a0 w0 env o x F
  | [], [], _ => ⟨rfl, fun i F h => by simp at h⟩
  | [], _ :: _, h => h.elim
  | _ :: _, [], h => h.elim
  | x :: xs, F :: Fs, h => by
    obtain ⟨h1, h2⟩ := h
    obtain ⟨h3, h4⟩ := OpdAll.get h2
    refine ⟨by simp [h3], fun i F' hi => ?_⟩
    cases i with
    | zero => simp at hi; subst hi; exact ⟨x, rfl, h1⟩
    | succ i => exact h4 i F' hi
def OneCell (F : VP) : Prop := ∀ v w, F v w → v.cells = #[v]
theorem oneCell_eq {x : Value} (h : x.cells = #[x]) : OneCell (VEq x) := fun v _ hv => by rw [show v = x from hv]; exact h
theorem oneCell_sl (Fs : List VP) : OneCell (VSl Fs) := fun v _ hv => by obtain ⟨A, c, rfl, _⟩ := hv; rfl

def OneAll : List VP → Prop
  | [] => True
  | F :: Fs => OneCell F ∧ OneAll Fs
theorem OneAll.mem : ∀ {Fs : List VP}, OneAll Fs → ∀ F ∈ Fs, OneCell F
  | [], _, F, hF => by simp at hF
  | G :: Fs, h, F, hF => by
    rcases List.mem_cons.1 hF with rfl | hF
    · exact h.1
    · exact OneAll.mem h.2 F hF
theorem nil_bytes (w : World) : VBytes [] (.slice none 0 0) w := VBytes.of (bs := []) (Nat.le_refl _) (by decide) (fun h => by simp at h)
theorem opd_nil : Opd ops M a0 w0 env o (.const (.slice none 0 0)) (VBytes []) := fun _ w _ _ _ => nil_bytes w
theorem opd_nils : Opd ops M a0 w0 env o (.const (.slice none 0 0)) (VSl []) := fun _ _ _ _ _ => ⟨none, 0, rfl, Nat.le_refl _, by decide, fun h => by simp at h⟩

/-- A slice written out: '[]T{x, y}', or what a call's own list of arguments is put into. -/
theorem VWalk.lit {Fs : List VP} (xs : List Operand) (t e : TypeId) (n : Nat) (parts : Array (Nat × Operand)) (ho : o.op = .buildSlice t n parts) (hn : n = Fs.length) (hpos : 0 < n) (hbig : n ≤ 65536) (hparts : parts.toList = (xs.zipIdx 0).map fun x => (x.2, x.1))
    (hu : P.underlying t = some (.slice e)) (hsz : (P.info? e).map (·.size) = some 1) (hz : ((P.info? e).bind (·.zero)).isSome = true)
    (hone0 : OneAll Fs) (hw : Want ops M a0 w0 env o true) (hx : OpdAll ops M a0 w0 env o xs Fs)
    (hr : VWalk P Q ops M a0 w0 K m rest (VSl Fs :: env)) : VWalk P Q ops M a0 w0 K (m + 1) (o :: rest) env :=
  .new hw (fun a w hE hC hD => by
    obtain ⟨hlen, hget⟩ := hx.get
    have hone := hone0.mem
    have hvals : ∀ v ∈ xs.map a.eval, v.cells = #[v] := by
      intro v hv
      obtain ⟨x, hx1, rfl⟩ := List.mem_map.1 hv
      obtain ⟨i, hi⟩ := List.mem_iff_getElem?.1 hx1
      have hlt : i < Fs.length := by have := (List.getElem?_eq_some_iff.1 hi).1; omega
      obtain ⟨x', h1, h2⟩ := hget i Fs[i] (List.getElem?_eq_getElem hlt)
      rw [hi] at h1; cases h1
      exact hone _ (List.getElem_mem hlt) _ _ (h2 a w hE hC hD)
    cases hie : P.info? e with
    | none => simp [hie] at hsz
    | some ie =>
      simp only [hie, Option.map_some, Option.some.injEq, Option.bind_some] at hsz hz
      obtain ⟨z, hzz⟩ := Option.isSome_iff_exists.1 hz
      have hp : (parts.map fun (i, x) => (i, a.eval x)).toList = ((xs.map a.eval).zipIdx 0).map fun x => (x.2, x.1) := by
        rw [Array.toList_map, hparts, List.zipIdx_map, List.map_map, List.map_map]; rfl
      have hfill : Instr.fill (fun i => some (i * ie.size, ie.size)) ((Array.range (n * ie.size)).map (z.cells[· % z.cells.size]!)) (parts.map fun (i, x) => (i, a.eval x)).toList = some (xs.map a.eval).toArray := by
        rw [hp, hsz]
        exact Great.fill_flat _ _ hvals (by simp; omega)
      refine ⟨.slice (some ⟨w.heap.size, 0, none⟩) n n, w.alloc (.cells (xs.map a.eval).toArray e), ?_, (Below.refl _ _).alloc (Nat.le_refl _) _, ?_⟩
      · unfold execOp
        simp only [ho, Sem.run_bind, run_buildSlice w t e n _ _ ie z hu hie hzz (by rw [hsz]; omega) (by rw [hsz]; omega) hfill, Sem.run_pure, Result.andThen_ok]
      · refine ⟨_, _, by rw [hn], Nat.le_refl _, by unfold maxLen; omega, fun _ => ⟨w.heap.size, 0, rfl, by simp, fun j F hj => ?_⟩⟩
        obtain ⟨x, h1, h2⟩ := hget j F hj
        refine ⟨a.eval x, ?_, F.st _ _ _ (h2 a w hE hC hD) ((Below.refl _ _).alloc (Nat.le_refl _) _)⟩
        rw [Nat.zero_add, cell_of_row _ w.heap.size j (xs.map a.eval).toArray e (0, 0) (heap_alloc_new w _)]
        simp [h1]) hr

/-- A row of bytes that the region wrote out; marked or not. -/
def VRow (B : Nat) (bs : List UInt8) : VP := ⟨fun u w => ∃ g cs t m, u = .slice (some ⟨g, 0, none⟩) bs.length bs.length ∧ B ≤ g ∧ w.heap[g]? = some (.cells cs t m) ∧ (m = (0, 0) ∨ m = (cs.size, cs.size + 1)) ∧ cs.toList = bs.map byteV ∧ 0 < bs.length ∧ bs.length ≤ maxLen,
  fun u w w' ⟨g, cs, t, m, h1, h2, h3, h4, h5, h6, h7⟩ hE => by
    rcases hE.block g (Array.getElem?_eq_some_iff.1 h3).1 with e | ⟨cs', t', e1, e2, _⟩
    · exact ⟨g, cs, t, m, h1, h2, e.trans h3, h4, h5, h6, h7⟩
    · rw [h3] at e1; cases e1
      exact ⟨g, cs, t, _, h1, h2, e2, .inr rfl, h5, h6, h7⟩⟩
theorem VRow.bytes {B : Nat} {bs : List UInt8} {u : Value} {w : World} (h : VRow B bs u w) : VBytes bs u w := by
  obtain ⟨g, cs, t, m, rfl, h2, h3, h4, h5, h6, h7⟩ := h
  refine VBytes.of (Nat.le_refl _) h7 fun _ => ⟨g, 0, rfl, (Array.getElem?_eq_some_iff.1 h3).1, fun j hj => ?_⟩
  rw [Nat.zero_add, cell_of_row w g j cs t m h3, ← Array.getElem?_toList, h5, List.getElem?_map, List.getElem?_eq_getElem hj]; rfl
theorem opd_row {B : Nat} {bs : List UInt8} {x : Operand} (h : Opd ops M a0 w0 env o x (VRow B bs)) : Opd ops M a0 w0 env o x (VBytes bs) := opd_mono h fun _ _ => VRow.bytes
theorem map_eval_bytes (a : Act) (bs : List UInt8) : (bs.map fun b => Operand.const (byteV b)).map a.eval = bs.map byteV := by rw [List.map_map]; rfl
/-- A row of bytes, written out. -/
theorem VWalk.litB (bs : List UInt8) (t e : TypeId) (n : Nat) (parts : Array (Nat × Operand)) (ho : o.op = .buildSlice t n parts) (hn : n = bs.length) (hpos : 0 < n) (hbig : n ≤ 65536) (hparts : parts.toList = ((bs.map fun b => Operand.const (byteV b)).zipIdx 0).map fun x => (x.2, x.1))
    (hu : P.underlying t = some (.slice e)) (hsz : (P.info? e).map (·.size) = some 1) (hz : ((P.info? e).bind (·.zero)).isSome = true) (hw : Want ops M a0 w0 env o true)
    (hr : VWalk P Q ops M a0 w0 K m rest (VRow w0.heap.size bs :: env)) : VWalk P Q ops M a0 w0 K (m + 1) (o :: rest) env :=
  .new hw (fun a w hE hC hD => by
    cases hie : P.info? e with
    | none => simp [hie] at hsz
    | some ie =>
      simp only [hie, Option.map_some, Option.some.injEq, Option.bind_some] at hsz hz
      obtain ⟨z, hzz⟩ := Option.isSome_iff_exists.1 hz
      have hp : (parts.map fun (i, x) => (i, a.eval x)).toList = ((bs.map byteV).zipIdx 0).map fun x => (x.2, x.1) := by
        rw [← map_eval_bytes a]
        generalize (bs.map fun b => Operand.const (byteV b)) = xs at hparts ⊢
        rw [Array.toList_map, hparts, List.zipIdx_map, List.map_map, List.map_map]; rfl
      have hfill : Instr.fill (fun i => some (i * ie.size, ie.size)) ((Array.range (n * ie.size)).map (z.cells[· % z.cells.size]!)) (parts.map fun (i, x) => (i, a.eval x)).toList = some (bs.map byteV).toArray := by
        rw [hp, hsz]
        exact Great.fill_flat _ _ (fun v hv => by obtain ⟨b, _, rfl⟩ := List.mem_map.1 hv; rfl) (by simp; omega)
      refine ⟨.slice (some ⟨w.heap.size, 0, none⟩) n n, w.alloc (.cells (bs.map byteV).toArray e), ?_, (Below.refl _ _).alloc (Nat.le_refl _) _, ?_⟩
      · unfold execOp
        simp only [ho, Sem.run_bind, run_buildSlice w t e n _ _ ie z hu hie hzz (by rw [hsz]; omega) (by rw [hsz]; omega) hfill, Sem.run_pure, Result.andThen_ok]
      · exact ⟨w.heap.size, _, e, (0, 0), by rw [hn], hE.size, heap_alloc_new w _, .inl rfl, by simp, by omega, by unfold maxLen; omega⟩) hr
theorem freeze_mark (w : World) (g : Nat) (cs : Array Value) (t : TypeId) (m : Nat × Nat) (h : w.heap[g]? = some (.cells cs t m)) (hm : m = (0, 0) ∨ m = (cs.size, cs.size + 1)) :
    (w.freeze ⟨g, cs.size, none⟩ 1).heap[g]? = some (.cells cs t (cs.size, cs.size + 1)) ∧ (∀ k, k ≠ g → (w.freeze ⟨g, cs.size, none⟩ 1).heap[k]? = w.heap[k]?) ∧ (w.freeze ⟨g, cs.size, none⟩ 1).heap.size = w.heap.size ∧ (w.freeze ⟨g, cs.size, none⟩ 1).os = w.os ∧ (w.freeze ⟨g, cs.size, none⟩ 1).tape = w.tape ∧ (w.freeze ⟨g, cs.size, none⟩ 1).output = w.output := by
  unfold World.freeze
  rw [if_neg (by decide)]
  refine ⟨?_, fun k hk => ?_, by simp, rfl, rfl, rfl⟩
  · rw [Array.getElem?_modify, if_pos rfl, h]
    rcases hm with rfl | rfl
    · rfl
    · simp
  · rw [Array.getElem?_modify, if_neg (Ne.symm hk)]
/-- The mark of a literal's row. -/
theorem VWalk.mark {bs : List UInt8} (t e : TypeId) (x : Operand) (ho : o.op = .convert t t x) (ht : P.underlying t = some (.slice e)) (he : P.underlying e = some (.int .u8)) (hw : Want ops M a0 w0 env o true)
    (hx : Opd ops M a0 w0 env o x (VRow w0.heap.size bs)) (hr : VWalk P Q ops M a0 w0 K m rest (VBytes bs :: env)) : VWalk P Q ops M a0 w0 K (m + 1) (o :: rest) env :=
  ⟨VBytes bs, fun a w hE hC hD => by
    have hR := hx a w hE hC hD
    have hR' := hR
    obtain ⟨g, cs, t', mk, hv, h2, h3, h4, h5, h6, h7⟩ := hR
    obtain ⟨f1, f2, f3, f4, f5, f6⟩ := freeze_mark w g cs t' mk h3 h4
    have hgl : g < w.heap.size := (Array.getElem?_eq_some_iff.1 h3).1
    have hsh : w.shape? g = some (t', cs.size) := by unfold World.shape?; rw [h3]
    have hW : Weak w (w.freeze ⟨g, cs.size, none⟩ 1) := ⟨by rw [f3]; exact Nat.le_refl _, fun k hk => by
      by_cases e : k = g
      · subst e
        rcases h4 with rfl | rfl
        · refine .inr ⟨cs, t', h3, f1, (bs[0].toNat : Int), ?_⟩
          rw [← Array.getElem?_toList, h5, List.getElem?_map, List.getElem?_eq_getElem h6]; rfl
        · exact .inl (f1.trans h3.symm)
      · exact .inl (f2 k e)⟩
    rw [hw a w hE hC hD, if_pos rfl]
    unfold Oper.wp
    have hrun : (execOp a.eval o).run P w = .ok (.value (a.eval x)) (w.freeze ⟨g, cs.size, none⟩ 1) := by
      revert hv
      generalize a.eval = ρ
      intro hv
      unfold execOp
      simp [ho, hv, convert, run_underlying ht, run_underlying he, markStringish, hsh, go_sem, Result.andThen]
    rw [hrun]
    refine ⟨a.eval x, rfl, ⟨⟨f4, f5, f6, by rw [f3]; exact Nat.le_refl _, fun k hk => f2 k (by omega)⟩, hW⟩, VRow.bytes (VP.wk _ _ _ _ hR' hW)⟩, hr⟩
/-- A place of one cell, of whose content a predicate holds. -/
def VPtr (F : VP) : VP := ⟨fun u w => ∃ b o x, u = .pointer (some ⟨b, o, none⟩) ∧ b < w.heap.size ∧ w.cell? ⟨b, o, none⟩ = some x ∧ F x w, fun _ _ _ ⟨b, o, x, h1, h2, h3, h4⟩ hE =>
  ⟨b, o, x, h1, Nat.lt_of_lt_of_le h2 hE.size, (hE.cell h2).trans h3, F.wk _ _ _ h4 hE⟩⟩
theorem VWalk.indexAddr {Fs : List VP} {F : VP} (t e : TypeId) (x y : Operand) (k : IntKind) (i : Nat) (ho : o.op = .indexAddr t x y) (hu : P.underlying t = some (.slice e)) (hsz : (P.info? e).map (·.size) = some 1)
    (hw : Want ops M a0 w0 env o true) (hx : Opd ops M a0 w0 env o x (VSl Fs)) (hy : Opd ops M a0 w0 env o y (VEq (.int k (i : Int)))) (hF : Fs[i]? = some F)
    (hr : VWalk P Q ops M a0 w0 K m rest (VPtr F :: env)) : VWalk P Q ops M a0 w0 K (m + 1) (o :: rest) env :=
  .val hw (fun a w hE hC hD => by
    have hX := hx a w hE hC hD
    have hY : a.eval y = .int k (i : Int) := hy a w hE hC hD
    obtain ⟨A, c, hA, _, _, hcell⟩ := hX
    have hlt : i < Fs.length := (List.getElem?_eq_some_iff.1 hF).1
    obtain ⟨b, off, rfl, hb, hc⟩ := hcell (by omega)
    obtain ⟨z, h1, h2⟩ := hc i F hF
    have he : P.elem t = e := by unfold Program.elem; rw [hu]
    cases hi' : P.info? e with
    | none => simp [hi'] at hsz
    | some ie =>
      simp only [hi', Option.map_some, Option.some.injEq] at hsz
      refine ⟨.pointer (some ⟨b, off + i, none⟩), ?_, b, off + i, z, rfl, hb, h1, h2⟩
      have hu' : P.underlying t = some (.slice (P.elem t)) := by rw [he]; exact hu
      revert hA hY
      generalize a.eval = ρ
      intro hA hY
      unfold execOp
      simp [ho, hA, hY, run_indexAt_slice (h := hu'), hu, sizeOf, typeInfo, hi', hsz, hlt, addr_add, go_sem, Result.andThen]) hr
/-- x[i] of bytes -/
theorem VWalk.indexB {bs : List UInt8} (t e : TypeId) (x y : Operand) (k : IntKind) (i : Nat) (ho : o.op = .indexAddr t x y) (hu : P.underlying t = some (.slice e)) (hsz : (P.info? e).map (·.size) = some 1)
    (hw : Want ops M a0 w0 env o true) (hx : Opd ops M a0 w0 env o x (VBytes bs)) (hy : Opd ops M a0 w0 env o y (VEq (.int k (i : Int)))) (hlt : i < bs.length)
    (hr : VWalk P Q ops M a0 w0 K m rest (VPtr (VEq (byteV bs[i])) :: env)) : VWalk P Q ops M a0 w0 K (m + 1) (o :: rest) env :=
  .indexAddr t e x y k i ho hu hsz hw hx hy (by rw [List.getElem?_map, List.getElem?_eq_getElem hlt]; rfl) hr
theorem VWalk.indexP {ps : List (List UInt8)} (t e : TypeId) (x y : Operand) (k : IntKind) (i : Nat) (ho : o.op = .indexAddr t x y) (hu : P.underlying t = some (.slice e)) (hsz : (P.info? e).map (·.size) = some 1)
    (hw : Want ops M a0 w0 env o true) (hx : Opd ops M a0 w0 env o x (VParts ps)) (hy : Opd ops M a0 w0 env o y (VEq (.int k (i : Int)))) (hlt : i < ps.length)
    (hr : VWalk P Q ops M a0 w0 K m rest (VPtr (VBytes ps[i]) :: env)) : VWalk P Q ops M a0 w0 K (m + 1) (o :: rest) env :=
  .indexAddr t e x y k i ho hu hsz hw hx hy (by rw [List.getElem?_map, List.getElem?_eq_getElem hlt]; rfl) hr
theorem VWalk.indexI {ns : List Int} (t e : TypeId) (x y : Operand) (k : IntKind) (i : Nat) (ho : o.op = .indexAddr t x y) (hu : P.underlying t = some (.slice e)) (hsz : (P.info? e).map (·.size) = some 1)
    (hw : Want ops M a0 w0 env o true) (hx : Opd ops M a0 w0 env o x (VInts ns)) (hy : Opd ops M a0 w0 env o y (VEq (.int k (i : Int)))) (hlt : i < ns.length)
    (hr : VWalk P Q ops M a0 w0 K m rest (VPtr (VEq (.int .i64 ns[i])) :: env)) : VWalk P Q ops M a0 w0 K (m + 1) (o :: rest) env :=
  .indexAddr t e x y k i ho hu hsz hw hx hy (by rw [List.getElem?_map, List.getElem?_eq_getElem hlt]; rfl) hr
/-- The load of such a place. -/
theorem VWalk.loadP {F : VP} (t : TypeId) (x : Operand) (ho : o.op = .load t x) (hw : Want ops M a0 w0 env o true) (hx : Opd ops M a0 w0 env o x (VPtr F))
    (hagg : ∀ w : World, (isAgg t).run P w = .ok false w)
    (hr : VWalk P Q ops M a0 w0 K m rest (F :: env)) : VWalk P Q ops M a0 w0 K (m + 1) (o :: rest) env :=
  .loadV t x ho hw hx (fun p w _ ⟨b, o, z, h1, _, h3, h4⟩ => ⟨z, by subst h1; simp [Instr.loadAt, Instr.sureAddr, loadVar, Sem.run_bind, hagg, h3], h4⟩) hr
end

end Go.Proofs.Ytfbamdkalamliaa
