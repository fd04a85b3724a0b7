/- A region that draws its order: facts about each operation's value that no later operation can spoil are proved one operation at a time, in the order of the text, and serve every order. -/
import Derived.Orders
import Derived.WalkKit
namespace Go.Proofs.Ytfbamdkalamliaa
open Go.RowKit

/-- The world has grown: every block that was there is as it was. -/
abbrev Ext (w w' : World) : Prop := Below w.heap.size w w'
theorem Ext.rf (w : World) : Ext w w := Below.refl _ _
theorem Ext.tr {a b c : World} (h : Ext a b) (k : Ext b c) : Ext a c := Below.trans h (k.mono h.size)

theorem Ext.rules {w w1 : World} (hb : Ext w w1) : (∀ b o, b < w.heap.size → w1.cell? ⟨b, o, none⟩ = w.cell? ⟨b, o, none⟩) ∧ (∀ b o, b < w.heap.size → w1.frozen? ⟨b, o, none⟩ = w.frozen? ⟨b, o, none⟩) :=
  ⟨fun b o h => hb.cell (p := ⟨b, o, none⟩) h, fun b o h => hb.frozen (p := ⟨b, o, none⟩) h⟩

theorem hide {p : Prop} (h : p) : Hid p := h
theorem unhide {p : Prop} (h : Hid p) : p := h

/-- A literal's row of bytes has got its mark: its cells are as they were. -/
def Marked (x y : Option Obj) : Prop := ∃ (cs : Array Value) (e : TypeId), x = some (.cells cs e (0, 0)) ∧ y = some (.cells cs e (cs.size, cs.size + 1)) ∧ ∃ z, cs[0]? = some (.int .u8 z)
/-- The world has grown; of what was there, rows of bytes may have got their marks. -/
structure Weak (w w' : World) : Prop where
  size : w.heap.size ≤ w'.heap.size
  block : ∀ k, k < w.heap.size → w'.heap[k]? = w.heap[k]? ∨ Marked w.heap[k]? w'.heap[k]?
theorem Ext.weak {w w' : World} (h : Ext w w') : Weak w w' := ⟨h.size, fun k hk => .inl (h.block k hk)⟩
theorem Weak.cell {w w' : World} (h : Weak w w') {b o : Nat} (hb : b < w.heap.size) : w'.cell? ⟨b, o, none⟩ = w.cell? ⟨b, o, none⟩ := by
  rcases h.block b hb with e | ⟨cs, t, e1, e2, _⟩
  · unfold World.cell?; simp only [e]
  · unfold World.cell?; simp only [e1, e2]
/-- .. and below b nothing at all has turned. -/
def Grow (b : Nat) (w w' : World) : Prop := Below b w w' ∧ Weak w w'
theorem Ext.grow {b : Nat} {w w' : World} (h : Ext w w') (hb : b ≤ w.heap.size) : Grow b w w' := ⟨h.mono hb, h.weak⟩

/-- A predicate on a value in a world that a growing world keeps. -/
structure VP where
  p : Value → World → Prop
  wk : ∀ v w w', p v w → Weak w w' → p v w'
theorem VP.st (F : VP) (v : Value) (w w' : World) (h : F.p v w) (hE : Ext w w') : F.p v w' := F.wk v w w' h hE.weak
instance : CoeFun VP (fun _ => Value → World → Prop) := ⟨VP.p⟩
def VEq (x : Value) : VP := ⟨fun v _ => v = x, fun _ _ _ h _ => h⟩
def VAny : VP := ⟨fun _ _ => True, fun _ _ _ h _ => h⟩
theorem VEq.mk (x : Value) (w : World) : VEq x x w := rfl

/-- How a call ends: it returns a value of which F holds, and whatever was there is as it was. -/
def Ret (w : World) (F : VP) : Ending → World → Prop := fun e w' => ∃ v, e = .returned v ∧ Ext w w' ∧ F v w'
/-- The same, of what need not stay. -/
def RetP (w : World) (F : Value → World → Prop) : Ending → World → Prop := fun e w' => ∃ v, e = .returned v ∧ Ext w w' ∧ F v w'
theorem RetP.mk {w w' : World} {F : Value → World → Prop} {v : Value} (h1 : Ext w w') (h2 : F v w') : RetP w F (.returned v) w' := ⟨v, rfl, h1, h2⟩
theorem Ret.mk {w w' : World} {F : VP} {v : Value} (h1 : Ext w w') (h2 : F v w') : Ret w F (.returned v) w' := ⟨v, rfl, h1, h2⟩

def dstOf (ops : Array Oper) (i : Nat) : Option Tmp := (ops[i]?).bind (·.dst)

structure Ctx (ops : Array Oper) (m : Nat) (a0 a : Act) : Prop where
  size : a.tmps.size = a0.tmps.size
  defers : a.defers = a0.defers
  frame : ∀ t, (∀ i, i < m → dstOf ops i ≠ some t) → a.tmps[t]? = a0.tmps[t]?

def envOf (env : List VP) (j : Nat) : VP := env.reverse.getD j VAny

def Dep (ops : Array Oper) (env : Nat → VP) (o : Oper) (a : Act) (w : World) : Prop :=
  ∀ e ∈ o.after, Region.binds .any e = true → ∀ d, dstOf ops e.on = some d → env e.on (a.tmps.getD d undef) w

def Spec (P : Program) (Q : Exit → Act → World → Prop) (ops : Array Oper) (m : Nat) (a0 : Act) (w0 : World) (env : Nat → VP) (o : Oper) (F : VP) : Prop :=
  ∀ a w, Ext w0 w → Ctx ops m a0 a → Dep ops env o a w →
    if Region.wanted o (yielded ops a.tmps) = true then o.wp P a w (fun a' w' => ∃ v, a' = a.put o.dst v ∧ Grow w0.heap.size w w' ∧ F v w') Q else F undef w

def fwdB (ops : Array Oper) : Bool := (List.range ops.size).all fun i => match ops[i]? with | some o => o.after.all (fun e => !Region.binds .any e || decide (e.on < i)) | none => true
/-- Of each operation: does it wait for number j, by whatever way? -/
def marks (j : Nat) (l : List Oper) : Array Bool := l.foldl (fun acc o => acc.push (acc.size == j || o.after.toList.any fun e => Region.binds .any e && acc.getD e.on false)) #[]
/-- Behind the first m operations the order is forced, but for the floaters fl. -/
def tailB (ops : Array Oper) (m : Nat) (fl : List Nat) : Bool := (List.range ops.size).all fun j => fl.contains j || (let mk := marks j ops.toList; (List.range ops.size).all fun k => decide (k < m) || decide (k ≤ j) || mk.getD k false)
def dstB (ops : Array Oper) (m n : Nat) : Bool := (List.range m).all fun i => match dstOf ops i with | none => true | some d => decide (d < n) && (List.range m).all fun j => i == j || dstOf ops j != some d
def pureKind : Op → Bool
  | .extract .. | .move _ => true
  | _ => false
/-- A floater yields its value in whatever world, and is apart from all that may come ahead of it or behind. -/
def freeB (ops : Array Oper) (m : Nat) (fl : List Nat) : Bool := fl.all fun i => decide (i < m) && match ops[i]? with
  | some oi => pureKind oi.op && oi.dst.isSome && (List.range ops.size).all fun j => i == j || match ops[j]? with
    | some oj => oi.after.toList.any (fun e => Region.binds .any e && e.on == j) || oj.after.toList.any (fun e => Region.binds .any e && e.on == i) || oi.apart ops oj
    | none => true
  | none => false
def preB (ops : Array Oper) (m n : Nat) (fl : List Nat) : Bool := decide (m ≤ ops.size) && fwdB ops && tailB ops m fl && dstB ops m n && freeB ops m fl && Region.noSelect ops

theorem fwdB_spec {ops : Array Oper} (h : fwdB ops = true) {i : Nat} {o : Oper} (ho : ops[i]? = some o) {e : Edge} (he : e ∈ o.after) (hb : Region.binds .any e = true) : e.on < i := by
  have hi : i < ops.size := (Array.getElem?_eq_some_iff.1 ho).1
  have h1 := List.all_eq_true.1 h i (List.mem_range.2 hi)
  simp only [ho] at h1
  have h2 := Array.all_eq_true_iff_forall_mem.1 h1 e he
  simpa [hb] using h2
theorem marks_aux (j : Nat) : ∀ (l : List Oper) (acc : Array Bool), (∀ k, acc.getD k false = true → k < acc.size) →
    let r := l.foldl (fun acc o => acc.push (acc.size == j || o.after.toList.any fun e => Region.binds .any e && acc.getD e.on false)) acc
    r.size = acc.size + l.length ∧ (∀ k, k < acc.size → r.getD k false = acc.getD k false) ∧
      ∀ i o, l[i]? = some o → r.getD (acc.size + i) false = true → acc.size + i = j ∨ ∃ e ∈ o.after, Region.binds .any e = true ∧ r.getD e.on false = true
  | [], acc, _ => ⟨by simp, fun _ _ => rfl, fun i o h => by simp at h⟩
  | x :: l, acc, hacc => by
    have hlt : ∀ k, (acc.push (acc.size == j || x.after.toList.any fun e => Region.binds .any e && acc.getD e.on false)).getD k false = true → k < (acc.push (acc.size == j || x.after.toList.any fun e => Region.binds .any e && acc.getD e.on false)).size := fun k hk => by
      rcases Nat.lt_or_ge k (acc.push (acc.size == j || x.after.toList.any fun e => Region.binds .any e && acc.getD e.on false)).size with h | h
      · exact h
      · rw [Array.getD_eq_getD_getElem?, Array.getElem?_eq_none h] at hk; cases hk
    have ih := marks_aux j l (acc.push (acc.size == j || x.after.toList.any fun e => Region.binds .any e && acc.getD e.on false)) hlt
    dsimp only at ih ⊢
    rw [List.foldl_cons]
    obtain ⟨h1, h2, h3⟩ := ih
    have hold : ∀ k, k < acc.size → (acc.push (acc.size == j || x.after.toList.any fun e => Region.binds .any e && acc.getD e.on false)).getD k false = acc.getD k false := fun k hk => by
      rw [Array.getD_eq_getD_getElem?, Array.getElem?_push, if_neg (by omega), ← Array.getD_eq_getD_getElem?]
    refine ⟨by rw [h1]; simp; omega, fun k hk => (h2 k (by simp; omega)).trans (hold k hk), fun i o hi hr => ?_⟩
    cases i with
    | zero =>
      simp at hi; subst hi
      rw [Nat.add_zero, h2 acc.size (by simp), Array.getD_eq_getD_getElem?, Array.getElem?_push, if_pos rfl, Option.getD_some, Bool.or_eq_true] at hr
      rcases hr with hr | hr
      · exact .inl (beq_iff_eq.1 hr)
      · obtain ⟨e, he, hb⟩ := List.any_eq_true.1 hr
        simp only [Bool.and_eq_true] at hb
        have hlt := hacc e.on hb.2
        exact .inr ⟨e, Array.mem_toList_iff.1 he, hb.1, by rw [h2 e.on (by simp; omega), hold e.on hlt]; exact hb.2⟩
    | succ i =>
      have := h3 i o hi (by rw [Array.size_push, Nat.add_assoc, Nat.add_comm 1 i]; exact hr)
      rwa [Array.size_push, Nat.add_assoc, Nat.add_comm 1 i] at this
theorem marks_spec {ops : Array Oper} {j k : Nat} {o : Oper} (ho : ops[k]? = some o) (h : (marks j ops.toList).getD k false = true) : k = j ∨ ∃ e ∈ o.after, Region.binds .any e = true ∧ (marks j ops.toList).getD e.on false = true := by
  have h0 := (marks_aux j ops.toList #[] (fun k hk => by simp at hk)).2.2 k o (by simpa using ho)
  simp only [Array.size_empty, Nat.zero_add] at h0
  exact h0 h
def Closed (ops : Array Oper) (listed : Array Bool) : Prop := ∀ i o, ops[i]? = some o → listed.getD i true = true → ∀ e ∈ o.after, Region.binds .any e = true → listed.getD e.on true = true
theorem marks_unlisted {ops : Array Oper} {listed : Array Bool} (hf : fwdB ops = true) (hc : Closed ops listed) {j : Nat} (hj : listed.getD j true = false) : ∀ k, k < ops.size → (marks j ops.toList).getD k false = true → listed.getD k true = false := by
  intro k
  induction k using Nat.strongRecOn with
  | ind k ih =>
    intro hk hm
    have ho : ops[k]? = some ops[k] := Array.getElem?_eq_getElem hk
    rcases marks_spec ho hm with rfl | ⟨e, he, hb, hme⟩
    · exact hj
    · have hlt := fwdB_spec hf ho he hb
      have h1 := ih e.on hlt (by omega) hme
      cases hl : listed.getD k true
      · rfl
      · rw [hc k _ ho hl e he hb] at h1; cases h1
theorem tailB_spec {ops : Array Oper} {m : Nat} {fl : List Nat} (h : tailB ops m fl = true) (hf : fwdB ops = true) {listed : Array Bool} (hc : Closed ops listed) {k j : Nat} {o : Oper} (ho : ops[k]? = some o) (hm : m ≤ k) (hj : j < k) (hfl : j ∉ fl) (hu : listed.getD j true = false) :
    ∃ e ∈ o.after, Region.binds .any e = true ∧ listed.getD e.on true = false := by
  have hk : k < ops.size := (Array.getElem?_eq_some_iff.1 ho).1
  have h1 := List.all_eq_true.1 h j (List.mem_range.2 (by omega))
  rw [Bool.or_eq_true] at h1
  rcases h1 with h1 | h1
  · simp at h1; exact absurd h1 hfl
  · have h2 := List.all_eq_true.1 h1 k (List.mem_range.2 hk)
    rw [Bool.or_eq_true, Bool.or_eq_true] at h2
    rcases h2 with (h2 | h2) | h2
    · have := of_decide_eq_true h2; omega
    · have := of_decide_eq_true h2; omega
    · rcases marks_spec ho h2 with e | ⟨e, he, hb, hme⟩
      · omega
      · have hlt := fwdB_spec hf ho he hb
        exact ⟨e, he, hb, marks_unlisted hf hc hu e.on (by omega) hme⟩
theorem dstB_spec {ops : Array Oper} {m n : Nat} (h : dstB ops m n = true) {i : Nat} {d : Tmp} (hi : i < m) (hd : dstOf ops i = some d) : d < n ∧ ∀ j, j < m → j ≠ i → dstOf ops j ≠ some d := by
  have h1 := List.all_eq_true.1 h i (List.mem_range.2 hi)
  simp only [hd, Bool.and_eq_true] at h1
  refine ⟨of_decide_eq_true h1.1, fun j hj hne => ?_⟩
  have h2 := List.all_eq_true.1 h1.2 j (List.mem_range.2 hj)
  rw [Bool.or_eq_true] at h2
  rcases h2 with h2 | h2
  · exact absurd (beq_iff_eq.1 h2).symm hne
  · simpa using h2

def cnt (p : Nat → Bool) : Nat → Nat
  | 0 => 0
  | n + 1 => cnt p n + if p n then 1 else 0
theorem cnt_congr {p q : Nat → Bool} : ∀ n, (∀ j, j < n → q j = p j) → cnt q n = cnt p n
  | 0, _ => rfl
  | n + 1, h => by simp only [cnt]; rw [cnt_congr n (fun j hj => h j (by omega)), h n (by omega)]
theorem cnt_drop {p q : Nat → Bool} {i : Nat} (hp : p i = true) (hq : q i = false) (h : ∀ j, j ≠ i → q j = p j) : ∀ n, i < n → cnt q n + 1 = cnt p n
  | 0, hi => by omega
  | n + 1, hi => by
    simp only [cnt]
    by_cases e : i = n
    · subst e
      rw [cnt_congr i (fun j hj => h j (by omega)), hp, hq]; simp
    · have := cnt_drop hp hq h n (by omega)
      rw [h n (by omega)]; omega
theorem cnt_zero {p : Nat → Bool} : ∀ n, cnt p n = 0 → ∀ j, j < n → p j = false
  | 0, _, j, hj => by omega
  | n + 1, h, j, hj => by
    simp only [cnt] at h
    by_cases e : j = n
    · subst e; cases hpn : p j
      · rfl
      · rw [hpn] at h; simp at h
    · exact cnt_zero n (by omega) j (by omega)

section
variable {P : Program} {ops : Array Oper} {Q : Exit → Act → World → Prop}

theorem least_unlisted {p : Nat → Bool} : ∀ n, (∃ j, j < n ∧ p j = true) → ∃ j, j < n ∧ p j = true ∧ ∀ i, i < j → p i = false
  | 0, ⟨j, hj, _⟩ => by omega
  | n + 1, ⟨j, hj, hp⟩ => by
    by_cases h : ∃ j, j < n ∧ p j = true
    · obtain ⟨k, hk, h1, h2⟩ := least_unlisted n h
      exact ⟨k, by omega, h1, h2⟩
    · have e : j = n := by
        rcases Nat.lt_or_ge j n with h' | h'
        · exact absurd ⟨j, h', hp⟩ h
        · omega
      subst e
      refine ⟨j, by omega, hp, fun i hi => ?_⟩
      cases hpi : p i
      · rfl
      · exact absurd ⟨i, hi, hpi⟩ h

theorem ready_of_least (hf : fwdB ops = true) {listed : Array Bool} {j : Nat} (hj : j < ops.size) (hu : listed.getD j true = false) (hl : ∀ i, i < j → listed.getD i true = true) (hs : listed.size = ops.size) : j ∈ Region.ready .any ops listed := by
  refine mem_ready.2 ⟨hu, ops[j], Array.getElem?_eq_getElem hj, fun e he hb => ?_⟩
  have hlt := fwdB_spec hf (Array.getElem?_eq_getElem hj) he hb
  have h1 := hl e.on hlt
  have hsz : e.on < listed.size := by omega
  simp [hsz] at h1 ⊢
  exact h1

theorem getD_listed {listed : Array Bool} {i : Nat} (h : i < listed.size) : listed.getD i true = listed.getD i false := by simp [h]

theorem closed_set {listed : Array Bool} {i : Nat} {o : Oper} (hs : listed.size = ops.size) (hf : fwdB ops = true) (hc : Closed ops listed) (ho : ops[i]? = some o) (hall : ∀ e ∈ o.after, Region.binds .any e = true → listed.getD e.on false = true) : Closed ops (listed.setIfInBounds i true) := by
  intro k ok hk hl e he hb
  have hlt := fwdB_spec hf hk he hb
  have hks : k < ops.size := (Array.getElem?_eq_some_iff.1 hk).1
  by_cases hie : i = e.on
  · subst hie; simp [show e.on < listed.size by omega]
  · rw [getD_set_ne true hie]
    by_cases hik : i = k
    · subst hik
      rw [ho] at hk; cases hk
      rw [getD_listed (by omega)]; exact hall e he hb
    · rw [getD_set_ne true hik] at hl
      exact hc k ok hk hl e he hb

theorem closed_init (ops : Array Oper) : Closed ops (Array.replicate ops.size false) := by
  intro i o ho hl
  have hi : i < ops.size := (Array.getElem?_eq_some_iff.1 ho).1
  simp [hi] at hl

theorem tail_wp (m : Nat) (fl : List Nat) (hflm : ∀ i ∈ fl, i < m) (hf : fwdB ops = true) (ht : tailB ops m fl = true) : ∀ (r k : Nat), k + r = ops.size → m ≤ k → ∀ (fuel : Nat) (listed : Array Bool) (a : Act) (w : World), r ≤ fuel → listed.size = ops.size → Closed ops listed →
    (∀ j, j < k → listed.getD j true = true) → (∀ j, k ≤ j → j < ops.size → listed.getD j true = false) → wpOps P ops Q (List.range' k r) a w → wpAny P .any ops Q fuel listed a w := by
  intro r
  induction r with
  | zero =>
    intro k hk _ fuel listed a w _ hs _ h1 _ h
    have hr : Region.ready .any ops listed = [] := by
      cases hr : Region.ready .any ops listed with
      | nil => rfl
      | cons x xs =>
        have hx : x ∈ Region.ready .any ops listed := by rw [hr]; simp
        obtain ⟨h0, o, ho, _⟩ := mem_ready.1 hx
        have := h1 x (by have := (Array.getElem?_eq_some_iff.1 ho).1; omega)
        rw [this] at h0; cases h0
    cases fuel with
    | zero => exact ⟨hr, h⟩
    | succ f => exact ⟨fun _ => h, fun i hi => by rw [hr] at hi; cases hi⟩
  | succ r ih =>
    intro k hk hmk fuel listed a w hfu hs hcl h1 h2 h
    cases fuel with
    | zero => omega
    | succ f =>
      have hkr : k ∈ Region.ready .any ops listed := ready_of_least hf (by omega) (h2 k (by omega) (by omega)) h1 hs
      refine ⟨fun h0 => (by rw [h0] at hkr; cases hkr), fun i hi => ?_⟩
      obtain ⟨hu, o, ho, hall⟩ := mem_ready.1 hi
      have hil : i < ops.size := (Array.getElem?_eq_some_iff.1 ho).1
      have hki : i = k := by
        rcases Nat.lt_trichotomy i k with hlt | heq | hgt
        · have := h1 i hlt; rw [this] at hu; cases hu
        · exact heq
        · obtain ⟨e, he, hb, hun⟩ := tailB_spec ht hf hcl ho (by omega) hgt (fun hmem => by have := hflm k hmem; omega) (h2 k (by omega) (by omega))
          have := hall e he hb
          have hlt := fwdB_spec hf ho he hb
          rw [← getD_listed (by omega), hun] at this
          cases this
      subst hki
      rw [List.range'_succ, wpOps_cons] at h
      refine wpOp_mono (fun a' w' h' => ?_) h
      refine ih (i + 1) (by omega) (by omega) f _ a' w' (by omega) (by simpa using hs) (closed_set hs hf hcl ho hall) (fun j hj => ?_) (fun j hj hj2 => ?_) h'
      · by_cases e : i = j
        · subst e; simp [show i < listed.size by omega]
        · rw [getD_set_ne true e]; exact h1 j (by omega)
      · rw [getD_set_ne true (by omega)]; exact h2 j (by omega) hj2

structure Inv (ops : Array Oper) (m : Nat) (a0 : Act) (w0 : World) (env : Nat → VP) (listed : Array Bool) (a : Act) (w : World) : Prop where
  size : listed.size = ops.size
  closed : Closed ops listed
  tail : ∀ j, m ≤ j → j < ops.size → listed.getD j true = false
  ext : Ext w0 w
  ctx : Ctx ops m a0 a
  facts : ∀ i, i < m → listed.getD i true = true → ∃ v, env i v w ∧ ∀ d, dstOf ops i = some d → v = a.tmps.getD d undef

theorem freeB_spec {m : Nat} {fl : List Nat} (h : freeB ops m fl = true) {i : Nat} (hi : i ∈ fl) : i < m ∧ ∃ oi, ops[i]? = some oi ∧ pureKind oi.op = true ∧ (∃ d, oi.dst = some d) ∧
    ∀ (j : Nat) oj, ops[j]? = some oj → i ≠ j → (∃ e ∈ oi.after, Region.binds .any e = true ∧ e.on = j) ∨ (∃ e ∈ oj.after, Region.binds .any e = true ∧ e.on = i) ∨ oi.apart ops oj = true := by
  have h1 := List.all_eq_true.1 h i hi
  rw [Bool.and_eq_true] at h1
  refine ⟨of_decide_eq_true h1.1, ?_⟩
  cases ho : ops[i]? with
  | none => have := h1.2; rw [ho] at this; cases this
  | some oi =>
    have h2 := h1.2
    simp only [ho, Bool.and_eq_true] at h2
    obtain ⟨⟨h3, h4⟩, h5⟩ := h2
    refine ⟨oi, rfl, h3, Option.isSome_iff_exists.1 h4, fun j oj hj hne => ?_⟩
    have h6 := List.all_eq_true.1 h5 j (List.mem_range.2 (Array.getElem?_eq_some_iff.1 hj).1)
    simp only [hj, Bool.or_eq_true, beq_iff_eq, hne, false_or] at h6
    rcases h6 with (h6 | h6) | h6
    · obtain ⟨e, he, hb⟩ := List.any_eq_true.1 h6
      simp only [Bool.and_eq_true, beq_iff_eq] at hb
      exact .inl ⟨e, Array.mem_toList_iff.1 he, hb.1, hb.2⟩
    · obtain ⟨e, he, hb⟩ := List.any_eq_true.1 h6
      simp only [Bool.and_eq_true, beq_iff_eq] at hb
      exact .inr (.inl ⟨e, Array.mem_toList_iff.1 he, hb.1, hb.2⟩)
    · exact .inr (.inr h6)
theorem put_inj {a : Act} {d : Tmp} {x v : Value} (hlt : d < a.tmps.size) (h : a.put (some d) x = a.put (some d) v) : x = v := by
  have h1 := congrArg (fun (b : Act) => b.tmps[d]?) h
  simp only [Act.put, Array.getElem?_setIfInBounds_self_of_lt hlt, Option.some.injEq] at h1
  exact h1
theorem pure_yields {b : Nat} {o : Oper} {a : Act} {w : World} {F : Value → World → Prop} {d : Tmp} (hp : pureKind o.op = true) (hdo : o.dst = some d) (hlt : d < a.tmps.size) (h : o.wp P a w (fun a' w' => ∃ v, a' = a.put o.dst v ∧ Grow b w w' ∧ F v w') Q) : ∃ v, (∀ w, (execOp a.eval o).run P w = .ok (.value v) w) ∧ F v w := by
  have key : ∀ x, (∀ w, (execOp a.eval o).run P w = .ok (.value x) w) → ∃ v, (∀ w, (execOp a.eval o).run P w = .ok (.value v) w) ∧ F v w := by
    intro x hx
    unfold Oper.wp at h
    rw [hx w, Oper.upon_value] at h
    obtain ⟨v, hv, -, hF⟩ := h
    rw [hdo] at hv
    cases put_inj hlt hv
    exact ⟨x, hx, hF⟩
  cases hop : o.op with
  | move x => exact key (a.eval x) fun w => by simp only [execOp, hop]; rfl
  | extract x i =>
    unfold Oper.wp at h
    cases ht : a.eval x with
    | tuple vs =>
      cases hg : vs[i]? with
      | some y => exact key y fun w => by simp only [execOp, hop, ht, Instr.extract, hg]; rfl
      | none => simp only [execOp, hop, ht, Instr.extract, hg] at h; exact absurd h id
    | _ => simp only [execOp, hop, ht, Instr.extract] at h; exact absurd h id
  | _ => rw [hop] at hp; cases hp
theorem pre_wp (m : Nat) (fl : List Nat) (a0 : Act) (w0 : World) (env : Nat → VP) (hmle : m ≤ ops.size) (hf : fwdB ops = true) (ht : tailB ops m fl = true) (hd : dstB ops m a0.tmps.size = true) (hfr : freeB ops m fl = true) (hsel : Region.noSelect ops = true)
    (hQ : fl ≠ [] → ∀ c a (d : Tmp) v w, Q (.panic c) { a with tmps := a.tmps.setIfInBounds d v } w → Q (.panic c) a w)
    (hsp : ∀ i o, i < m → ops[i]? = some o → Spec P Q ops m a0 w0 env o (env i))
    (hfin : ∀ a w, Ext w0 w → Ctx ops m a0 a → (∀ i, i < m → ∃ v, env i v w ∧ ∀ d, dstOf ops i = some d → v = a.tmps.getD d undef) → wpOps P ops Q (List.range' m (ops.size - m)) a w) :
    ∀ (fuel : Nat) (listed : Array Bool) (a : Act) (w : World), cnt (fun i => !listed.getD i true) ops.size ≤ fuel → Inv ops m a0 w0 env listed a w → wpAny P .any ops Q fuel listed a w := by
  intro fuel
  have fin : ∀ (fuel : Nat) (listed : Array Bool) (a : Act) (w : World), cnt (fun i => !listed.getD i true) ops.size ≤ fuel → Inv ops m a0 w0 env listed a w → (∀ i, i < m → listed.getD i true = true) → wpAny P .any ops Q fuel listed a w := by
    intro fuel listed a w hc hI hall
    refine tail_wp m fl (fun i hi => (freeB_spec hfr hi).1) hf ht (ops.size - m) m (by omega) (Nat.le_refl _) fuel listed a w ?_ hI.size hI.closed hall hI.tail (hfin a w hI.ext hI.ctx fun i hi => hI.facts i hi (hall i hi))
    have : ∀ r, r ≤ ops.size - m → r ≤ cnt (fun i => !listed.getD i true) (m + r) := by
      intro r
      induction r with
      | zero => intro _; omega
      | succ r ih =>
        intro hr
        have h1 := ih (by omega)
        have h2 := hI.tail (m + r) (by omega) (by omega)
        have h3 : cnt (fun i => !listed.getD i true) (m + (r + 1)) = cnt (fun i => !listed.getD i true) (m + r) + if (!listed.getD (m + r) true) = true then 1 else 0 := rfl
        rw [h3, h2, Bool.not_false, if_pos rfl]
        exact Nat.succ_le_succ h1
    have h2 := this (ops.size - m) (Nat.le_refl _)
    rw [show m + (ops.size - m) = ops.size by omega] at h2
    omega
  induction fuel with
  | zero =>
    intro listed a w hc hI
    refine fin 0 listed a w hc hI fun i hi => ?_
    have := cnt_zero (p := fun i => !listed.getD i true) ops.size (by omega) i (show i < ops.size by omega)
    simpa using this
  | succ fuel ih =>
    intro listed a w hc hI
    by_cases hall : ∀ i, i < m → listed.getD i true = true
    · exact fin _ listed a w hc hI hall
    · have hex : ∃ j, j < m ∧ (!listed.getD j true) = true := by
        apply Classical.byContradiction
        intro hno
        apply hall
        intro i hi
        cases hli : listed.getD i true
        · exact absurd ⟨i, hi, by rw [hli]; rfl⟩ hno
        · rfl
      obtain ⟨j0, hj0, hp0, hl0⟩ := least_unlisted (p := fun i => !listed.getD i true) m hex
      have hr0 : j0 ∈ Region.ready .any ops listed := ready_of_least hf (by omega) (by simpa using hp0) (fun i hi => by simpa using hl0 i hi) hI.size
      -- what a step brings: whoever is ready ahead of the stores
      have next : ∀ i o, i < m → ops[i]? = some o → listed.getD i true = false → (∀ e ∈ o.after, Region.binds .any e = true → listed.getD e.on false = true) → ∀ v w', Grow w0.heap.size w w' → env i v w' → wpAny P .any ops Q fuel (listed.setIfInBounds i true) (a.put o.dst v) w' := by
        intro i o him ho hu hrdy v w' hE hF
        have hil : i < ops.size := (Array.getElem?_eq_some_iff.1 ho).1
        refine ih _ _ _ ?_ ⟨by simpa using hI.size, closed_set hI.size hf hI.closed ho hrdy, fun j hj hj2 => by rw [getD_set_ne true (by omega)]; exact hI.tail j hj hj2, Below.trans hI.ext hE.1, ?_, ?_⟩
        · have := cnt_drop (p := fun i => !listed.getD i true) (q := fun j => !(listed.setIfInBounds i true).getD j true) (i := i) (by rw [hu]; rfl) (by simp [show i < listed.size by rw [hI.size]; exact hil])
            (fun j hj => by rw [getD_set_ne true (Ne.symm hj)]) ops.size hil
          omega
        · cases hdo : o.dst with
          | none => exact hI.ctx
          | some d =>
            refine ⟨by simp only [Act.put, Array.size_setIfInBounds]; exact hI.ctx.size, hI.ctx.defers, fun t ht' => ?_⟩
            have hne : d ≠ t := fun e => ht' i him (by unfold dstOf; rw [ho]; simpa [e] using hdo)
            simp only [Act.put, Array.getElem?_setIfInBounds_ne hne]
            exact hI.ctx.frame t ht'
        · intro k hk hlk
          by_cases e : i = k
          · subst e
            refine ⟨v, hF, fun d hd' => ?_⟩
            have hdo : o.dst = some d := by unfold dstOf at hd'; rw [ho] at hd'; exact hd'
            have hlt := (dstB_spec hd him hd').1
            rw [hdo]
            simp [Act.put, hI.ctx.size, hlt]
          · rw [getD_set_ne true e] at hlk
            obtain ⟨u, hu1, hu2⟩ := hI.facts k hk hlk
            refine ⟨u, (env k).wk u w w' hu1 hE.2, fun d hd' => ?_⟩
            rw [hu2 d hd']
            cases hdo : o.dst with
            | none => rfl
            | some d2 =>
              have hne : d2 ≠ d := fun e2 => (dstB_spec hd hk hd').2 i him e (by unfold dstOf; rw [ho]; simpa [e2] using hdo)
              simp [Act.put, Array.getElem?_setIfInBounds_ne hne]
      have spec : ∀ i o, i < m → ops[i]? = some o → (∀ e ∈ o.after, Region.binds .any e = true → listed.getD e.on false = true) →
          if Region.wanted o (yielded ops a.tmps) = true then o.wp P a w (fun a' w' => ∃ v, a' = a.put o.dst v ∧ Grow w0.heap.size w w' ∧ env i v w') Q else env i undef w := by
        intro i o him ho hrdy
        refine hsp i o him ho a w hI.ext hI.ctx ?_
        intro e he hb d hd'
        have hlt := fwdB_spec hf ho he hb
        obtain ⟨v, hv, hvd⟩ := hI.facts e.on (by omega) (by rw [getD_listed (by rw [hI.size]; omega)]; exact hrdy e he hb)
        rw [← hvd d hd']; exact hv
      by_cases hfloat : ∃ i ∈ fl, i ∈ Region.ready .any ops listed
      · -- a floater is taken first
        obtain ⟨i, hifl, hi⟩ := hfloat
        obtain ⟨hu, o, ho, hrdy⟩ := mem_ready.1 hi
        obtain ⟨him, oi, hoi, hpk, ⟨d, hdo⟩, hap⟩ := freeB_spec hfr hifl
        rw [ho] at hoi; cases hoi
        have hs := spec i o him ho hrdy
        have hy : ∃ v, Yields P ops o v a ∧ env i v w := by
          by_cases hw : Region.wanted o (yielded ops a.tmps) = true
          · rw [if_pos hw] at hs
            obtain ⟨v, hv, hF⟩ := pure_yields hpk hdo (by rw [hI.ctx.size]; exact (dstB_spec hd him (by unfold dstOf; rw [ho]; exact hdo)).1) hs
            exact ⟨v, .inl ⟨hw, hv⟩, hF⟩
          · rw [if_neg hw] at hs
            exact ⟨undef, .inr ⟨by simpa using hw, rfl⟩, hs⟩
        obtain ⟨v, hyv, hF⟩ := hy
        refine wpAny_first ho (Region.noSelect_spec hsel) ?_ fuel listed a w (fun j oj hoj hji hju hno => ?_) hi hyv (next i o him ho hu hrdy v w ((Ext.rf _).grow hI.ext.size) hF)
        · rw [hdo]; intro c a w h; exact hQ (by rintro rfl; cases hifl) c a d v w h
        · rcases hap j oj hoj (Ne.symm hji) with ⟨e, he, hb, hon⟩ | ⟨e, he, hb, hon⟩ | h
          · have := hrdy e he hb
            rw [hon, ← getD_listed (by rw [hI.size]; exact (Array.getElem?_eq_some_iff.1 hoj).1), hju] at this; cases this
          · exact absurd hon (hno e he hb)
          · exact h
      · refine ⟨fun h0 => (by rw [h0] at hr0; cases hr0), fun i hi => ?_⟩
        obtain ⟨hu, o, ho, hrdy⟩ := mem_ready.1 hi
        have hil : i < ops.size := (Array.getElem?_eq_some_iff.1 ho).1
        have him : i < m := by
          rcases Nat.lt_or_ge i m with h | h
          · exact h
          · obtain ⟨e, he, hb, hun⟩ := tailB_spec ht hf hI.closed ho h (show j0 < i by omega) (fun hmem => hfloat ⟨j0, hmem, hr0⟩) (by simpa using hp0)
            have := hrdy e he hb
            have hlt := fwdB_spec hf ho he hb
            rw [← getD_listed (by rw [hI.size]; omega), hun] at this
            cases this
        have hs := spec i o him ho hrdy
        unfold wpOp
        simp only [ho]
        split
        · rename_i hw
          rw [if_pos hw] at hs
          exact .inl (Oper.wp_mono (fun a' w' ⟨v, e1, hE, hF⟩ => by subst e1; exact next i o him ho hu hrdy v w' hE hF) hs)
        · rename_i hw
          rw [if_neg hw] at hs
          exact next i o him ho hu hrdy undef w ((Ext.rf _).grow hI.ext.size) hs

/-- The walk of the operations ahead of the stores, one at a time. -/
def VWalk (P : Program) (Q : Exit → Act → World → Prop) (ops : Array Oper) (M : Nat) (a0 : Act) (w0 : World) (K : List Oper → List VP → Prop) : Nat → List Oper → List VP → Prop
  | 0, rest, env => K rest env
  | m + 1, o :: rest, env => ∃ F : VP, Spec P Q ops M a0 w0 (envOf env) o F ∧ VWalk P Q ops M a0 w0 K m rest (F :: env)
  | _ + 1, [], _ => False

def VFin (P : Program) (Q : Exit → Act → World → Prop) (ops : Array Oper) (tail : List Oper) : List Oper → List VP → Act → World → Prop
  | o :: os, F :: Fs, a, w => ∀ v, F v w → VFin P Q ops tail os Fs (a.put o.dst v) w
  | _, _, a, w => wpList P ops Q tail a w

theorem VWalk.spec {M : Nat} {a0 : Act} {w0 : World} {K : List Oper → List VP → Prop} (hf : fwdB ops = true) : ∀ (m : Nat) (l : List Oper) (env : List VP), (∀ j, l[j]? = ops[env.length + j]?) → VWalk P Q ops M a0 w0 K m l env →
    m ≤ l.length ∧ ∃ Fs : List VP, Fs.length = m ∧ K (l.drop m) (Fs ++ env) ∧
      ∀ i o, i < m → ops[env.length + i]? = some o → Spec P Q ops M a0 w0 (envOf (Fs ++ env)) o (envOf (Fs ++ env) (env.length + i))
  | 0, l, env, _, h => ⟨Nat.zero_le _, [], rfl, by simpa [VWalk] using h, fun i o hi => by omega⟩
  | m + 1, [], env, _, h => h.elim
  | m + 1, o :: rest, env, hl, h => by
    obtain ⟨F, hS, hR⟩ := h
    obtain ⟨h0, Fs, h1, h2, h4⟩ := VWalk.spec hf m rest (F :: env) (fun j => by have := hl (j + 1); simpa [Nat.add_assoc, Nat.add_comm 1 j] using this) hR
    have e1 : Fs ++ F :: env = (Fs ++ [F]) ++ env := by simp
    have e2 : envOf ((Fs ++ [F]) ++ env) env.length = F := by simp [envOf]
    rw [e1] at h2 h4
    refine ⟨by simpa using h0, Fs ++ [F], by simp [h1], by simpa using h2, fun i o' hi ho => ?_⟩
    cases i with
    | zero =>
      have ho0 : ops[env.length]? = some o := by have := hl 0; simpa using this.symm
      rw [Nat.add_zero] at ho ⊢
      rw [ho0] at ho
      injection ho with ho
      subst ho
      rw [e2]
      intro a w hE hC hD
      refine hS a w hE hC fun e he hb d hd' => ?_
      have hlt := fwdB_spec hf ho0 he hb
      have := hD e he hb d hd'
      unfold envOf at this ⊢
      rwa [List.reverse_append, List.getD_eq_getElem?_getD, List.getElem?_append_left (by simpa using hlt), ← List.getD_eq_getElem?_getD] at this
    | succ i =>
      have := h4 i o' (by omega) (by rw [List.length_cons, Nat.add_assoc, Nat.add_comm 1 i]; exact ho)
      rwa [List.length_cons, Nat.add_assoc, Nat.add_comm 1 i] at this

theorem vfin_out {tail : List Oper} {w : World} {b : Act} (n : Nat) (hb : b.tmps.size = n) : ∀ (l : List Oper) (Fs : List VP) (a : Act), l.length = Fs.length → a.tmps.size = n → a.defers = b.defers →
    (∀ (i : Nat) (F : VP), Fs[i]? = some F → ∃ v, F v w ∧ ∀ (o : Oper) (d : Tmp), l[i]? = some o → o.dst = some d → v = b.tmps.getD d undef) →
    (∀ t : Nat, a.tmps[t]? = b.tmps[t]? ∨ ∃ (i : Nat) (o : Oper), l[i]? = some o ∧ o.dst = some t) →
    VFin P Q ops tail l Fs a w → wpList P ops Q tail b w
  | [], [], a, _, hs, hd, _, hf, h => by
    have : a = b := by
      obtain ⟨t1, d1⟩ := a
      obtain ⟨t2, d2⟩ := b
      have : t1 = t2 := by
        apply Array.ext_getElem?
        intro t
        rcases hf t with h | ⟨i, o, h, _⟩
        · exact h
        · simp at h
      simp only [Act.mk.injEq]
      exact ⟨this, hd⟩
    subst this
    exact h
  | [], _ :: _, _, hl, _, _, _, _, _ => by simp at hl
  | _ :: _, [], _, hl, _, _, _, _, _ => by simp at hl
  | o :: l, F :: Fs, a, hl, hs, hd, hF, hf, h => by
    obtain ⟨v, hv, hvd⟩ := hF 0 F rfl
    refine vfin_out n hb l Fs (a.put o.dst v) (by simpa using hl) (by cases o.dst <;> simp [Act.put, hs]) (by cases o.dst <;> simp [Act.put, hd]) (fun i F' hi => ?_) (fun t => ?_) (h v hv)
    · obtain ⟨u, h1, h2⟩ := hF (i + 1) F' hi
      exact ⟨u, h1, fun o' d h3 h4 => h2 o' d h3 h4⟩
    · cases hdo : o.dst with
      | none =>
        rcases hf t with h' | ⟨i, o', h1, h2⟩
        · exact .inl h'
        · cases i with
          | zero => simp at h1; subst h1; rw [hdo] at h2; cases h2
          | succ i => exact .inr ⟨i, o', h1, h2⟩
      | some d =>
        by_cases e : d = t
        · subst e
          left
          have := hvd o d rfl hdo
          rw [this]
          simp only [Act.put]
          by_cases hlt : d < a.tmps.size
          · rw [Array.getElem?_setIfInBounds_self_of_lt hlt]
            have hlt2 : d < b.tmps.size := Nat.lt_of_lt_of_eq hlt (hs.trans hb.symm)
            simp [hlt2]
          · rw [Array.getElem?_eq_none (by simpa using hlt), Array.getElem?_eq_none (by rw [hb, ← hs]; exact Nat.le_of_not_lt hlt)]
        · rcases hf t with h' | ⟨i, o', h1, h2⟩
          · left; simp only [Act.put, Array.getElem?_setIfInBounds_ne e]; exact h'
          · cases i with
            | zero => simp at h1; subst h1; rw [hdo] at h2; injection h2 with h2; exact absurd h2 e
            | succ i => exact .inr ⟨i, o', h1, h2⟩

theorem VFin.eq {tail os : List Oper} {o : Oper} {x : Value} {Fs : List VP} {a : Act} {w : World} (h : VFin P Q ops tail os Fs (a.put o.dst x) w) : VFin P Q ops tail (o :: os) (VEq x :: Fs) a w := by
  intro v hv
  rw [show v = x from hv]; exact h
theorem VFin.any {tail os : List Oper} {o : Oper} {F : VP} {Fs : List VP} {a : Act} {w : World} (h : ∀ v, F v w → VFin P Q ops tail os Fs (a.put o.dst v) w) : VFin P Q ops tail (o :: os) (F :: Fs) a w := h
theorem VFin.nil {tail : List Oper} {a : Act} {w : World} (h : wpList P ops Q tail a w) : VFin P Q ops tail [] [] a w := h

/-- What is known behind the operations ahead of the stores. -/
def EnvAt (ops : Array Oper) (m : Nat) (env : List VP) (a : Act) (w : World) : Prop := ∀ i, i < m → ∃ v, envOf env i v w ∧ ∀ d, dstOf ops i = some d → v = a.tmps.getD d undef

/-- A region that draws its order: the operations ahead of its stores, each by what it needs alone; then the rest as it stands. -/
theorem vregion_anyN {l : List Oper} {a0 : Act} {w : World} (m : Nat) (fl : List Nat) (hB : preB l.toArray m a0.tmps.size fl = true) (hQ : fl ≠ [] → ∀ c a (d : Tmp) v w, Q (.panic c) { a with tmps := a.tmps.setIfInBounds d v } w → Q (.panic c) a w)
    (h : VWalk P Q l.toArray m a0 w.drew (fun tail env => ∀ a w', Ext w.drew w' → Ctx l.toArray m a0 a → EnvAt l.toArray m env a w' → wpList P l.toArray Q tail a w') m l []) : wpAny P .any l.toArray Q l.toArray.size (Array.replicate l.toArray.size false) a0 w.drew := by
  simp only [preB, Bool.and_eq_true, decide_eq_true_eq] at hB
  obtain ⟨⟨⟨⟨⟨hmle, hf⟩, ht⟩, hd⟩, hfr⟩, hsel⟩ := hB
  obtain ⟨h0, Fs, h1, h2, h4⟩ := VWalk.spec hf m l [] (fun j => by simp) h
  simp only [List.append_nil, List.length_nil, Nat.zero_add] at h2 h4
  refine pre_wp m fl a0 w.drew (envOf Fs) hmle hf ht hd hfr hsel hQ h4 ?_ _ _ _ _ ?_ ⟨by simp, closed_init _, fun j _ hj => by simp at hj; simp [hj], Ext.rf _, ⟨rfl, rfl, fun _ _ => rfl⟩, fun i hi hl => ?_⟩
  · intro a w' hE hC hF
    have hlen : (l.drop m).length = l.toArray.size - m := by simp
    rw [← hlen, wpOps_eq_wpList (l.drop m) m (fun j => by simp)]
    exact h2 a w' hE hC hF
  · have : ∀ n p, cnt p n ≤ n := by
      intro n p
      induction n with
      | zero => simp [cnt]
      | succ n ih => simp only [cnt]; split <;> omega
    exact this _ _
  · exfalso
    have : i < l.length := by simp at hmle; omega
    simp [this] at hl
theorem vregion_any {l : List Oper} {a0 : Act} {w : World} (m : Nat) (fl : List Nat) (hB : preB l.toArray m a0.tmps.size fl = true) (hQ : ∀ c a (d : Tmp) v w, Q (.panic c) { a with tmps := a.tmps.setIfInBounds d v } w → Q (.panic c) a w)
    (h : VWalk P Q l.toArray m a0 w.drew (fun tail env => ∀ a w', Ext w.drew w' → Ctx l.toArray m a0 a → EnvAt l.toArray m env a w' → wpList P l.toArray Q tail a w') m l []) : wpAny P .any l.toArray Q l.toArray.size (Array.replicate l.toArray.size false) a0 w.drew :=
  vregion_anyN m fl hB (fun _ => hQ) h
theorem vregionA {id : Nat} {l : List Oper} {a0 : Act} {w : World} (m : Nat) (fl : List Nat) (hm : P.follows .mixedOrders = true) (hB : preB l.toArray m a0.tmps.size fl = true) (hQ : ∀ c a (d : Tmp) v w, Q (.panic c) { a with tmps := a.tmps.setIfInBounds d v } w → Q (.panic c) a w)
    (h : VWalk P Q l.toArray m a0 w.drew (fun tail env => ∀ a w', Ext w.drew w' → Ctx l.toArray m a0 a → EnvAt l.toArray m env a w' → wpList P l.toArray Q tail a w') m l []) : (Code.region id l.toArray true).wp P Q a0 w :=
  wp_region_any hm (vregion_any m fl hB hQ h)

/-- What a region that draws nothing asks: its order is that of the text. -/
def preB0 (ops : Array Oper) (m n : Nat) : Bool := decide (m ≤ ops.size) && fwdB ops && dstB ops m n
theorem seq_wp (m : Nat) (a0 : Act) (w0 : World) (env : Nat → VP) (hmle : m ≤ ops.size) (hf : fwdB ops = true) (hd : dstB ops m a0.tmps.size = true)
    (hsp : ∀ i o, i < m → ops[i]? = some o → Spec P Q ops m a0 w0 env o (env i))
    (hfin : ∀ a w, Ext w0 w → Ctx ops m a0 a → (∀ i, i < m → ∃ v, env i v w ∧ ∀ d, dstOf ops i = some d → v = a.tmps.getD d undef) → wpOps P ops Q (List.range' m (ops.size - m)) a w) :
    ∀ (r k : Nat), k + r = m → ∀ (a : Act) (w : World), Ext w0 w → Ctx ops m a0 a → (∀ i, i < k → ∃ v, env i v w ∧ ∀ d, dstOf ops i = some d → v = a.tmps.getD d undef) → wpOps P ops Q (List.range' k (ops.size - k)) a w := by
  intro r
  induction r with
  | zero =>
    intro k hk a w hE hC hF
    obtain rfl : k = m := by omega
    exact hfin a w hE hC hF
  | succ r ih =>
    intro k hk a w hE hC hF
    have hkl : k < ops.size := by omega
    have ho : ops[k]? = some ops[k] := Array.getElem?_eq_getElem hkl
    rw [show ops.size - k = (ops.size - (k + 1)) + 1 by omega, List.range'_succ, wpOps_cons]
    have hs := hsp k ops[k] (by omega) ho a w hE hC (fun e he hb d hd' => by
      have hlt := fwdB_spec hf ho he hb
      obtain ⟨v, hv, hvd⟩ := hF e.on hlt
      rw [← hvd d hd']; exact hv)
    have next : ∀ v w', Grow w0.heap.size w w' → env k v w' → wpOps P ops Q (List.range' (k + 1) (ops.size - (k + 1))) (a.put ops[k].dst v) w' := by
      intro v w' hG hv
      refine ih (k + 1) (by omega) _ _ (Below.trans hE hG.1) ?_ ?_
      · cases hdo : ops[k].dst with
        | none => exact hC
        | some d =>
          refine ⟨by simp only [Act.put, Array.size_setIfInBounds]; exact hC.size, hC.defers, fun t ht' => ?_⟩
          have hne : d ≠ t := fun e => ht' k (by omega) (by unfold dstOf; rw [ho]; simpa [e] using hdo)
          simp only [Act.put, Array.getElem?_setIfInBounds_ne hne]
          exact hC.frame t ht'
      · intro i hi
        by_cases e : i = k
        · subst e
          refine ⟨v, hv, fun d hd' => ?_⟩
          have hdo : ops[i].dst = some d := by unfold dstOf at hd'; rw [ho] at hd'; exact hd'
          have hlt := (dstB_spec hd (show i < m by omega) hd').1
          rw [hdo]
          simp [Act.put, hC.size, hlt]
        · obtain ⟨u, hu1, hu2⟩ := hF i (by omega)
          refine ⟨u, (env i).wk u w w' hu1 hG.2, fun d hd' => ?_⟩
          rw [hu2 d hd']
          cases hdo : ops[k].dst with
          | none => rfl
          | some d2 =>
            have hne : d2 ≠ d := fun e2 => (dstB_spec hd (show i < m by omega) hd').2 k (by omega) (Ne.symm e) (by unfold dstOf; rw [ho]; simpa [e2] using hdo)
            simp [Act.put, Array.getElem?_setIfInBounds_ne hne]
    unfold wpOp
    simp only [ho]
    split
    · rename_i hw
      rw [if_pos hw] at hs
      exact .inl (Oper.wp_mono (fun a' w' ⟨v, e1, hG, hv⟩ => by subst e1; exact next v w' hG hv) hs)
    · rename_i hw
      rw [if_neg hw] at hs
      exact next undef w ((Ext.rf _).grow hE.size) hs
/-- The same for a region that draws nothing. -/
theorem vregion_ops {l : List Oper} {a0 : Act} {w : World} (m : Nat) (hB : preB0 l.toArray m a0.tmps.size = true)
    (h : VWalk P Q l.toArray m a0 w (fun tail env => ∀ a w', Ext w w' → Ctx l.toArray m a0 a → EnvAt l.toArray m env a w' → wpList P l.toArray Q tail a w') m l []) : wpOps P l.toArray Q (List.range l.toArray.size) a0 w := by
  simp only [preB0, Bool.and_eq_true, decide_eq_true_eq] at hB
  obtain ⟨⟨hmle, hf⟩, hd⟩ := hB
  obtain ⟨h0, Fs, h1, h2, h4⟩ := VWalk.spec hf m l [] (fun j => by simp) h
  simp only [List.append_nil, List.length_nil, Nat.zero_add] at h2 h4
  rw [List.range_eq_range']
  refine seq_wp m a0 w (envOf Fs) hmle hf hd h4 ?_ m 0 (by omega) a0 w (Ext.rf _) ⟨rfl, rfl, fun _ _ => rfl⟩ (fun i hi => by omega)
  intro a w' hE hC hF
  have hlen : (l.drop m).length = l.toArray.size - m := by simp
  rw [← hlen, wpOps_eq_wpList (l.drop m) m (fun j => by simp)]
  exact h2 a w' hE hC hF
theorem vregionA0 {id : Nat} {l : List Oper} {a0 : Act} {w : World} (m : Nat) (hB : preB0 l.toArray m a0.tmps.size = true)
    (h : VWalk P Q l.toArray m a0 w (fun tail env => ∀ a w', Ext w w' → Ctx l.toArray m a0 a → EnvAt l.toArray m env a w' → wpList P l.toArray Q tail a w') m l []) : (Code.region id l.toArray false).wp P Q a0 w :=
  wp_region (vregion_ops m hB h)

theorem vfin_of {l : List Oper} {a0 a : Act} {w' : World} {m : Nat} {Fs : List VP} {tail : List Oper} (hml : m ≤ l.length) (h1 : Fs.length = m) (hC : Ctx l.toArray m a0 a) (hF : EnvAt l.toArray m Fs a w')
    (h : VFin P Q l.toArray tail (l.take m) Fs.reverse a0 w') : wpList P l.toArray Q tail a w' := by
  refine vfin_out a0.tmps.size hC.size (l.take m) Fs.reverse a0 (by simp [h1]; omega) rfl hC.defers.symm (fun i F hi => ?_) (fun t => ?_) h
  · have hi' : i < m := by have := (List.getElem?_eq_some_iff.1 hi).1; rw [List.length_reverse] at this; omega
    obtain ⟨v, hv, hvd⟩ := hF i hi'
    refine ⟨v, by unfold envOf at hv; rw [List.getD_eq_getElem?_getD, hi] at hv; exact hv, fun o d ho hd' => hvd d ?_⟩
    rw [List.getElem?_take] at ho
    rw [if_pos hi'] at ho
    simp [dstOf, ho, hd']
  · by_cases hx : ∃ i, i < m ∧ dstOf l.toArray i = some t
    · obtain ⟨i, hi, hx⟩ := hx
      right
      unfold dstOf at hx
      obtain ⟨o, ho, hod⟩ := Option.bind_eq_some_iff.1 hx
      exact ⟨i, o, by rw [List.getElem?_take, if_pos hi]; simpa using ho, hod⟩
    · left
      exact (hC.frame t fun i hi e => hx ⟨i, hi, e⟩).symm

theorem vwalk_fin {l : List Oper} {a0 : Act} {w0 : World} (m : Nat) (hmle : m ≤ l.length) : ∀ (k : Nat) (r : List Oper) (env : List VP), VWalk P Q l.toArray m a0 w0 (fun tail env => decide (env.length = m) = true ∧ ∀ w', Ext w0 w' → VFin P Q l.toArray tail (l.take m) env.reverse a0 w') k r env →
    VWalk P Q l.toArray m a0 w0 (fun tail env => ∀ a w', Ext w0 w' → Ctx l.toArray m a0 a → EnvAt l.toArray m env a w' → wpList P l.toArray Q tail a w') k r env
  | 0, r, env, h => fun a w' hE hC hF => vfin_of hmle (of_decide_eq_true h.1) hC hF (h.2 w' hE)
  | k + 1, [], env, h => h
  | k + 1, o :: r, env, h => by
    obtain ⟨F, h1, h2⟩ := h
    exact ⟨F, h1, vwalk_fin m hmle k _ _ h2⟩
theorem preB_le {l : List Oper} {m n : Nat} {fl : List Nat} (hB : preB l.toArray m n fl = true) : m ≤ l.length := by
  simp only [preB, Bool.and_eq_true, decide_eq_true_eq] at hB
  simpa using hB.1.1.1.1.1
theorem vregion {id : Nat} {l : List Oper} {a0 : Act} {w : World} (m : Nat) (fl : List Nat) (hm : P.follows .mixedOrders = true) (hB : preB l.toArray m a0.tmps.size fl = true) (hQ : ∀ c a (d : Tmp) v w, Q (.panic c) { a with tmps := a.tmps.setIfInBounds d v } w → Q (.panic c) a w)
    (h : VWalk P Q l.toArray m a0 w.drew (fun tail env => decide (env.length = m) = true ∧ ∀ w', Ext w.drew w' → VFin P Q l.toArray tail (l.take m) env.reverse a0 w') m l []) : (Code.region id l.toArray true).wp P Q a0 w :=
  vregionA m fl hm hB hQ (vwalk_fin m (preB_le hB) _ _ _ h)
theorem preB0_le {l : List Oper} {m n : Nat} (hB : preB0 l.toArray m n = true) : m ≤ l.length := by
  simp only [preB0, Bool.and_eq_true, decide_eq_true_eq] at hB
  simpa using hB.1.1
theorem vregion0 {id : Nat} {l : List Oper} {a0 : Act} {w : World} (m : Nat) (hB : preB0 l.toArray m a0.tmps.size = true)
    (h : VWalk P Q l.toArray m a0 w (fun tail env => decide (env.length = m) = true ∧ ∀ w', Ext w w' → VFin P Q l.toArray tail (l.take m) env.reverse a0 w') m l []) : (Code.region id l.toArray false).wp P Q a0 w :=
  vregionA0 m hB (vwalk_fin m (preB0_le hB) _ _ _ h)
end
end Go.Proofs.Ytfbamdkalamliaa
