/- A range over a function whose iterator writes memory of its own between two yields: what the iterator keeps is told by T. -/
import Derived.Test.YtggjkhldknppkaaW
import Derived.RangeFuncWrites
namespace Go.Proofs.Ytggjkhldknppkaa
open Go.RowKit

/-- The iterator's contract: whatever the caller knows (J, Jx) stands what the iterator does on its own account (Own); the body keeps what the iterator wants (Kp); behind it T holds. -/
def SeqOwn {α : Type} (F : Fence) (n : Nat) (P : Program) (g : Nat) (lb : Array Value) (encs : α → Array Value) (Kp Own : World → World → Prop) (T : List α → World → Prop) (S Sp Nx : List α → Prop) (w : World) : Prop :=
  ∀ (l : Nat) (J Jx : List α → World → Prop) (W : World), Ext w W → (∀ pre W1 W2, J pre W1 → Own W1 W2 → J pre W2) →
    (∀ pre x W1, J pre W1 → Nx (pre ++ [x]) → YieldAt F (n - 1) P l (encs x) W1 fun e W' =>
      Kp W1 W' ∧ ((e = .returned (.bool true) ∧ J (pre ++ [x]) W') ∨ (e = .returned (.bool false) ∧ Jx (pre ++ [x]) W'))) →
    J [] W → CallsIn F n P g (#[.func (.yield l) #[] #[]] ++ lb) W fun e W' => (∃ v, e = .returned v) ∧ ((∃ xs, S xs ∧ T xs W' ∧ J xs W') ∨ (∃ pre, Sp pre ∧ T pre W' ∧ Jx pre W'))

/-- How the body of a round may be left. -/
def roundOut {α : Type} (B : Nat) (Kp : World → World → Prop) (I : List α → World → Prop) (Ix : Code → List α → World → Prop) (xs : List α) (W : World) : Exit → Act → World → Prop
  | .normal, _, W' => KeepsFrom B W W' ∧ Kp W W' ∧ I xs W'
  | .ret, _, W' => KeepsFrom B W W' ∧ Kp W W' ∧ Ix .ret xs W'
  | .exit id, _, W' => KeepsFrom B W W' ∧ Kp W W' ∧ Ix (.exit id) xs W'
  | _, _, _ => False

variable {F : Fence} {n : Nat} {P : Program}
theorem wpIn_rangeOwn {α : Type} {g : Operand} {ps : Array Tmp} {assign body : Code} {Q : Exit → Act → World → Prop} {a : Act} {w : World}
    (hro : F.round = none) (h1 : 1 ≤ n) {gf : Nat} {lb : Array Value} (hg : a.eval g = .func (.func gf) #[] lb) (hFg : F.fn gf) (eg : ∀ args w, (callFunc gf args).run P w = .ok (.enter gf args) w)
    {encs : α → Array Value} {Kp Own : World → World → Prop} {T : List α → World → Prop} {S Sp Nx : List α → Prop} (hseq : SeqOwn F (n - 1) P gf lb encs Kp Own T S Sp Nx w)
    (hKt : ∀ {A B C : World}, Kp A B → Kp B C → Kp A C) (hKb : ∀ (W : World) (l : Nat) (o' : Obj), w.heap.size ≤ l → Kp W (W.putObj l o'))
    (hOwn : ∀ (W W' : World) (k : Nat), Own W W' → w.heap.size ≤ k → k < W.heap.size → W'.heap[k]? = W.heap[k]?)
    (hT : ∀ pre (W : World) (l : Nat) (o' : Obj), w.heap.size ≤ l → T pre W → T pre (W.putObj l o')) (hps : ∀ x, (encs x).size = ps.size)
    (I : List α → World → Prop) (Ix : Code → List α → World → Prop) (hI : OwnFrom w.heap.size I) (hIx : ∀ c, OwnFrom w.heap.size (Ix c)) (hIO : ∀ pre W W', I pre W → Own W W' → I pre W') (h0 : I [] w) (a₁ : α → Act)
    (hassign : ∀ (l : Nat) (x : α) (W : World) (K : Act → World → Prop), K (a₁ x) W →
      assign.wpIn (F.inRound l) (n - 1 - 1) P (Exit.then K (fun _ _ _ => False)) { tmps := (ps.zip (encs x)).foldl (fun t (p, v) => t.setIfInBounds p v) a.tmps, defers := [] } W)
    (hbody : ∀ (l : Nat) (pre : List α) (x : α) (W : World), I pre W → Nx (pre ++ [x]) → body.wpIn (F.inRound l) (n - 1 - 1) P (roundOut w.heap.size Kp I Ix (pre ++ [x]) W) (a₁ x) W)
    (hdone : ∀ (D : Nat) (xs : List α) (W : World), w.heap.size ≤ D → S xs → T xs W → I xs W → W.heap[D]? = some (.deferred (some [])) → Q .normal { a with defers := { target := .collected D, args := #[] } :: a.defers } W)
    (hstop : ∀ (D : Nat) (c : Code) (pre : List α) (W : World), w.heap.size ≤ D → Sp pre → T pre W → Ix c pre W → W.heap[D]? = some (.deferred (some [])) → c.wpIn F n P Q { a with defers := { target := .collected D, args := #[] } :: a.defers } W) :
    (Code.rangeFunc g ps assign body).wpIn F n P Q a w := by
  refine wpIn_rangeFunc fun fn hfn => ?_
  rw [hro]
  -- the loop's record, in its states
  let rec' : LoopState → Option Code → Loop := fun st pe => { state := st, pending := pe, fn, tmps := a.tmps, params := ps, assign, body, defers := w.heap.size }
  obtain ⟨D, hD⟩ : ∃ D, D = w.heap.size := ⟨_, rfl⟩
  have hpsr : ∀ st pe x, (encs x).size = (rec' st pe).params.size := fun _ _ x => hps x
  obtain ⟨W1, hW1⟩ : ∃ W1, (w.alloc (.deferred (some []))).alloc (.loop (rec' .ready none)) = W1 := ⟨_, rfl⟩
  have hE1 : Ext w W1 := by rw [← hW1]; exact (ext_alloc _ _).tr (ext_alloc _ _)
  have hL1 : W1.heap[w.heap.size + 1]? = some (.loop (rec' .ready none)) := by
    have := World.alloc_heap_new (w.alloc (.deferred (some []))) (.loop (rec' .ready none))
    rwa [hW1, World.size_alloc] at this
  have hK1 : W1.heap[w.heap.size]? = some (.deferred (some [])) := by
    rw [← hW1]; exact (Below.heap_alloc _ _ _ (by simp)).trans (World.alloc_heap_new w _)
  refine ⟨w.heap.size + 1, [{ target := .collected w.heap.size, args := #[] }], W1, { target := .fn (.func gf) lb, args := #[.func (.yield (w.heap.size + 1)) #[] #[]] }, W1, gf,
    #[.func (.yield (w.heap.size + 1)) #[] #[]] ++ lb, W1, ?_, ?_, ?_, ?_, fun _ => h1, ?_⟩
  · rw [← hW1]; exact run_enterLoop_outer _ _ _ _ _
  · simp only [resolve, hg]
    simp [go_sem]
  · intro f' hf'; simp [Target.leads] at hf'; subst hf'; exact hFg
  · simp [invoke, go_sem, eg]
  refine (hseq (w.heap.size + 1)
    (fun pre W => I pre W ∧ W.heap[w.heap.size + 1]? = some (.loop (rec' .ready none)) ∧ W.heap[w.heap.size]? = some (.deferred (some [])))
    (fun pre W => ∃ c, Ix c pre W ∧ W.heap[w.heap.size + 1]? = some (.loop (rec' .done (some c))) ∧ W.heap[w.heap.size]? = some (.deferred (some [])))
    W1 hE1 (fun pre A B h hO => ?_) ?_ ⟨by rw [← hW1]; exact hI.alloc _ (hI.alloc _ h0), hL1, hK1⟩).mono ?_
  · exact ⟨hIO _ _ _ h.1 hO, (hOwn _ _ _ hO (by omega) (Array.getElem?_eq_some_iff.1 h.2.1).1).trans h.2.1, (hOwn _ _ _ hO (Nat.le_refl _) (Array.getElem?_eq_some_iff.1 h.2.2).1).trans h.2.2⟩
  · rintro pre x W ⟨hi, hl, hk⟩ hlen
    have hlt : w.heap.size + 1 < W.heap.size := (Array.getElem?_eq_some_iff.1 hl).1
    refine ⟨fn, _, assign, body, run_yield (P := P) (args := encs x) hl (hpsr _ _ x), roundIn_of_wpIn hfn (hassign _ x W _ ⟨_, run_beginRound hl rfl, ?_⟩)⟩
    have hl2 := World.putObj_heap_same (o := Obj.loop { rec' .ready none with state := .busy }) hlt
    have hk2 := (World.putObj_heap_other (w := W) (o := Obj.loop { rec' .ready none with state := .busy }) (by omega : w.heap.size ≠ w.heap.size + 1)).trans hk
    have hw2 := hKb W (w.heap.size + 1) (.loop { rec' .ready none with state := .busy }) (by omega)
    refine wpIn_mono (hbody _ pre x _ (hI.putObj _ hi (by omega) hl rfl) hlen) ?_
    have fin : ∀ (jump : Option Code) (W3 : World), KeepsFrom w.heap.size (W.putObj (w.heap.size + 1) (.loop { rec' .ready none with state := .busy })) W3 →
        ∃ r, (Instr.endRound (w.heap.size + 1) jump).run P W3 = .ok (.bool jump.isNone) (W3.putObj (w.heap.size + 1) (.loop r)) ∧ r = rec' (if jump.isNone then .ready else .done) jump ∧
        W3.heap[w.heap.size + 1]? = some (.loop { rec' .ready none with state := .busy }) ∧ w.heap.size + 1 < W3.heap.size ∧ W3.heap[w.heap.size]? = some (.deferred (some [])) := fun jump W3 hk3 => by
      have hl3 := hk3.same _ _ (by omega) hl2 rfl
      exact ⟨_, run_endRound (P := P) jump hl3, rfl, hl3, (Array.getElem?_eq_some_iff.1 hl3).1, hk3.same _ _ (Nat.le_refl _) hk2 rfl⟩
    rintro e a3 W3 hp
    have close : ∀ (c : Code), KeepsFrom w.heap.size (W.putObj (w.heap.size + 1) (.loop { rec' .ready none with state := .busy })) W3 ∧ Kp (W.putObj (w.heap.size + 1) (.loop { rec' .ready none with state := .busy })) W3 ∧ Ix c (pre ++ [x]) W3 →
        ∃ v W4, (Instr.endRound (w.heap.size + 1) (some c)).run P W3 = .ok v W4 ∧ (Kp W W4 ∧ ((Ending.returned v = .returned (.bool true) ∧ I (pre ++ [x]) W4 ∧ W4.heap[w.heap.size + 1]? = some (.loop (rec' .ready none)) ∧ W4.heap[w.heap.size]? = some (.deferred (some []))) ∨
          (Ending.returned v = .returned (.bool false) ∧ ∃ c, Ix c (pre ++ [x]) W4 ∧ W4.heap[w.heap.size + 1]? = some (.loop (rec' .done (some c))) ∧ W4.heap[w.heap.size]? = some (.deferred (some []))))) := fun c ⟨hk3, hkp3, hi3⟩ => by
      obtain ⟨r, hr, rfl, hl3, hlt3, hk4⟩ := fin (some c) W3 hk3
      exact ⟨_, _, hr, hKt (hKt hw2 hkp3) (hKb _ _ _ (by omega)), .inr ⟨rfl, c, (hIx _).putObj _ hi3 (by omega) hl3 rfl, World.putObj_heap_same hlt3, (World.putObj_heap_other (by omega)).trans hk4⟩⟩
    cases e with
    | normal =>
      obtain ⟨hk3, hkp3, hi3⟩ := hp
      obtain ⟨r, hr, rfl, hl3, hlt3, hk4⟩ := fin none W3 hk3
      exact ⟨_, _, hr, hKt (hKt hw2 hkp3) (hKb _ _ _ (by omega)), .inl ⟨rfl, hI.putObj _ hi3 (by omega) hl3 rfl, World.putObj_heap_same hlt3, (World.putObj_heap_other (by omega)).trans hk4⟩⟩
    | ret => exact close .ret hp
    | exit id => exact close (.exit id) hp
    | goto t => exact hp.elim
    | panic ch => exact hp.elim
    | outgrown => exact hp.elim
  · rintro e W2 ⟨⟨v, rfl⟩, (⟨xs, hS, hTx, hi, hl, hk⟩ | ⟨pre, hSp, hTx, c, hi, hl, hk⟩)⟩
    · exact ⟨none, _, run_endLoop (P := P) hl (by simp [rec']), hdone _ xs _ (Nat.le_refl _) hS (hT _ _ _ _ (by omega) hTx) (hI.putObj _ hi (by omega) hl rfl) ((World.putObj_heap_other (by omega)).trans hk)⟩
    · exact ⟨some c, _, run_endLoop (P := P) hl (by simp [rec']), hstop _ c pre _ (Nat.le_refl _) hSp (hT _ _ _ _ (by omega) hTx) ((hIx c).putObj _ hi (by omega) hl rfl) ((World.putObj_heap_other (by omega)).trans hk)⟩
end Go.Proofs.Ytggjkhldknppkaa
