/- Packed words, taken. -/
import Derived.Test.YtggjkhldknppkaaPkH
import Derived.Test.YtggjkhldknppkaaRP
namespace Go.Proofs.Ytggjkhldknppkaa
open Go.RowKit Go.Shelf PakM DigM
attribute [local go_sem] Oper.semAt_some
theorem Pk.infoSl : (Try.prog.info? 23).map (fun i => (i.zero, i.size, i.bytes)) = some (some (.slice none 0 0), 1, 24) := by kernel_rfl
section
variable {P : Program} {Q : Exit → Act → World → Prop} {ops : Array Oper} {M m : Nat} {a0 : Act} {w0 : World} {K : List Oper → List VP → Prop} {o : Oper} {rest : List Oper} {env : List VP}
/-- 'append([]byte(nil), x...)' -/
theorem VWalk.appNil {bs : List UInt8} (t e : TypeId) (x : Operand) (i : TypeInfo) (z : Value) (ho : o.op = .call { callee := .builtin .append, args := #[.const (.slice none 0 0), x], argTypes := #[t, t] }) (ht : P.underlying t = some (.slice e)) (hi : P.info? e = some i) (hz : i.zero = some z) (hs : i.size = 1) (hb : i.bytes = 1) (hzs : z.cells.size = 1)
    (hw : Want ops M a0 w0 env o true) (hx : Opd ops M a0 w0 env o x (VBytes bs)) (hlen : bs.length ≤ 1000000) (hr : VWalk P Q ops M a0 w0 K m rest (VOwn w0.heap.size e bs :: env)) : VWalk P Q ops M a0 w0 K (m + 1) (o :: rest) env :=
  .new hw (fun a w hE hC hD => by
    have hX := hx a w hE hC hD
    obtain ⟨v', w', hrun, h2, h3, -⟩ := run_append_bytes (P := P) w0.heap.size t o.type e i z ht hi hz hs hb hzs (.slice none 0 0) (a.eval x) [] bs (OwnB.nil _ _ _) hX (by simpa using hlen) hE.size
    refine ⟨v', w', ?_, ext_of_grown h3 rfl, OwnB.vown h2⟩
    have hcb : a.eval (.const (.slice none 0 0)) = .slice none 0 0 := rfl
    unfold execOp
    simp only [ho, resolve, invoke, builtin, Sem.run_bind, Sem.run_pure, Result.andThen_ok, List.map_toArray, List.map_cons, List.map_nil, hcb, hrun]) hr
end
/-- Rows of rows stay where nothing of theirs is written. -/
theorem OwnP.grows {w w' : World} {base : Nat} {e e1 : TypeId} {v : Value} {ps : List (List UInt8)} {row : Option Nat} (h : OwnP w base e e1 v ps) (hg : w.grownBy w' row) (hr : ∀ k, row = some k → k < base ∨ ∃ o : Obj, w.heap[k]? = some o ∧ o.isCells = false) : OwnP w' base e e1 v ps := by
  obtain ⟨xs, h1, h2, h3⟩ := h
  have key : ∀ (k : Nat) (cs : Array Value) (t : TypeId) (m : Nat × Nat), w.heap[k]? = some (.cells cs t m) → base ≤ k → w'.heap[k]? = w.heap[k]? := fun k cs t m hk hb => hg.block k (Array.getElem?_eq_some_iff.1 hk).1 fun e0 => by
    rcases hr k e0.symm with h | ⟨o, h, hc⟩
    · omega
    · rw [hk] at h; cases h; cases hc
  refine ⟨xs, ⟨h1.1, ?_⟩, h2, fun i p1 p2 => VOwn.keep (h3 i p1 p2) hg.size fun g hg2 => ?_⟩
  · rcases h1.2 with h4 | ⟨g, cap, cur, rfl, hb4, hg4, r⟩
    · exact .inl h4
    · exact .inr ⟨g, cap, cur, rfl, hb4, (key g _ _ _ hg4 hb4).trans hg4, r⟩
  · obtain ⟨h4, cs, m, h5, -⟩ := (h3 i p1 p2).2 g hg2
    exact key g _ _ _ h5 h4
def wordsUp (bs : List UInt8) (k : Nat) : List (List UInt8) := (List.range k).map fun i => oneW (rests bs i)
theorem take_cases (b : List UInt8) (h1 : (headP b).2 = 0) (h2 : (takeN (midP b)).2.2 = 0) : (wordsF (takeN (midP b)).1 (takeN (midP b)).2.1 = none → takeP b = (false, [], 12)) ∧ (∀ ws r, wordsF (takeN (midP b)).1 (takeN (midP b)).2.1 = some (ws, r) → (r ≠ [] → takeP b = (false, [], 43)) ∧ (r = [] → takeP b = ((headP b).1, ws, 0))) := by
  unfold takeP
  rw [if_neg (fun h => h h1), if_neg (fun h => h h2)]
  refine ⟨fun h => by rw [h], fun ws r h => ⟨fun hr => by rw [h]; exact if_pos hr, fun hr => by rw [h]; exact if_neg (fun h => h hr)⟩⟩
theorem nil_parts (w : World) : VParts [] (.slice none 0 0) w := ⟨none, 0, rfl, Nat.le_refl _, by decide, fun h => by simp at h⟩
theorem wordsUp_succ (bs : List UInt8) (k : Nat) : wordsUp bs (k + 1) = wordsUp bs k ++ [oneW (rests bs k)] := by unfold wordsUp; rw [List.range_succ, List.map_append]; rfl
theorem wordsUp_length (bs : List UInt8) (k : Nat) : (wordsUp bs k).length = k := by simp [wordsUp]
theorem rests_len (bs : List UInt8) : ∀ k, (∀ j, j < k → goodB (rests bs j) = true) → (rests bs k).length + k ≤ bs.length
  | 0, _ => by show bs.length + 0 ≤ _; omega
  | k + 1, hg => by
    have ih := rests_len bs k (fun j hj => hg j (by omega))
    have h1 := (goodB_iff.1 (hg k (by omega))).1
    have h2 := Dg.takeF_len 0 0 (rests bs k) h1
    change (takeN (rests bs k)).2.1.length < _ at h2
    show (restW (rests bs k)).length + (k + 1) ≤ _
    unfold restW
    rw [List.length_drop]
    omega
theorem oneW_len (bs : List UInt8) (h : goodB bs = true) : (oneW bs).length ≤ bs.length := by
  have h1 := (goodB_iff.1 h).1
  have h2 := Dg.takeF_len 0 0 bs h1
  change (takeN bs).2.1.length < _ at h2
  unfold oneW
  rw [List.length_take]
  omega
theorem own_cells {w : World} {base : Nat} {e : TypeId} {size n : Nat} {v : Value} {xs : List Value} (h : w.ownsRow base e size v n xs) (k : Nat) (o : Obj) (hk : v.ownBlock = some k) (ho : w.heap[k]? = some o) : o.isCells = true := by
  rcases h.2 with ⟨rfl, _⟩ | ⟨g, cap, cur, rfl, _, hg, _⟩
  · cases hk
  · cases hk; rw [hg] at ho; cases ho; rfl
theorem wordsF_up (bs : List UInt8) : ∀ k, (∀ j, j < k → goodB (rests bs j) = true) → wordsF k bs = some (wordsUp bs k, rests bs k)
  | 0, _ => rfl
  | k + 1, h => by
    have ih := wordsF_up bs k (fun j hj => h j (by omega))
    have hk := h k (by omega)
    unfold goodB at hk
    rw [Bool.not_eq_true', decide_eq_false_iff_not] at hk
    rw [words_snoc k bs _ _ ih, if_neg hk, wordsUp_succ]
    rfl
theorem wordsF_no (bs : List UInt8) (k m : Nat) (h : ∀ j, j < k → goodB (rests bs j) = true) (hk : goodB (rests bs k) = false) (hm : k < m) : wordsF m bs = none := by
  refine words_bad (k + 1) m bs ?_ hm
  unfold goodB at hk
  rw [Bool.not_eq_false', decide_eq_true_iff] at hk
  rw [words_snoc k bs _ _ (wordsF_up bs k h), if_pos hk]
/-- What stands while the words come. -/
structure TkI (bs : List UInt8) (f : Bool) (w w6 : World) (pre : List (Value × Bool)) (W : World) : Prop where
  b2 : Box W w.heap.size 4 #[.bool f]
  b4 : Box W (w.heap.size + 1 + 1) 26 #[.int .i64 0]
  row : ∃ sv, Box W (w.heap.size + 1) 22 #[sv] ∧ OwnP W w6.heap.size 23 5 sv (wordsUp bs pre.length)
  good : ∀ i (h : i < pre.length), pre[i].2 = true
  ext : Below w.heap.size w W
  size : w6.heap.size ≤ W.heap.size
def TkX (w : World) (c : Code) (pre : List (Value × Bool)) (W : World) : Prop := c = .ret ∧ Box W w.heap.size 4 #[.bool false] ∧ Box W (w.heap.size + 1) 22 #[.slice none 0 0] ∧ Box W (w.heap.size + 1 + 1) 26 #[.int .i64 12] ∧ (∃ i, ∃ h : i < pre.length, pre[i].2 = false) ∧ Below w.heap.size w W
theorem tkI_own (bs : List UInt8) (f : Bool) (w w6 : World) (h6 : w.heap.size ≤ w6.heap.size) : OwnFrom w6.heap.size (TkI bs f w w6) := by
  rintro pre W W' row ⟨h1, h2, ⟨sv, h3, h4⟩, h5, h7, h8⟩ hg hr
  exact ⟨Dg.box_from h1 hg hr, Dg.box_from h2 hg hr, ⟨sv, Dg.box_from h3 hg hr, OwnP.grows h4 hg (fun k hk => .inr (hr k hk).2)⟩, h5, h7.grown hg h7.size (fun j hj => by have := (hr j hj).1; omega), Nat.le_trans h8 hg.size⟩
theorem tkX_own (w w6 : World) (h6 : w.heap.size ≤ w6.heap.size) (c : Code) : OwnFrom w6.heap.size (TkX w c) := by
  rintro pre W W' row ⟨h0, h1, h2, h3, h4, h5⟩ hg hr
  exact ⟨h0, Dg.box_from h1 hg hr, Dg.box_from h2 hg hr, Dg.box_from h3 hg hr, h4, h5.grown hg h5.size (fun j hj => by have := (hr j hj).1; omega)⟩
theorem tkI_g {bs : List UInt8} {f : Bool} {w w6 : World} {g : Nat} (hg0 : w.heap.size + 1 + 1 < g) (hg6 : g < w6.heap.size) (pre : List (Value × Bool)) (W W' : World) (h : TkI bs f w w6 pre W) (hg : Dg.OwnG g W W') : TkI bs f w w6 pre W' := by
  obtain ⟨h1, h2, ⟨sv, h3, h4⟩, h5, h7, h8⟩ := h
  exact ⟨Dg.box_g h1 hg (by omega), Dg.box_g h2 hg (by omega), ⟨sv, Dg.box_g h3 hg (by omega), OwnP.grows h4 hg (fun k hk => .inl (by cases hk; exact hg6))⟩, h5, h7.grown hg h7.size (fun j hj => by cases hj; omega), Nat.le_trans h8 hg.size⟩
theorem keepG_ext {g B N : Nat} {W W' : World} (h : Ext W W') (h1 : g < W.heap.size) (h2 : B < W.heap.size) (h3 : N ≤ W.heap.size) : Dg.KeepG g B N W W' := ⟨h.size, h.block g h1, h.block B h2, fun k hk => h.block k (by omega)⟩
theorem keepG_grown {g B N : Nat} {W W1 W' : World} {row : Option Nat} (h : Dg.KeepG g B N W W1) (hg : W1.grownBy W' row) (h1 : g < W1.heap.size) (h2 : B < W1.heap.size) (h3 : N ≤ W1.heap.size) (hr : ∀ k, row = some k → k ≠ g ∧ k ≠ B ∧ N ≤ k) : Dg.KeepG g B N W W' :=
  Dg.KeepG.t h ⟨hg.size, hg.block g h1 (fun e => (hr g e.symm).1 rfl), hg.block B h2 (fun e => (hr B e.symm).2.1 rfl), fun k hk => hg.block k (by omega) (fun e => by have := (hr k e.symm).2.2; omega)⟩
set_option maxRecDepth 100000 in
set_option maxHeartbeats 4000000 in
theorem pktake_loop (b : List UInt8) (v : Value) (w : World) (hB : VBytes b v w) (hlen : b.length ≤ 1000000) (hh : (headP b).2 = 0) (hn : okN (midP b) = true) : Calls Try.prog 10 #[v] w fun e w' => ∃ sv : Value, e = .returned (.tuple #[.bool (takeP b).1, sv, .int .i64 (takeP b).2.2]) ∧ Ext w w' ∧ VParts (takeP b).2.1 sv w' := by
  have hhd := fun W hv => phead_any b v W hv hlen
  obtain ⟨i0, hi, hz0, hz1, hz2⟩ := info_parts Dg.Try.infoB
  obtain ⟨i1, hi1, hz3, hz4, hz5⟩ := info_parts Pk.infoSl
  have htp := take_cases b hh (of_decide_eq_true hn)
  obtain ⟨tp, htq⟩ : ∃ t, takeP b = t := ⟨_, rfl⟩
  rw [htq] at htp ⊢
  clear htq
  rw [hh] at hhd
  obtain ⟨fl, hfl⟩ : ∃ f, (headP b).1 = f := ⟨_, rfl⟩
  rw [hfl] at hhd htp
  have h10 : 10 ≤ b.length := by
    unfold headP at hh
    by_cases h : b.length < 10
    · rw [if_pos h] at hh; cases hh
    · omega
  have hB0 := hB
  obtain ⟨A, c, rfl, hc1, hc2, hcut⟩ := slice_form hB
  unfold maxLen at hc2
  have hmid := hcut 5 (b.length - 4) (by omega) (by omega)
  obtain ⟨bb, off, rfl, hbb⟩ : ∃ bb off, A = some ⟨bb, off, none⟩ ∧ bb < w.heap.size := by
    obtain ⟨A', c', e, -, -, hx⟩ := VBytes.form hB0
    cases e
    obtain ⟨bb, off, h, h2, _⟩ := hx (by omega)
    exact ⟨bb, off, h, h2⟩
  have hc5 : ¬ c = 5 := by omega
  rw [if_neg hc5] at hmid
  simp only [Option.map_some, addr_add] at hmid
  have hml : (midP b).length ≤ 1000000 := by unfold midP; rw [List.length_drop, List.length_take]; omega
  change VBytes (midP b) _ w at hmid
  have hnum := fun g W hR => rnum_any g w.heap.size (midP b) W hR hml
  rw [hn] at hnum
  have hn0 : (takeN (midP b)).2.2 = 0 := of_decide_eq_true hn
  obtain ⟨hmany, -⟩ := takeN_only hn0
  have hrl : (takeN (midP b)).2.1.length ≤ 1000000 := Nat.le_trans (Nat.le_of_lt (Dg.takeF_len 0 0 _ hn0)) hml
  obtain ⟨⟨many, rb, e0⟩, htk⟩ : ∃ x, takeN (midP b) = x := ⟨_, rfl⟩
  rw [htk] at hnum hmany hrl htp
  dsimp only at hnum hmany hrl htp
  have Htp := hide htp
  clear htp
  have hmany2 : many ≤ 2147483647 := hmany
  clear hcut hB hfl hh hn0 htk
  have hX0 : Ext w (((w.alloc (.cells #[.bool false] 4)).alloc (.cells #[.slice none 0 0] 22)).alloc (.cells #[.int .i64 0] 26)) := ((ext_alloc _ _).tr (ext_alloc _ _)).tr (ext_alloc _ _)
  have hb2 := ((Box.new w 4 #[.bool false]).alloc (.cells #[.slice none 0 0] 22)).alloc (.cells #[.int .i64 0] 26)
  have hb3 := (Box.new (w.alloc (.cells #[.bool false] 4)) 22 #[.slice none 0 0]).alloc (.cells #[.int .i64 0] 26)
  have hb4 := Box.new ((w.alloc (.cells #[.bool false] 4)).alloc (.cells #[.slice none 0 0] 22)) 26 #[.int .i64 0]
  rw [World.size_alloc] at hb3 hb4
  rw [World.size_alloc] at hb4
  refine (callsIn_wide (n := 9)).1 ?_
  have h1 : 1 ≤ 9 := by omega
  refine callsIn_of_wp_marks Try.func10 rfl trivial ?_ rfl
  simp only [Try.ntmps10, List.size_toArray, List.length_cons, List.length_nil, Nat.reduceAdd, Nat.reduceSub, Array.replicate_succ, Array.replicate_zero, List.push_toArray, List.append_toArray, List.nil_append, List.cons_append]
  gi_wp2_with fail
  refine ⟨trivial, ?_⟩
  refine (callsIn_wide.2 (hhd _ (VP.st _ _ _ _ hB0 hX0))).mono ?_
  rintro e w2 ⟨u, rfl, hE2, hu⟩
  obtain ⟨_, _, rfl, rfl, rfl⟩ := VTup.inv2 hu
  have hX2 := hX0.tr hE2
  have hb2 := hb2.ext hE2
  have hb3 := hb3.ext hE2
  have hb4 := hb4.ext hE2
  have hc20 := hb2.at_ 0 rfl
  have hf20 := hb2.frozen 0
  have hc40 := hb4.at_ 0 rfl
  have hf40 := hb4.frozen 0
  clear hhd hu hX0 hE2
  gi_upto_region 2 with (fail)
  have hb2 := (hb2.set_ 0 (.bool fl)).far (p := ⟨w.heap.size + 1 + 1, 0, none⟩) (by simp only; omega) (.int .i64 0)
  have hb3 := (hb3.far (p := ⟨w.heap.size, 0, none⟩) (by simp) (.bool fl)).far (p := ⟨w.heap.size + 1 + 1, 0, none⟩) (by simp only; omega) (.int .i64 0)
  have hb40 := hb4
  have hb4 := (hb4.far (p := ⟨w.heap.size, 0, none⟩) (by simp only; omega) (.bool fl)).set_ 0 (.int .i64 0)
  have hX3 := (hX2.setCell (p := ⟨w.heap.size, 0, none⟩) (Nat.le_refl _) (.bool fl)).setCell (p := ⟨w.heap.size + 1 + 1, 0, none⟩) (by simp only; omega) (.int .i64 0)
  clear hc20 hf20 hc40 hf40 hX2
  generalize (w2.setCell ⟨w.heap.size, 0, none⟩ (.bool fl)).setCell ⟨w.heap.size + 1 + 1, 0, none⟩ (.int .i64 0) = W3 at *
  have hX3 : Ext w W3 := hX3
  have hg0 := hb4.lt
  clear hb40
  have hc40 := hb4.at_ 0 rfl
  gi_upto_region 5 with (fail)
  have hX4 := ext_alloc W3 (.cells #[.slice (some ⟨bb, off + 5, none⟩) (b.length - 4 - 5) (c - 5)] 48)
  have hR4 : Rd W3.heap.size w.heap.size (midP b) (W3.alloc (.cells #[.slice (some ⟨bb, off + 5, none⟩) (b.length - 4 - 5) (c - 5)] 48)) :=
    ⟨_, Box.new _ _ _, VP.st _ _ _ _ hmid (hX3.tr hX4), fun k hk => by cases hk; exact hbb, hX3.size⟩
  have hb2 := hb2.ext hX4
  have hb3 := hb3.ext hX4
  have hb4 := hb4.ext hX4
  have hX4 := hX3.tr hX4
  clear hmid hc40
  gi_wp2_with fail
  refine ⟨trivial, ?_⟩
  refine (callsIn_wide.2 (hnum _ _ hR4)).mono ?_
  rintro e w5 ⟨rfl, hg5, hR5⟩
  have hR5 := hR5 trivial
  have hX5 : Ext w w5 := hX4.grown hg5 hX4.size (fun j hj => by cases hj; omega)
  have hb2 := hb2.grows hg5 (by simp; omega)
  have hb3 := hb3.grows hg5 (by simp; omega)
  have hb4 := hb4.grows hg5 (by simp; omega)
  clear hR4 hX4 hg5 hnum
  gi_wp2_with fail
  refine ⟨trivial, ?_⟩
  refine (callsIn_wide.2 (words_any _ _ w5)).mono ?_
  rintro e w6 ⟨rfl, rfl⟩
  generalize W3.heap.size = g at *
  gi_wp2_with fail
  obtain ⟨w6, hw6⟩ : ∃ w6, (w5.alloc (.cells #[.pointer (some ⟨g, 0, none⟩)] 67)).alloc (.cells #[.int .i64 (many : Int)] 3) = w6 := ⟨_, rfl⟩
  have hX6 : Ext w5 w6 := by rw [← hw6]; exact (ext_alloc _ _).tr (ext_alloc _ _)
  have hs6 : w6.heap.size = w5.heap.size + 1 + 1 := by rw [← hw6]; simp
  have hq1 : Box w6 w5.heap.size 67 #[.pointer (some ⟨g, 0, none⟩)] := by rw [← hw6]; exact (Box.new _ _ _).alloc _
  have hq2 : Box w6 (w5.heap.size + 1) 3 #[.int .i64 (many : Int)] := by
    rw [← hw6]
    have := Box.new (w5.alloc (.cells #[.pointer (some ⟨g, 0, none⟩)] 67)) 3 #[.int .i64 (many : Int)]
    rwa [World.size_alloc] at this
  have hg5 := hR5.lt
  have hR6 := hR5.ext hX6
  have hb2 := hb2.ext hX6
  have hb3 := hb3.ext hX6
  have hb4 := hb4.ext hX6
  have hX7 := hX5.tr hX6
  have hsz : w.heap.size ≤ w6.heap.size := hX7.size
  rw [hw6]
  generalize w5.heap.size = B1 at *
  clear hw6 hX6 hR5
  have hs6' : w6.heap.size ≤ B1 + 1 + 1 := by omega
  have hs6'' : B1 + 1 + 1 ≤ w6.heap.size := by omega
  clear hs6
  refine wpIn_rangeOwn (F := Fence.wide) rfl h1 (gf := 39) (lb := #[.pointer (some ⟨B1 + 1, 0, none⟩), .pointer (some ⟨B1, 0, none⟩)]) rfl trivial (enters_of Try.func39 (by kernel_rfl) rfl)
    (words_seq 8 (by omega) B1 (B1 + 1) g w.heap.size many rb w6 (hq1.at_ 0 rfl) (hq2.at_ 0 rfl) (by omega) hR6 hrl hmany) Dg.KeepG.t
    (fun W l o' hl => ⟨by simp, World.putObj_heap_other (by omega), World.putObj_heap_other (by omega), fun k hk => World.putObj_heap_other (by omega)⟩)
    (fun W W' k hO hk hk2 => hO.block k hk2 (by simp; omega)) (fun pre W l o' hl hT ha => (hT ha).keep (World.putObj_heap_other (by omega)) (fun k hk => World.putObj_heap_other (by omega))) (fun _ => rfl)
    (TkI rb fl w w6) (TkX w) (tkI_own rb fl w w6 hsz) (tkX_own w w6 hsz) (tkI_g (by omega) (by omega))
    ⟨hb2, hb4, ⟨_, hb3, OwnP.nil _ _ _ _⟩, fun i h => by simp at h, hX7, Nat.le_refl _⟩
    (fun x => { tmps := #[.slice (some ⟨bb, off, none⟩) b.length c, undef, .pointer (some ⟨w.heap.size, 0, none⟩), .pointer (some ⟨w.heap.size + 1, 0, none⟩), .pointer (some ⟨w.heap.size + 1 + 1, 0, none⟩), .pointer (some ⟨g, 0, none⟩), .int .i64 (many : Int), .bool true, x.1, .bool x.2,
      .tuple #[.bool fl, .int .i64 0], .slice (some ⟨bb, off, none⟩) b.length c, .tuple #[.bool fl, .int .i64 0], .bool fl, .int .i64 0, .int .i64 0, .bool false, undef, .slice (some ⟨bb, off, none⟩) b.length c, .slice (some ⟨bb, off, none⟩) b.length c, .int .i64 (b.length : Int), .int .i64 ((b.length : Int) - 4),
      .slice (some ⟨bb, off + 5, none⟩) (b.length - 4 - 5) (c - 5), .agg #[.slice (some ⟨bb, off + 5, none⟩) (b.length - 4 - 5) (c - 5)], .agg #[.slice (some ⟨bb, off + 5, none⟩) (b.length - 4 - 5) (c - 5)], .tuple #[.int .i64 (many : Int), .bool true], .tuple #[.int .i64 (many : Int), .bool true], .int .i64 (many : Int), .bool true, .bool true, .bool false, .int .i64 (many : Int),
      .func (.func 39) #[] #[.pointer (some ⟨B1 + 1, 0, none⟩), .pointer (some ⟨B1, 0, none⟩)], x.1, .bool x.2, undef, undef, undef, undef, undef, undef, undef, undef, undef, undef, undef, undef], defers := [] }) ?assign ?body ?done ?stop
  case assign =>
    intro l x W K hK
    gi_wp2
    exact hK
  case body =>
    rintro l pre ⟨u, ok⟩ W hI ⟨hpre, -⟩
    dsimp only
    obtain ⟨hp1, hp2, -⟩ := hpre pre.length (by simp)
    simp only [List.getElem_append_right (Nat.le_refl _), Nat.sub_self, List.getElem_cons_zero] at hp1 hp2
    cases ok
    · obtain ⟨h1, h2, ⟨sv, h3, h4⟩, h5, h7, h8⟩ := hI
      have hc2 := h1.at_ 0 rfl
      have hf2 := h1.frozen 0
      have hc3 := h3.at_ 0 rfl
      have hf3 := h3.frozen 0
      have hc4 := h2.at_ 0 rfl
      have hf4 := h2.frozen 0
      have hbad : Hid (∃ i, ∃ h : i < (pre ++ [(u, false)]).length, (pre ++ [(u, false)])[i].2 = false) := hide ⟨pre.length, by simp, by simp⟩
      have HX := hide ((h7.setCell (p := ⟨w.heap.size, 0, none⟩) (Nat.le_refl _) (.bool false)).setCell (p := ⟨w.heap.size + 1, 0, none⟩) (by simp) (.slice none 0 0) |>.setCell (p := ⟨w.heap.size + 1 + 1, 0, none⟩) (by simp only; omega) (.int .i64 12))
      have Hb2 := hide (((h1.set_ 0 (.bool false)).far (p := ⟨w.heap.size + 1, 0, none⟩) (by simp) (.slice none 0 0)).far (p := ⟨w.heap.size + 1 + 1, 0, none⟩) (by simp only; omega) (.int .i64 12))
      have Hb3 := hide (((h3.far (p := ⟨w.heap.size, 0, none⟩) (by simp) (.bool false)).set_ 0 (.slice none 0 0)).far (p := ⟨w.heap.size + 1 + 1, 0, none⟩) (by simp) (.int .i64 12))
      have Hb4 := hide (((h2.far (p := ⟨w.heap.size, 0, none⟩) (by simp only; omega) (.bool false)).far (p := ⟨w.heap.size + 1, 0, none⟩) (by simp) (.slice none 0 0)).set_ 0 (.int .i64 12))
      have HK := hide (Dg.keepG_set (Dg.keepG_set (Dg.keepG_set (Dg.KeepG.rf g B1 w.heap.size W) 0 (.bool false) (b := w.heap.size) (by omega) (by omega) (Nat.le_refl _)) 0 (.slice none 0 0) (b := w.heap.size + 1) (by omega) (by omega) (by omega)) 0 (.int .i64 12) (b := w.heap.size + 1 + 1) (by omega) (by omega) (by omega))
      clear hp1 hp2 h1 h2 h3 h4 h5 h7 hpre
      gi_wp2
      exact ⟨(((KeepsOthers.setCell _ _ _).trans (KeepsOthers.setCell _ _ _)).trans (KeepsOthers.setCell _ _ _)).from _, HK.out, rfl, Hb2.out, Hb3.out, Hb4.out, hbad.out, HX.out⟩
    · obtain ⟨h1, h2, ⟨sv, h3, h4⟩, h5, h7, h8⟩ := hI
      have ho : Old w.heap.size (oneW (rests rb pre.length)) u w6 := by first | exact hp2 rfl | exact hp2 trivial | exact hp2
      have hu := (Old.keep ho (fun k hk => (h7.block k hk).trans (hX7.block k hk).symm)).1
      have hgd : ∀ j, j < pre.length → goodB (rests rb j) = true := fun j hj => by
        have := (hpre j (by simp; omega)).1
        rw [List.getElem_append_left hj] at this
        rw [← this]
        exact h5 j hj
      have hrn := rests_len rb _ hgd
      have hwl := oneW_len _ hp1.symm
      have hgood : Hid (∀ i (h : i < (pre ++ [(u, true)]).length), (pre ++ [(u, true)])[i].2 = true) := fun i hi => by
        rw [List.length_append, List.length_singleton] at hi
        by_cases hl : i < pre.length
        · rw [List.getElem_append_left hl]; exact h5 i hl
        · obtain rfl : i = pre.length := by omega
          simp
      have Hws := hide (wordsUp_succ rb pre.length)
      have hwl : (oneW (rests rb pre.length)).length ≤ 1000000 := by omega
      generalize oneW (rests rb pre.length) = wd at *
      obtain ⟨Au, cu, rfl, -⟩ := VBytes.form hu
      clear hp1 hp2 ho hgd h5 hpre
      gi_upto_region 13 with (fail)
      refine vregionI (freeF_round _) (fun ⟨_, _, h⟩ => h.elim) (by kernel_rfl) 4 [] (by kernel_rfl) (by kernel_rfl) (fun _ _ _ _ _ h => h) ?_
      refine VWalk.load1 22 _ rfl (want_none rfl) (opd_frame 3 rfl (by kernel_rfl)) (fun _ => by kernel_rfl) (h3.at_ 0 rfl) (ext_drew _) ?_
      refine VWalk.move _ rfl (want_none rfl) (opd_fr 8 rfl hu (ext_drew _) (by kernel_rfl)) ?_
      refine VWalk.appNil 23 5 _ i0 (.int .u8 0) rfl Try.underlying23 hi hz0 hz1 hz2 rfl (want_none rfl) (opd_dep 1 38 0 rfl rfl rfl rfl) hwl ?_
      refine VWalk.lit (Fs := [_]) [Operand.tmp 39] 22 23 1 _ rfl rfl (by decide) (by decide) rfl Try.underlying22 (by kernel_rfl) (by kernel_rfl) ⟨oneCell_own _ _ _, trivial⟩ (want_none rfl) ⟨(opd_dep 2 39 0 rfl rfl rfl rfl), trivial⟩ ?_
      refine ⟨rfl, fun W13 hE13 => ?_⟩
      refine VFin.eq ?_  -- 0
      refine VFin.any fun v13_1 hv13_1 => ?_
      refine VFin.any fun v13_2 hv13_2 => ?_
      refine VFin.any fun v13_3 hv13_3 => ?_
      refine VFin.nil ?_
      simp only [Act.put, List.setIfInBounds_toArray, List.set_cons_zero, List.set_cons_succ]
      clear hv13_1 hv13_2
      have hu := VP.st _ _ _ _ hu ((ext_drew _).tr hE13)
      have hE := ((ext_drew _).tr hE13)
      have hX := (ext_drew W).tr hE13
      obtain ⟨xv, hsrc, hxo⟩ := Src.one hv13_3
      have h1 := h1.ext hX
      have h2 := h2.ext hX
      have h3 := h3.ext hX
      obtain ⟨xs, ho1, ho2, ho3⟩ := OwnP.st h4 hX
      have hxo := VOwn.low hxo h8
      have hl1 := wordsUp_length rb pre.length
      have hsz13 := Nat.le_trans h8 hX.size
      have h7x := h7.trans (hX.mono h7.size)
      rw [hl1] at ho1
      clear hv13_3 h4
      refine wpList_append_src rfl _ _ 22 rfl w6.heap.size 23 i1 (.slice none 0 0) 1 24 Try.underlying22 hi1 hz3 hz4 hz5 rfl (by omega) sv _ pre.length 1 xs [xv] rfl ho1 rfl rfl hsrc (fun y hy => by rw [List.mem_singleton] at hy; subst hy; exact VOwn.cell1 hxo) (by omega) hsz13 ?_
      intro v' w' hown hgrow hat
      have hge := fun k => own_ge ho1 k
      have hcl := own_cells ho1
      rw [← hl1] at ho1
      have hown2 := hown
      rw [← hl1] at hown2
      have hsn := OwnP.snoc (by decide) ho1 ho2 ho3 hxo hown2 hgrow
      rw [← Hws.out] at hsn
      have h1 := h1.grows hgrow (fun e => by have := hge _ e; omega)
      have h2 := h2.grows hgrow (fun e => by have := hge _ e; omega)
      have h3 := h3.grows hgrow (fun e => by have := hge _ e; omega)
      obtain ⟨A4, c4, hv4⟩ := own_form hown
      subst hv4
      have hc3 := h3.at_ 0 rfl
      have hf3 := h3.frozen 0
      have hgK : Dg.KeepG g B1 w.heap.size W w' := keepG_grown (keepG_ext hX (by omega) (by omega) (by omega)) hgrow (by have := hX.size; omega) (by have := hX.size; omega) (by have := hX.size; omega) (fun k hk => by have := hge k hk; omega)
      have HK := hide (Dg.keepG_set hgK 0 (.slice A4 (pre.length + 1) c4) (b := w.heap.size + 1) (by omega) (by omega) (by omega))
      have HF := hide ((((KeepsOthers.of_grownBy (Dg.grown_ext hX none) (fun _ _ h => by cases h)).trans (KeepsOthers.of_grownBy hgrow (fun j o hj ho => hcl j o hj ho))).trans (KeepsOthers.setCell w' ⟨w.heap.size + 1, 0, none⟩ (.slice A4 (pre.length + 1) c4))).from w6.heap.size)
      have HI : Hid (TkI rb fl w w6 (pre ++ [(Value.slice Au wd.length cu, true)]) (w'.setCell ⟨w.heap.size + 1, 0, none⟩ (.slice A4 (pre.length + 1) c4))) :=
        ⟨h1.far (p := ⟨w.heap.size + 1, 0, none⟩) (by simp) _, h2.far (p := ⟨w.heap.size + 1, 0, none⟩) (by simp) _, ⟨_, h3.set_ 0 _, by rw [List.length_append, List.length_singleton]; exact OwnP.set hsn ⟨w.heap.size + 1, 0, none⟩ (by simp only; omega) _⟩, hgood,
          (h7x.grown hgrow h7x.size (fun j hj => by have := hge j hj; omega)).setCell (p := ⟨w.heap.size + 1, 0, none⟩) (by simp) _, by simpa using Nat.le_trans hsz13 hgrow.size⟩
      clear hown hown2 hgrow hat hsn h1 h2 h3 hgK hX hsrc hxo ho1 ho2 ho3
      go_wp2
      exact ⟨HF.out, HK.out, HI.out⟩
  case done =>
    rintro D xs W hD ⟨hrun, hend⟩ hT ⟨h1, h2, ⟨sv, h3, h4⟩, h5, h7, h8⟩ hK
    have hlx : xs.length = many := by
      rcases hend with h | ⟨i, h, hf⟩
      · exact h
      · rw [h5 i h] at hf; cases hf
    have hR := hT h5
    have hwf := wordsF_up rb xs.length (RunW.good hrun h5)
    rw [hlx] at hR hwf h4
    obtain ⟨ht1, ht2⟩ := Htp.out.2 _ _ hwf
    obtain ⟨A4, c4, hv4⟩ := OwnP.form h4
    subst hv4
    have hP := OwnP.parts h4
    have hlw := wordsUp_length rb many
    rw [hlw] at h3 hP h4
    generalize wordsUp rb many = ws at *
    generalize rests rb many = rr at *
    have hnone := none_any g w.heap.size rr W hR
    clear hwf hend hrun hT h5 hlx hlw hR
    by_cases hr : rr = []
    · rw [decide_eq_true hr] at hnone
      have Htq := hide (ht2 hr)
      clear ht1 ht2 hr Htp
      gi_wp2_with fail
      refine ⟨trivial, ?_⟩
      refine (callsIn_wide.2 hnone).mono ?_
      rintro e W' ⟨rfl, rfl⟩
      clear hnone
      have hc2 := h1.at_ 0 rfl
      have hf2 := h1.frozen 0
      have hc3 := h3.at_ 0 rfl
      have hf3 := h3.frozen 0
      have hc4 := h2.at_ 0 rfl
      have hf4 := h2.frozen 0
      have hmix : Try.prog.follows .mixedOrders = true := by kernel_rfl
      gi_wp2
      gi_region_o
      have hb2' := (((h1.set_ 0 (.bool fl)).far (p := ⟨w.heap.size + 1, 0, none⟩) (by simp) (.slice A4 many c4)).far (p := ⟨w.heap.size + 1 + 1, 0, none⟩) (by simp only; omega) (.int .i64 0)).drew
      have hb3' := (((h3.far (p := ⟨w.heap.size, 0, none⟩) (by simp) (.bool fl)).set_ 0 (.slice A4 many c4)).far (p := ⟨w.heap.size + 1 + 1, 0, none⟩) (by simp) (.int .i64 0)).drew
      have hb4' := (((h2.far (p := ⟨w.heap.size, 0, none⟩) (by simp only; omega) (.bool fl)).far (p := ⟨w.heap.size + 1, 0, none⟩) (by simp) (.slice A4 many c4)).set_ 0 (.int .i64 0)).drew
      have hE' := ((h7.setCell (p := ⟨w.heap.size, 0, none⟩) (Nat.le_refl _) (.bool fl)).setCell (p := ⟨w.heap.size + 1, 0, none⟩) (by simp) (.slice A4 many c4)).setCell (p := ⟨w.heap.size + 1 + 1, 0, none⟩) (by simp only; omega) (.int .i64 0)
      have hK' := (((KeepsOthers.setCell W' ⟨w.heap.size, 0, none⟩ (.bool fl)).trans (KeepsOthers.setCell _ ⟨w.heap.size + 1, 0, none⟩ (.slice A4 many c4))).trans (KeepsOthers.setCell _ ⟨w.heap.size + 1 + 1, 0, none⟩ (.int .i64 0))).same D _ hK rfl
      have hE' := hE'.drew
      have hK' := ((ext_drew _).block D (Array.getElem?_eq_some_iff.1 hK').1).trans hK'
      have hO' := OwnP.set (OwnP.set (OwnP.set h4 ⟨w.heap.size, 0, none⟩ (by simp only; omega) (.bool fl)) ⟨w.heap.size + 1, 0, none⟩ (by simp only; omega) (.slice A4 many c4)) ⟨w.heap.size + 1 + 1, 0, none⟩ (by simp only; omega) (.int .i64 0)
      have hO' := OwnP.st hO' (ext_drew _)
      generalize World.drew _ = Wf at *
      clear hc2 hf2 hc3 hf3 hc4 hf4 h1 h2 h3 h4 h7 h8 hP
      gi_wp2
      refine ⟨by simp, .inl ⟨_, _, rfl, run_takeDeferred hK', ?_⟩⟩
      have hc2' : ∀ o : Obj, (Wf.putObj D o).cell? ⟨w.heap.size, 0, none⟩ = some (.bool fl) := fun o => Box.at_ ((World.putObj_heap_other (by omega)).trans hb2') 0 rfl
      have hc3' : ∀ o : Obj, (Wf.putObj D o).cell? ⟨w.heap.size + 1, 0, none⟩ = some (.slice A4 many c4) := fun o => Box.at_ ((World.putObj_heap_other (by omega)).trans hb3') 0 rfl
      have hc4' : ∀ o : Obj, (Wf.putObj D o).cell? ⟨w.heap.size + 1 + 1, 0, none⟩ = some (.int .i64 0) := fun o => Box.at_ ((World.putObj_heap_other (by omega)).trans hb4') 0 rfl
      refine ⟨.tuple #[.bool fl, .slice A4 many c4, .int .i64 0], by simp [results, Try.results10, go_sem, hc2', hc3', hc4'], ?_⟩
      refine ⟨_, by rw [Htq.out], hE'.grown (grownBy_putObj' _ D _) hE'.size (fun j hj => by cases hj; omega), ?_⟩
      rw [Htq.out]
      exact OwnP.parts (OwnP.grows hO' (grownBy_putObj' _ D _) (fun k hk => .inr ⟨_, by cases hk; exact hK', rfl⟩))
    · rw [decide_eq_false hr] at hnone
      have Htq := hide (ht1 hr)
      clear ht1 ht2 hr Htp hP h4
      gi_wp2_with fail
      refine ⟨trivial, ?_⟩
      refine (callsIn_wide.2 hnone).mono ?_
      rintro e W' ⟨rfl, rfl⟩
      clear hnone
      have hc2 := h1.at_ 0 rfl
      have hf2 := h1.frozen 0
      have hc3 := h3.at_ 0 rfl
      have hf3 := h3.frozen 0
      have hc4 := h2.at_ 0 rfl
      have hf4 := h2.frozen 0
      have hb2' := (((h1.set_ 0 (.bool false)).far (p := ⟨w.heap.size + 1, 0, none⟩) (by simp) (.slice none 0 0)).far (p := ⟨w.heap.size + 1 + 1, 0, none⟩) (by simp only; omega) (.int .i64 43))
      have hb3' := (((h3.far (p := ⟨w.heap.size, 0, none⟩) (by simp) (.bool false)).set_ 0 (.slice none 0 0)).far (p := ⟨w.heap.size + 1 + 1, 0, none⟩) (by simp) (.int .i64 43))
      have hb4' := (((h2.far (p := ⟨w.heap.size, 0, none⟩) (by simp only; omega) (.bool false)).far (p := ⟨w.heap.size + 1, 0, none⟩) (by simp) (.slice none 0 0)).set_ 0 (.int .i64 43))
      have hE' := ((h7.setCell (p := ⟨w.heap.size, 0, none⟩) (Nat.le_refl _) (.bool false)).setCell (p := ⟨w.heap.size + 1, 0, none⟩) (by simp) (.slice none 0 0)).setCell (p := ⟨w.heap.size + 1 + 1, 0, none⟩) (by simp only; omega) (.int .i64 43)
      have hK' := (((KeepsOthers.setCell W' ⟨w.heap.size, 0, none⟩ (.bool false)).trans (KeepsOthers.setCell _ ⟨w.heap.size + 1, 0, none⟩ (.slice none 0 0))).trans (KeepsOthers.setCell _ ⟨w.heap.size + 1 + 1, 0, none⟩ (.int .i64 43))).same D _ hK rfl
      gi_wp2
      clear hc2 hf2 hc3 hf3 hc4 hf4 h1 h2 h3 h7 h8
      generalize World.setCell _ ⟨w.heap.size + 1 + 1, 0, none⟩ _ = Wf at *
      refine ⟨by simp, .inl ⟨_, _, rfl, run_takeDeferred hK', ?_⟩⟩
      have hc2' : ∀ o : Obj, (Wf.putObj D o).cell? ⟨w.heap.size, 0, none⟩ = some (.bool false) := fun o => Box.at_ ((World.putObj_heap_other (by omega)).trans hb2') 0 rfl
      have hc3' : ∀ o : Obj, (Wf.putObj D o).cell? ⟨w.heap.size + 1, 0, none⟩ = some (.slice none 0 0) := fun o => Box.at_ ((World.putObj_heap_other (by omega)).trans hb3') 0 rfl
      have hc4' : ∀ o : Obj, (Wf.putObj D o).cell? ⟨w.heap.size + 1 + 1, 0, none⟩ = some (.int .i64 43) := fun o => Box.at_ ((World.putObj_heap_other (by omega)).trans hb4') 0 rfl
      refine ⟨.tuple #[.bool false, .slice none 0 0, .int .i64 43], by simp [results, Try.results10, go_sem, hc2', hc3', hc4'], ?_⟩
      refine ⟨_, by rw [Htq.out], hE'.grown (grownBy_putObj' _ D _) hE'.size (fun j hj => by cases hj; omega), ?_⟩
      rw [Htq.out]
      exact nil_parts _
  case stop =>
    rintro D c' pre W' hD ⟨hpre, hpl⟩ hT ⟨rfl, hb2', hb3', hb4', ⟨i, hi, hbad⟩, hE'⟩ hK'
    have hwf : wordsF many rb = none := by
      have := hpre i hi
      rw [hbad] at this
      refine wordsF_no rb i many (fun j hj => ?_) this.1.symm ?_
      · have h1 := hpre j (by omega)
        rw [← h1.1]; exact h1.2.2 (by omega)
      · omega
    have Htq := hide (Htp.out.1 hwf)
    clear hwf hpre hT Htp
    generalize W' = Wf at *
    gi_wp2
    refine ⟨by simp, .inl ⟨_, _, rfl, run_takeDeferred hK', ?_⟩⟩
    have hc2' : ∀ o : Obj, (Wf.putObj D o).cell? ⟨w.heap.size, 0, none⟩ = some (.bool false) := fun o => Box.at_ ((World.putObj_heap_other (by omega)).trans hb2') 0 rfl
    have hc3' : ∀ o : Obj, (Wf.putObj D o).cell? ⟨w.heap.size + 1, 0, none⟩ = some (.slice none 0 0) := fun o => Box.at_ ((World.putObj_heap_other (by omega)).trans hb3') 0 rfl
    have hc4' : ∀ o : Obj, (Wf.putObj D o).cell? ⟨w.heap.size + 1 + 1, 0, none⟩ = some (.int .i64 12) := fun o => Box.at_ ((World.putObj_heap_other (by omega)).trans hb4') 0 rfl
    refine ⟨.tuple #[.bool false, .slice none 0 0, .int .i64 12], by simp [results, Try.results10, go_sem, hc2', hc3', hc4'], ?_⟩
    refine ⟨_, by rw [Htq.out], hE'.grown (grownBy_putObj' _ D _) hE'.size (fun j hj => by cases hj; omega), ?_⟩
    rw [Htq.out]
    exact nil_parts _
end Go.Proofs.Ytggjkhldknppkaa
