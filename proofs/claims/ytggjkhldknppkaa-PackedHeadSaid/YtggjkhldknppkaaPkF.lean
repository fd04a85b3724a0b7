/- Packed words, taken: what is left, numbers and words from it. -/
import Derived.Test.YtggjkhldknppkaaPkE
import Derived.Test.YtggjkhldknppkaaKDG
namespace Go.Proofs.Ytggjkhldknppkaa
open Go.RowKit PakM DigM
/-- The reader in block g: these bytes are left, in blocks ahead of N. -/
def Rd (g N : Nat) (bs : List UInt8) (W : World) : Prop := ∃ v, Box W g 48 #[v] ∧ VBytes bs v W ∧ (∀ k, v.ownBlock = some k → k < N) ∧ N ≤ g
theorem Rd.keep {g N : Nat} {bs : List UInt8} {W W' : World} (h : Rd g N bs W) (hg : W'.heap[g]? = W.heap[g]?) (hk : ∀ k, k < N → W'.heap[k]? = W.heap[k]?) : Rd g N bs W' := by
  obtain ⟨v, h1, h2, h3, h4⟩ := h
  exact ⟨v, hg.trans h1, Dg.vbytes_keep h2 (fun _ k hk' => hk k (h3 k hk')), h3, h4⟩
theorem Rd.lt {g N : Nat} {bs : List UInt8} {W : World} (h : Rd g N bs W) : g < W.heap.size := by obtain ⟨v, h1, _⟩ := h; exact h1.lt
theorem Rd.le {g N : Nat} {bs : List UInt8} {W : World} (h : Rd g N bs W) : N ≤ g := by obtain ⟨v, _, _, _, h4⟩ := h; exact h4
theorem Rd.ext {g N : Nat} {bs : List UInt8} {W W' : World} (h : Rd g N bs W) (hE : Ext W W') : Rd g N bs W' := h.keep (hE.block g h.lt) (fun k hk => hE.block k (by have := h.lt; have := h.le; omega))
/-- Bytes in blocks ahead of N. -/
def Old (N : Nat) (bs : List UInt8) (u : Value) (W : World) : Prop := VBytes bs u W ∧ ∀ k, u.ownBlock = some k → k < N
theorem Old.keep {N : Nat} {bs : List UInt8} {u : Value} {W W' : World} (h : Old N bs u W) (hk : ∀ k, k < N → W'.heap[k]? = W.heap[k]?) : Old N bs u W' := ⟨Dg.vbytes_keep h.1 (fun _ k hk' => hk k (h.2 k hk')), h.2⟩
theorem slice_form {bs : List UInt8} {u : Value} {W : World} (h : VBytes bs u W) : ∃ A c, u = .slice A bs.length c ∧ bs.length ≤ c ∧ c ≤ maxLen ∧ ∀ lo hi, lo ≤ hi → hi ≤ bs.length → VBytes ((bs.take hi).drop lo) (.slice (if c = lo then A else A.map (·.add lo)) (hi - lo) (c - lo)) W := by
  obtain ⟨A, n, c, rfl, rfl, h1, h2, h3⟩ := VBytes.cut h
  exact ⟨A, c, rfl, h1, h2, h3⟩
theorem own_sub {g lo n c n' c' : Nat} {A : Option Addr} (h : ∀ k, (Value.slice A n c).ownBlock = some k → k < g) : ∀ k, (Value.slice (if c = lo then A else A.map (·.add lo)) n' c').ownBlock = some k → k < g := by
  intro k hk
  cases A with
  | none => simp [Value.ownBlock] at hk
  | some a =>
    refine h k ?_
    have : (a.add lo).block = a.block := by unfold Addr.add; split <;> rfl
    by_cases hc : c = lo
    · rw [if_pos hc] at hk; simpa [Value.ownBlock] using hk
    · rw [if_neg hc] at hk
      simp only [Option.map_some, Value.ownBlock, Option.some.injEq] at hk ⊢
      rw [← hk, this]
set_option maxRecDepth 100000 in
theorem none_any (g N : Nat) (bs : List UInt8) (w : World) (h : Rd g N bs w) : Calls Try.prog 24 #[.pointer (some ⟨g, 0, none⟩)] w fun e w' => e = .returned (.bool (decide (bs = []))) ∧ w' = w := by
  obtain ⟨v, hb, hv, -⟩ := h
  obtain ⟨A, c, rfl, hc1, hc2, -⟩ := VBytes.form hv
  unfold maxLen at hc2
  have hc0 := hb.at_ 0 rfl
  clear hv
  by_cases h0 : bs = []
  · rw [decide_eq_true h0]
    have hl : ((bs.length : Int) == 0) = true := by rw [h0]; rfl
    clear h0
    go_enter Try.func24, Try.ntmps24
    go_wp2
    go_ret
    exact ⟨rfl, rfl⟩
  · rw [decide_eq_false h0]
    have hl : ((bs.length : Int) == 0) = false := by rw [beq_eq_false_iff_ne]; intro e; exact h0 (List.eq_nil_of_length_eq_zero (by omega))
    clear h0
    go_enter Try.func24, Try.ntmps24
    go_wp2
    go_ret
    exact ⟨rfl, rfl⟩
set_option maxRecDepth 100000 in
theorem cut_no (g N n : Nat) (bs : List UInt8) (w : World) (h : Rd g N bs w) (hn : bs.length < n) : Calls Try.prog 38 #[.pointer (some ⟨g, 0, none⟩), .int .i64 (n : Int)] w fun e w' => e = .returned (.tuple #[.slice none 0 0, .bool false]) ∧ w' = w := by
  obtain ⟨v, hb, hv, -⟩ := h
  obtain ⟨A, c, rfl, hc1, hc2, -⟩ := VBytes.form hv
  unfold maxLen at hc2
  have hc0 := hb.at_ 0 rfl
  clear hv
  go_enter Try.func38, Try.ntmps38
  go_wp2
  exact bodyPost_ret (v := .tuple #[.slice none 0 0, .bool false]) (by simp [results, Try.results38, go_sem]) rfl ⟨rfl, rfl⟩
set_option maxRecDepth 100000 in
theorem cut_yes (g N n : Nat) (bs : List UInt8) (w : World) (h : Rd g N bs w) (hn : n ≤ bs.length) : Calls Try.prog 38 #[.pointer (some ⟨g, 0, none⟩), .int .i64 (n : Int)] w fun e w' => ∃ u, e = .returned (.tuple #[u, .bool true]) ∧ w.grownBy w' (some g) ∧ Rd g N (bs.drop n) w' ∧ Old N (bs.take n) u w' := by
  obtain ⟨v, hb, hv, hlt, hNg⟩ := h
  obtain ⟨A, c, rfl, hc1, hc2, hcut⟩ := slice_form hv
  unfold maxLen at hc2
  have hc0 := hb.at_ 0 rfl
  have hf0 := hb.frozen 0
  have h1 := hcut 0 n (by omega) hn
  have h2 := hcut n bs.length hn (Nat.le_refl _)
  have ho1 := own_sub (lo := 0) (n' := n - 0) (c' := c - 0) hlt
  have ho2 := own_sub (lo := n) (n' := bs.length - n) (c' := c - n) hlt
  rw [List.drop_zero] at h1
  rw [List.take_length] at h2
  have e1 : (Value.slice (if c = 0 then A else A.map (·.add 0)) (n - 0) (c - 0)) = .slice A n c := by
    have : A.map (·.add 0) = A := by
      cases A with
      | none => rfl
      | some a => simp [Addr.add]
    rw [this]; simp
  rw [e1] at h1 ho1
  have Hcut := hide (⟨h1, h2, ho1, ho2⟩ : _ ∧ _ ∧ _ ∧ _)
  have Hb := hide hb
  have key : ∀ v2 : Value, v2 = .slice (if c = n then A else A.map (·.add n)) (bs.length - n) (c - n) → w.grownBy (w.setCell ⟨g, 0, none⟩ v2) (some g) ∧ Rd g N (bs.drop n) (w.setCell ⟨g, 0, none⟩ v2) ∧ Old N (bs.take n) (.slice A n c) (w.setCell ⟨g, 0, none⟩ v2) := by
    rintro v2 rfl
    obtain ⟨h1, h2, h3, h4⟩ := Hcut.out
    have hk : ∀ k, k < N → (w.setCell ⟨g, 0, none⟩ (.slice (if c = n then A else A.map (·.add n)) (bs.length - n) (c - n))).heap[k]? = w.heap[k]? := fun k hk => Below.heap_setCell w _ _ k (by simp only; omega)
    exact ⟨Dg.only_set (World.grownBy.refl w _) 0 _, ⟨_, Hb.out.set_ 0 _, Dg.vbytes_keep h2 (fun _ k hk' => hk k (h4 k hk')), h4, hNg⟩, Old.keep ⟨h1, h3⟩ hk⟩
  have Key := hide key
  clear hcut h1 h2 ho1 ho2 e1 hv hlt hb key
  by_cases hc : c = n
  · have hcn : bs.length = n := by omega
    subst hc
    go_enter Try.func38, Try.ntmps38
    go_wp2
    refine bodyPost_ret (v := .tuple #[_, .bool true]) (by simp [results, Try.results38, go_sem]; rfl) rfl ⟨_, rfl, ?_⟩
    exact Key.out _ (by simp [hcn])
  · go_enter Try.func38, Try.ntmps38
    go_wp2
    refine bodyPost_ret (v := .tuple #[_, .bool true]) (by simp [results, Try.results38, go_sem]; rfl) rfl ⟨_, rfl, ?_⟩
    exact Key.out _ (by rw [if_neg hc])
/-- What is told of the first five bytes is told of all. -/
theorem five : (puts [(2147483647 : Int)]).1.length = 5 := by decide +kernel
theorem drop_front (bs : List UInt8) (h : (takeN bs).2.2 = 0) : bs.drop ((bs.take 5).length - (takeN (bs.take 5)).2.1.length) = (takeN bs).2.1 ∧ (takeN (bs.take 5)).2.1.length ≤ (bs.take 5).length := by
  obtain ⟨h1, h2⟩ := takeN_front bs
  obtain ⟨h3, h4⟩ := h2 h
  have h5 := (takeN_only (h1.2 h)).2
  rw [h3] at h5
  rw [h4]
  generalize (takeN (bs.take 5)).2.1 = r at *
  have hl : (bs.take 5).length = (putN (takeN bs).1).length + r.length := by rw [h5, List.length_append]
  refine ⟨?_, by omega⟩
  rw [hl, Nat.add_sub_cancel]
  have h6 : bs = putN (takeN bs).1 ++ (r ++ bs.drop 5) := by rw [← List.append_assoc, ← h5, List.take_append_drop]
  generalize putN (takeN bs).1 = pn at *
  generalize bs.drop 5 = dr at *
  rw [h6]
  exact List.drop_left
def okN (bs : List UInt8) : Bool := decide ((takeN bs).2.2 = 0)
set_option maxRecDepth 100000 in
set_option maxHeartbeats 4000000 in
theorem rnum_any (g N : Nat) (bs : List UInt8) (w : World) (h : Rd g N bs w) (hlen : bs.length ≤ 1000000) : Calls Try.prog 22 #[.pointer (some ⟨g, 0, none⟩)] w fun e w' => e = .returned (.tuple #[.int .i64 ((takeN bs).1 : Int), .bool (okN bs)]) ∧ w.grownBy w' (some g) ∧ (okN bs = true → Rd g N (takeN bs).2.1 w') := by
  have hR := h
  obtain ⟨ok, hok⟩ : ∃ o, okN bs = o := ⟨_, rfl⟩
  rw [hok]
  unfold okN at hok
  have hdf := drop_front bs
  have htf := takeN_front bs
  have hte := Dg.takeF_err 0 0 bs
  change (takeN bs).2.2 ≠ 0 → (takeN bs).1 = 0 ∧ (takeN bs).2.1 = [] at hte
  obtain ⟨⟨n0, r0, e0⟩, h00⟩ : ∃ x, takeN bs = x := ⟨_, rfl⟩
  rw [h00] at hok hdf htf hte ⊢
  dsimp only at hok hdf htf hte ⊢
  clear h00
  have Hdf := hide hdf
  have Htf := hide htf
  have Hte := hide hte
  have Hok := hide hok
  clear hdf htf hte hok
  obtain ⟨v, hb, hv, hlt, hNg⟩ := h
  obtain ⟨A, c, rfl, hc1, hc2, -⟩ := VBytes.form hv
  unfold maxLen at hc2
  have hc0 := hb.at_ 0 rfl
  obtain ⟨m, hm⟩ : ∃ m, (if 5 < bs.length then 5 else bs.length) = m := ⟨_, rfl⟩
  have hmb : m ≤ bs.length ∧ m ≤ 5 := by rw [← hm]; split <;> omega
  have hmi : (if (5 : Int) < (bs.length : Int) then 5 else (bs.length : Int)) = (m : Int) := by
    rw [← hm]; by_cases h5 : 5 < bs.length
    · rw [if_pos h5, if_pos (by omega)]; rfl
    · rw [if_neg h5, if_neg (by omega)]
  have htk : bs.take 5 = bs.take m := by
    rw [← hm]; by_cases h5 : 5 < bs.length
    · rw [if_pos h5]
    · rw [if_neg h5, List.take_of_length_le (by omega), List.take_length]
  have htl : (bs.take m).length = m := by rw [List.length_take]; omega
  have Hm := hide hmi
  have Htk := hide htk
  have Htl := hide htl
  clear hm hmi htk htl hb
  go_enter Try.func22, Try.ntmps22
  go_upto_region 1 with (fail)
  refine vregion 15 [] (by kernel_rfl) (by kernel_rfl) (fun _ _ _ _ _ h => h) ?_
  refine VWalk.move _ rfl (want_none rfl) (opd_frame 0 rfl (by kernel_rfl)) ?_
  refine VWalk.det1 (Operand.tmp 10) (want_none rfl) (opd_dep 0 10 0 rfl rfl rfl rfl) (fun ρ w hE h1 => by simp [execOp, h1, go_sem]; rfl) ?_
  refine VWalk.det1 (Operand.tmp 11) (want_none rfl) (opd_dep 1 11 0 rfl rfl rfl rfl) (fun ρ w hE h1 => by simp [execOp, h1, go_sem]; rfl) ?_
  refine VWalk.det1 (Operand.tmp 12) (want_none rfl) (opd_dep 2 12 0 rfl rfl rfl rfl) (fun ρ w hE h1 => by simp [execOp, h1, go_sem]; rfl) ?_
  refine VWalk.load1F (F := VBytes bs) 23 _ rfl (want_none rfl) (opd_dep 3 13 0 rfl rfl rfl rfl) (fun _ => by kernel_rfl) hc0 hv (ext_drew _) ?_
  refine VWalk.move _ rfl (want_none rfl) (opd_frame 0 rfl (by kernel_rfl)) ?_
  refine VWalk.det1 (Operand.tmp 15) (want_none rfl) (opd_dep 5 15 0 rfl rfl rfl rfl) (fun ρ w hE h1 => by simp [execOp, h1, go_sem]; rfl) ?_
  refine VWalk.det1 (Operand.tmp 16) (want_none rfl) (opd_dep 6 16 0 rfl rfl rfl rfl) (fun ρ w hE h1 => by simp [execOp, h1, go_sem]; rfl) ?_
  refine VWalk.det1 (Operand.tmp 17) (want_none rfl) (opd_dep 7 17 0 rfl rfl rfl rfl) (fun ρ w hE h1 => by simp [execOp, h1, go_sem]; rfl) ?_
  refine VWalk.load1F (F := VBytes bs) 23 _ rfl (want_none rfl) (opd_dep 8 18 0 rfl rfl rfl rfl) (fun _ => by kernel_rfl) hc0 hv (ext_drew _) ?_
  refine VWalk.lenB 23 5 _ rfl Try.underlying23 (want_none rfl) (opd_dep 9 19 0 rfl rfl rfl rfl) ?_
  refine VWalk.lit (Fs := [_]) [Operand.const (Value.int IntKind.i64 2147483647)] 77 3 1 _ rfl rfl (by decide) (by decide) rfl Try.underlying77 (by kernel_rfl) (by kernel_rfl) ⟨oneCell_eq rfl, trivial⟩ (want_none rfl) ⟨(opd_const _), trivial⟩ ?_
  refine VWalk.call1 32 _ _ rfl (enters_of Try.func32 (by kernel_rfl) rfl) (want_none rfl) (opd_dep 11 21 0 rfl rfl rfl rfl) (fun v W hX hv => by have := Dg.dsize_any [2147483647] v W hv (by simp); rw [five] at this; exact this) ?_
  refine VWalk.det2 (r := .int .i64 (m : Int)) (Operand.tmp 20) (Operand.tmp 22) (want_none rfl) (opd_dep 10 20 2 rfl rfl rfl rfl) (opd_dep 12 22 0 rfl rfl rfl rfl) (fun ρ w hE h1 h2 => by simp [h1, h2, go_sem]; exact Hm.out) ?_
  refine VWalk.cutToB 23 5 _ _ .i64 m rfl Try.underlying23 (by kernel_rfl) (want_none rfl) (opd_dep 4 14 9 rfl rfl rfl rfl) (opd_dep 13 23 0 rfl rfl rfl rfl) hmb.1 ?_
  refine ⟨rfl, fun W1 hE1 => ?_⟩
  refine VFin.eq ?_  -- 0
  refine VFin.eq ?_  -- 1
  refine VFin.eq ?_  -- 2
  refine VFin.eq ?_  -- 3
  refine VFin.any fun v1_4 hv1_4 => ?_
  refine VFin.eq ?_  -- 5
  refine VFin.eq ?_  -- 6
  refine VFin.eq ?_  -- 7
  refine VFin.eq ?_  -- 8
  refine VFin.any fun v1_9 hv1_9 => ?_
  refine VFin.eq ?_  -- 10
  refine VFin.any fun v1_11 hv1_11 => ?_
  refine VFin.eq ?_  -- 12
  refine VFin.eq ?_  -- 13
  refine VFin.any fun v1_14 hv1_14 => ?_
  refine VFin.nil ?_
  simp only [Act.put, List.setIfInBounds_toArray, List.set_cons_zero, List.set_cons_succ]
  clear hv1_4 hv1_9 hv1_11
  have hE := ((ext_drew _).tr hE1)
  have hv4 := hv1_14
  have HE1 := hide ((ext_drew w).tr hE1)
  obtain ⟨A4, c4, e4, -⟩ := VBytes.form hv4
  rw [Htl.out] at e4
  rw [e4] at hv4 ⊢
  have htake := Dg.take_any (bs.take m) _ W1 hv4 (by rw [Htl.out]; omega)
  have hdf := Hdf.out
  have htf := Htf.out
  rw [Htk.out, Htl.out] at hdf
  rw [Htk.out] at htf
  obtain ⟨⟨n5, r5, e5⟩, h5⟩ : ∃ x, takeN (bs.take m) = x := ⟨_, rfl⟩
  rw [h5] at htake
  rw [h5] at hdf htf
  dsimp only at htake hdf htf
  clear h5 e4
  clear Hdf Htf
  by_cases hz : e0 = 0
  · have hdd := hdf hz
    obtain ⟨hd1, hd2⟩ := hdd
    obtain ⟨e55, -⟩ := htf.2 hz
    subst e55
    obtain rfl : e5 = 0 := htf.1.2 hz
    obtain rfl : ok = true := by rw [← Hok.out]; exact decide_eq_true hz
    obtain ⟨q, hq⟩ : ∃ q, m - r5.length = q := ⟨_, rfl⟩
    rw [hq] at hd1
    have hqi : (q : Int) = (m : Int) - (r5.length : Int) := by omega
    have hqb : q ≤ bs.length := by omega
    have Hd1 := hide hd1
    clear hdf htf hz hq hd1 hv hv4 hlt
    go_wp2_with fail
    refine htake.mono ?_
    rintro e w2 ⟨u, rfl, hE2, hu⟩
    obtain ⟨_, x, _, rfl, rfl, hx, rfl⟩ := VTup.inv3 hu
    obtain ⟨A6, c6, rfl, -⟩ := VBytes.form hx
    have hX2 := HE1.out.tr hE2
    have hcut := cut_yes g N q bs w2 (hR.ext hX2) hqb
    rw [hqi] at hcut
    clear htake hu hx hE2 hqi
    go_wp2_with fail
    refine hcut.mono ?_
    rintro e w3 ⟨u, rfl, hg3, hR3, hO3⟩
    rw [Hd1.out] at hR3
    clear hcut
    go_wp2
    refine bodyPost_ret (v := .tuple #[_, .bool true]) (by simp [results, Try.results22, go_sem]) rfl ⟨rfl, Dg.grown_row (Dg.grown_ext hX2 _) hg3 (fun k hk => .inl (Option.some.inj hk).symm), hR3⟩
  · have hne : ¬ e5 = 0 := fun h => hz (htf.1.1 h)
    obtain rfl : n0 = 0 := (Hte.out hz).1
    obtain rfl : ok = false := by rw [← Hok.out]; exact decide_eq_false hz
    have hne' : (e5 == 0) = false := by rw [beq_eq_false_iff_ne]; exact hne
    clear hdf htf hz hv hv4 hlt hne
    go_wp2_with fail
    refine htake.mono ?_
    rintro e w2 ⟨u, rfl, hE2, hu⟩
    obtain ⟨_, x, _, rfl, rfl, hx, rfl⟩ := VTup.inv3 hu
    have hX2 := HE1.out.tr hE2
    clear htake hu hE2
    go_wp2
    refine bodyPost_ret (v := .tuple #[.int .i64 0, .bool false]) (by simp [results, Try.results22, go_sem]) rfl ⟨rfl, Dg.grown_ext hX2 _, fun h => by cases h⟩
end Go.Proofs.Ytggjkhldknppkaa
