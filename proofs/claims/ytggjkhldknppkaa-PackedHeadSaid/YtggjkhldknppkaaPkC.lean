/- Packed words, put: the program's number, Put and Size. -/
import Derived.Test.YtggjkhldknppkaaPkB
import Derived.Test.YtggjkhldknppkaaKDD
import Derived.Test.YtggjkhldknppkaaB
import Derived.ArgAppend
namespace Go.Proofs.Ytggjkhldknppkaa
open Go.RowKit PakM DigM
set_option maxRecDepth 100000 in
set_option maxHeartbeats 1000000 in
theorem number_own (base : Nat) (al : List UInt8) (n : Nat) (h : n ≤ most) (v : Value) (w : World) (hO : OwnB w base 5 v al) (hbase : base ≤ w.heap.size) (hlen : al.length ≤ 900000) :
    Calls Try.prog 29 #[v, .int .i64 (n : Int)] w (fun e w' => ∃ v', e = .returned v' ∧ OwnB w' base 5 v' (al ++ putN n) ∧ w.grownBy w' v.ownBlock) := by
  have hl := putN_most h
  have hput := Dg.put_any (n : Int) w
  have hone : Dg.puts_one (n : Int) = Dg.puts_one (n : Int) := rfl
  rw [Dg.puts_one, if_pos (mayB_iff.2 ⟨by omega, by unfold most at h; omega⟩), Int.toNat_natCast] at hput
  obtain ⟨i0, hi, hz0, hz1, hz2⟩ := info_parts Dg.Try.infoB
  obtain ⟨A, c, hv⟩ := OwnB.form hO
  obtain ⟨row, hrow⟩ : ∃ r, r = v.ownBlock := ⟨_, rfl⟩
  rw [← hrow]
  subst hv
  have HO := hide hO
  have Hrow := hide hrow
  clear hO hrow hone
  go_enter Try.func29, Try.ntmps29
  go_wp2_with fail
  refine hput.mono ?_
  rintro e w1 ⟨u, rfl, hE1, hu⟩
  obtain ⟨x, y, rfl, hx, rfl⟩ := VTup.inv2 hu
  have Hx := hide hx
  obtain ⟨B, d, rfl, -⟩ := VBytes.form hx
  have HE := hide hE1
  have Ha := hide (OwnB.st HO.out hE1)
  have hbase1 := Nat.le_trans hbase hE1.size
  clear hput hu hx hE1 hbase
  go_wp2_with (at_builtin; refine wpList_append_bytes rfl _ _ 23 rfl base 5 i0 (.int .u8 0) Try.underlying23 hi hz0 hz1 hz2 rfl _ _ al (putN n) rfl Ha.out rfl Hx.out (by omega) hbase1 ?_; intro v' w' hown hgrow hat)
  go_ret
  refine ⟨_, rfl, hown, ?_⟩
  rw [Hrow.out]
  exact Dg.grown_step (Dg.grown_ext HE.out _) hgrow (.inl rfl)
section
variable {P : Program} {Q : Exit → Act → World → Prop} {ops : Array Oper} {M m : Nat} {a0 : Act} {w0 : World} {K : List Oper → List VP → Prop} {o : Oper} {rest : List Oper} {env : List VP}
/-- The mark of a literal's row: it stays full. -/
theorem VWalk.markR {bs : List UInt8} (t e : TypeId) (x : Operand) (ho : o.op = .convert t t x) (ht : P.underlying t = some (.slice e)) (he : P.underlying e = some (.int .u8)) (hw : Want ops M a0 w0 env o true)
    (hx : Opd ops M a0 w0 env o x (VRow w0.heap.size bs)) (hr : VWalk P Q ops M a0 w0 K m rest (VRow w0.heap.size bs :: env)) : VWalk P Q ops M a0 w0 K (m + 1) (o :: rest) env :=
  ⟨VRow w0.heap.size bs, fun a w hE hC hD => by
    have hR := hx a w hE hC hD
    have hR' := hR
    obtain ⟨g, cs, t', mk, hv, h2, h3, h4, h5, h6, h7⟩ := hR
    obtain ⟨f1, f2, f3, f4, f5, f6⟩ := freeze_mark w g cs t' mk h3 h4
    have hgl : g < w.heap.size := (Array.getElem?_eq_some_iff.1 h3).1
    have hsh : w.shape? g = some (t', cs.size) := by unfold World.shape?; rw [h3]
    have hW : Weak w (w.freeze ⟨g, cs.size, none⟩ 1) := ⟨by rw [f3]; exact Nat.le_refl _, fun k hk => by
      by_cases e : k = g
      · subst e
        rcases h4 with rfl | rfl
        · refine .inr ⟨cs, t', h3, f1, (bs[0].toNat : Int), ?_⟩
          rw [← Array.getElem?_toList, h5, List.getElem?_map, List.getElem?_eq_getElem h6]; rfl
        · exact .inl (f1.trans h3.symm)
      · exact .inl (f2 k e)⟩
    rw [hw a w hE hC hD, if_pos rfl]
    unfold Oper.wp
    have hrun : (execOp a.eval o).run P w = .ok (.value (a.eval x)) (w.freeze ⟨g, cs.size, none⟩ 1) := by
      revert hv
      generalize a.eval = ρ
      intro hv
      unfold execOp
      simp [ho, hv, convert, run_underlying ht, run_underlying he, markStringish, hsh, go_sem, Result.andThen]
    rw [hrun]
    refine ⟨a.eval x, rfl, ⟨⟨f4, f5, f6, by rw [f3]; exact Nat.le_refl _, fun k hk => f2 k (by omega)⟩, hW⟩, VP.wk _ _ _ _ hR' hW⟩, hr⟩
end
/-- An append behind a literal's row, which has no room. -/
theorem wpList_append_full {P : Program} {ops : Array Oper} {rest : List Oper} {o : Oper} {a : Act} {w : World} {Q : Exit → Act → World → Prop} (hgd : o.guard = none) (s x : Operand) (t : TypeId)
    (ho : o.op = .call { callee := .builtin .append, args := #[s, x], argTypes := #[t, t] })
    (e : TypeId) (i : TypeInfo) (z : Value) (ht : P.underlying t = some (.slice e)) (hi : P.info? e = some i) (hz : i.zero = some z) (hs : i.size = 1) (hb : i.bytes = 1) (hzs : z.cells.size = 1)
    (B : Nat) (v u : Value) (al bs : List UInt8) (hv : a.eval s = v) (hrow : VRow B al v w) (hu : a.eval x = u) (hx : VBytes bs u w) (hp : 0 < bs.length) (hlen : al.length + bs.length ≤ 1000000)
    (h : ∀ v' w', OwnB w' w.heap.size e v' (al ++ bs) → w.grownBy w' none → wpList P ops Q rest (a.put o.dst v') w') : wpList P ops Q (o :: rest) a w := by
  obtain ⟨g, cs, t', mk, rfl, h2, h3, h4, h5, h6, h7⟩ := hrow
  obtain ⟨A, c, rfl, hl, hmx, hc⟩ := VBytes.form hx
  obtain ⟨b, off, rfl, hbl, hcell⟩ := hc hp
  refine wpList_append_grows w hgd s x t ho e i z 1 1 ht hi hz hs hb hzs (by omega) (some ⟨g, 0, none⟩) al.length al.length (al.map byteV) hv (fun h => by cases h) (by simp) (fun q hq j y hj => ?_) ⟨b, off, none⟩ bs.length c (bs.map byteV) hu (by simp) (fun j y hj => ?_) (fun y hy => by obtain ⟨q, _, rfl⟩ := List.mem_map.1 hy; rfl) (by omega) (by unfold maxLen; omega) (by omega) (fun v' w' r1 r2 => h v' w' ?_ r2)
  · cases hq
    rw [addr_add, Nat.zero_add, cell_of_row w g j cs t' mk h3, ← Array.getElem?_toList, h5]
    exact hj
  · rw [addr_add]
    rw [List.getElem?_map] at hj
    cases hq : bs[j]? with
    | none => rw [hq] at hj; cases hj
    | some q =>
      rw [hq] at hj
      cases hj
      obtain ⟨hj1, hj2⟩ := List.getElem?_eq_some_iff.1 hq
      rw [hcell j hj1, hj2]
      rfl
  · unfold OwnB
    rw [List.length_append, List.map_append]
    exact r1
theorem words_len_take (ws : List (List UInt8)) (h0 : ws.length ≤ 10000) (h1 : ws.flatten.length ≤ 30000) (hm : ∀ w ∈ ws, w.length ≤ most) (k : Nat) : (wordsB (ws.take k)).length ≤ 80000 := by
  have h2 := wordsB_le (ws.take k) (fun w hw => hm w (List.mem_of_mem_take hw))
  have h3 : (ws.take k).flatten.length ≤ ws.flatten.length := by
    conv => rhs; rw [← List.take_append_drop k ws, List.flatten_append, List.length_append]
    omega
  rw [List.length_take] at h2
  omega
theorem wordsB_snoc (ws : List (List UInt8)) (k : Nat) (h : k < ws.length) : wordsB (ws.take (k + 1)) = wordsB (ws.take k) ++ putN ws[k].length ++ ws[k] := by
  rw [List.take_succ_eq_append_getElem h, wordsB_append]
  show _ ++ (putN _ ++ ws[k] ++ []) = _
  rw [List.append_nil, List.append_assoc]
theorem flat_at {ws : List (List UInt8)} {k : Nat} (h : k < ws.length) : ws[k].length ≤ ws.flatten.length := by
  have : ws.flatten = (ws.take k).flatten ++ (ws[k] ++ (ws.drop (k + 1)).flatten) := by
    rw [← List.flatten_cons, ← List.drop_eq_getElem_cons h, ← List.flatten_append, List.take_append_drop]
  rw [this]
  simp only [List.length_append]
  omega
theorem parts_new {al : List UInt8} {u : Value} {w : World} (h : VBytes al u w) (t : TypeId) : VSl [VBytes al] (.slice (some ⟨w.heap.size, 0, none⟩) 1 1) (w.alloc (.cells #[u] t)) :=
  ⟨_, 1, rfl, Nat.le_refl _, by decide, fun _ => ⟨w.heap.size, 0, rfl, by simp, fun j F hj => by
    cases j with
    | zero => cases hj; exact ⟨u, (Box.new w t #[u]).at_ 0 rfl, VP.st _ _ _ _ h (ext_alloc _ _)⟩
    | succ j => cases hj⟩⟩
theorem sum_len (b : List UInt8) : (SumM.putB (SumM.ofB b)).length = 4 := SumM.putB_length _
set_option maxRecDepth 100000 in
set_option maxHeartbeats 4000000 in
theorem pput_own (fold : Bool) (ws : List (List UInt8)) (v : Value) (w : World) (hP : VParts ws v w) (h0 : ws.length ≤ 10000) (h1 : ws.flatten.length ≤ 30000) : Calls Try.prog 15 #[.bool fold, v] w (RetP w fun r w' => OwnB w' w.heap.size 5 r (putP fold ws)) := by
  have hm : ∀ b ∈ ws, b.length ≤ most := fun b hb => by
    obtain ⟨j, hj, rfl⟩ := List.getElem_of_mem hb
    have := flat_at hj
    unfold most; omega
  have hn : ws.length ≤ most := by unfold most; omega
  have hnl := putN_most hn
  obtain ⟨i0, hi, hz0, hz1, hz2⟩ := info_parts Dg.Try.infoB
  have hP0 := hP
  obtain ⟨A, c, rfl, hc1, hc2, hx⟩ := VParts.form hP
  unfold maxLen at hc2
  obtain ⟨fb, hfb⟩ : ∃ fb, flagB fold = fb := ⟨_, rfl⟩
  obtain ⟨ao, hao⟩ : ∃ al, magicB ++ [fb] ++ putN ws.length ++ wordsB ws = al := ⟨_, rfl⟩
  obtain ⟨s0, hs0⟩ : ∃ s, SumM.ofB ao = s := ⟨_, rfl⟩
  obtain ⟨sb, hsb0⟩ : ∃ s, SumM.putB s0 = s := ⟨_, rfl⟩
  have hres : putP fold ws = ao ++ sb := by rw [← hsb0, ← hs0, ← hao, ← hfb]; rfl
  have hsb := ofB_bound ao
  have hsl : sb.length = 4 := by rw [← hsb0]; exact SumM.putB_length _
  have haol : ao.length ≤ 80010 := by
    have hlen := words_len_take ws h0 h1 hm ws.length
    rw [List.take_length] at hlen
    rw [← hao]
    simp only [List.length_append, List.length_singleton]
    rw [show magicB.length = 4 from rfl]
    omega
  have hput := fun W => Sm.put_any s0 (by rw [← hs0]; exact hsb.1) (by rw [← hs0]; exact hsb.2) W
  rw [hsb0] at hput
  have hof := fun v W h => of1_any ao v W h
  rw [hs0] at hof
  rw [hres]
  clear hres hsb hs0 hsb0
  have Hao := hide hao
  have Hsl := hide hsl
  have Hm := hide hm
  clear hao hsl
  clear hm
  cases fold
  all_goals
    go_enter Try.func15, Try.ntmps15
    go_upto_region 1 with (fail)
    refine vregion0 2 (by kernel_rfl) ?_
    refine VWalk.litB [84, 83, 76, 49] 23 5 4 _ rfl rfl (by decide) (by decide) rfl Try.underlying23 (by kernel_rfl) (by kernel_rfl) (want_none rfl) ?_
    refine VWalk.markR 23 5 _ rfl Try.underlying23 Try.underlying5 (want_none rfl) (opd_dep 0 8 0 rfl rfl rfl rfl) ?_
    refine ⟨rfl, fun W1 hE1 => ?_⟩
    refine VFin.any fun v1_0 hv1_0 => ?_
    refine VFin.any fun v1_1 hv1_1 => ?_
    refine VFin.nil ?_
    simp only [Act.put, List.setIfInBounds_toArray, List.set_cons_zero, List.set_cons_succ]
    clear hv1_0
    have hP := VP.st _ _ _ _ hP hE1
    have hE := hE1
    have hrow := hv1_1
    obtain ⟨gA, csA, tA, mA, rfl, -⟩ := hv1_1
    clear hP
    go_wp2_with (at_builtin; first | (refine wpList_append_full rfl _ _ 23 rfl 5 i0 (.int .u8 0) Try.underlying23 hi hz0 hz1 hz2 rfl _ _ _ [84, 83, 76, 49] [0] rfl (VP.st _ _ _ _ hrow (ext_alloc _ _)) rfl (one_byte _ _ (by decide) _ _) (by simp) (by simp) ?_; intro v3 w3 hown hgrow) | (refine wpList_append_full rfl _ _ 23 rfl 5 i0 (.int .u8 0) Try.underlying23 hi hz0 hz1 hz2 rfl _ _ _ [84, 83, 76, 49] [1] rfl (VP.st _ _ _ _ hrow (ext_alloc _ _)) rfl (one_byte _ _ (by decide) _ _) (by simp) (by simp) ?_; intro v3 w3 hown hgrow))
    have hE3 : Ext w w3 := below_ng hE hgrow (fun k hk => by cases hk)
    have hown : OwnB w3 w.heap.size 5 v3 (magicB ++ [fb]) := by
      rw [← hfb]
      exact OwnB.low hown (Nat.le_trans hE.size (by simp))
    have hal : (magicB ++ [fb]).length = 5 := rfl
    have hnum := number_own w.heap.size (magicB ++ [fb]) ws.length hn v3 w3 hown hE3.size (by omega)
    have hge3 := OwnB.ge hown
    clear hfb hrow hgrow hE hal hown
    go_wp2_with fail
    refine hnum.mono ?_
    rintro e w4 ⟨v4, rfl, hown, hgrow⟩
    have hE4 : Ext w w4 := hE3.grown hgrow hE3.size (fun j hj => by have := hge3 j hj; omega)
    have HO : Hid (OwnB w4 w.heap.size 5 v4 (magicB ++ [fb] ++ putN ws.length ++ wordsB (ws.take 0))) := by
      rw [List.take_zero]
      show OwnB w4 w.heap.size 5 v4 (magicB ++ [fb] ++ putN ws.length ++ [])
      rw [List.append_nil]
      exact hown
    have HE := hide hE4
    clear hown hgrow hE4 hE3 hge3 hnum
    go_wp2
    go_loopw [5, 23] (fun u i wr => ∃ k : Nat, k ≤ ws.length ∧ i = .int .i64 (k : Int) ∧ Hid (OwnB wr w.heap.size 5 u (magicB ++ [fb] ++ putN ws.length ++ wordsB (ws.take k))) ∧ Hid (Below w.heap.size w wr)) (fun _ i _ => ws.length - (intOf i).toNat)
    case atStart => exact ⟨0, by omega, rfl, HO, HE⟩
    case round =>
      clear HO HE
      obtain ⟨k, hk, rfl, HO, HE⟩ := hrel
      have hEr : Ext w wr := HE.out
      by_cases hlt : k < ws.length
      · obtain ⟨b, off, rfl, hb9, hcell⟩ := hx (by omega)
        obtain ⟨z, hz1', hz2'⟩ := hcell k hlt
        have hz3 := (hEr.cell (p := ⟨b, off + k, none⟩) hb9).trans hz1'
        obtain ⟨A9, c9, rfl, -⟩ := VBytes.form hz2'
        have hwl := flat_at hlt
        have hlen := words_len_take ws h0 h1 Hm.out k
        have Hsn := hide (wordsB_snoc ws k hlt)
        have hal : (magicB ++ [fb] ++ putN ws.length ++ wordsB (ws.take k)).length ≤ 80010 := by
          simp only [List.length_append, List.length_singleton]
          rw [show magicB.length = 4 from rfl]
          omega
        have hkm := Hm.out _ (List.getElem_mem hlt)
        have hpn := putN_most hkm
        have hge := OwnB.ge HO.out
        have hO := HO.out
        obtain ⟨al, hal2⟩ : ∃ al, magicB ++ [fb] ++ putN ws.length ++ wordsB (ws.take k) = al := ⟨_, rfl⟩
        have Hal := hide hal2
        rw [hal2] at hO hal
        have hnum := number_own w.heap.size al ws[k].length hkm _ wr hO hEr.size (by omega)
        clear hcell hz1' hO hal2 HO HE hx
        go_wp2_with fail
        refine hnum.mono ?_
        rintro e w5 ⟨v5, rfl, hown, hgrow⟩
        have hE5 : Ext w w5 := hEr.grown hgrow hEr.size (fun j hj => by have := hge j hj; omega)
        have hw5 := VP.st _ _ _ _ hz2' hE5
        have hge5 := OwnB.ge hown
        clear hnum hgrow hz2' hz3 hge
        go_wp2_with (at_builtin; refine wpList_append_bytes rfl _ _ 23 rfl w.heap.size 5 i0 (.int .u8 0) Try.underlying23 hi hz0 hz1 hz2 rfl _ _ (al ++ putN ws[k].length) ws[k] rfl hown rfl hw5 (by rw [List.length_append]; omega) hE5.size ?_; intro v6 w6 hown6 hgrow6 hat6)
        have hE6 : Ext w w6 := hE5.grown hgrow6 hE5.size (fun j hj => by have := hge5 j hj; omega)
        have HO6 : Hid (OwnB w6 w.heap.size 5 v6 (magicB ++ [fb] ++ putN ws.length ++ wordsB (ws.take (k + 1)))) := by
          show OwnB w6 w.heap.size 5 v6 (magicB ++ [fb] ++ putN ws.length ++ wordsB (ws.take (k + 1)))
          rw [Hsn.out, ← List.append_assoc, ← List.append_assoc, Hal.out]
          exact hown6
        have HE6 := hide hE6
        clear hown6 hgrow6 hat6 hE6 hE5 hw5 hown
        go_wp2
        exact ⟨⟨k + 1, by omega, by go_num, HO6, HE6⟩, by simp [intOf]; omega⟩
      · obtain rfl : k = ws.length := by omega
        have hO := HO.out
        rw [List.take_length, Hao.out] at hO
        obtain ⟨Au, cu, rfl⟩ := OwnB.form hO
        have hge := OwnB.ge hO
        have hof := hof _ _ (parts_new (OwnB.bytes hO) 23)
        have HOO := hide hO
        clear HO HE hO hx
        go_wp2_with fail
        refine hof.mono ?_
        rintro e w7 ⟨u, rfl, hE7, rfl⟩
        clear hof
        go_wp2_with fail
        refine (hput _).mono ?_
        rintro e w8 ⟨s, rfl, hE8, hs⟩
        have hX8 : Ext wr w8 := (ext_alloc _ _).tr (hE7.tr hE8)
        have hO8 := OwnB.st HOO.out hX8
        have hE8' := hEr.tr hX8
        obtain ⟨As, cs, rfl, -⟩ := VBytes.form hs
        clear hE7 hE8 hX8 HOO
        go_wp2_with (at_builtin; refine wpList_append_bytes rfl _ _ 23 rfl w.heap.size 5 i0 (.int .u8 0) Try.underlying23 hi hz0 hz1 hz2 rfl _ _ ao sb rfl hO8 rfl hs (by have := Hsl.out; omega) hE8'.size ?_; intro v9 w9 hown9 hgrow9 hat9)
        have hE9 : Ext w w9 := hE8'.grown hgrow9 hE8'.size (fun j hj => by have := hge j hj; omega)
        go_ret
        exact RetP.mk hE9 hown9
end Go.Proofs.Ytggjkhldknppkaa
