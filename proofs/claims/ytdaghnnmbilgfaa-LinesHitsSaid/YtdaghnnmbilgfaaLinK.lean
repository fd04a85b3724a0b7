/- lines.length and lines.Begins, walked. -/
import Derived.Test.YtdaghnnmbilgfaaLinJ
import Derived.Test.YtdaghnnmbilgfaaRS
namespace Go.Proofs.Ytdaghnnmbilgfaa
open Go.RowKit Go.Shelf LinM
namespace LinM
def lengthC (ws : List (List UInt8)) (i : Int) : Int := if h : i < 0 ∨ (ws.length : Int) ≤ i then 0 else (ws[i.toNat]'(by omega)).length
def beginsC (ws : List (List UInt8)) (bs : List UInt8) (fr : Int) (hs : List (Int × Int)) : List (Int × Int) := hs.map fun h => if mayF fr then placeC bs fr h.1 (lengthC ws h.2) else (0, 0)
end LinM
set_option maxRecDepth 100000 in
set_option maxHeartbeats 2000000 in
theorem length_any (f : Bool) (ws : List (List UInt8)) (i : Int) (u : Value) (w : World) (hS : VSet f ws u w) : Calls Try.prog 26 #[u, .int .i64 i] w (Ret w (VEq (.int .i64 (lengthC ws i)))) := by
  obtain ⟨sl, rfl, hP⟩ := hS
  obtain ⟨A, c, rfl, hc1, hc2, hx⟩ := VParts.form hP
  clear hP
  unfold maxLen at hc2
  have hX : Ext w (w.alloc (.cells #[.bool f, .slice A ws.length c] 39)) := ext_alloc _ _
  have hb := Box.new w 39 #[.bool f, .slice A ws.length c]
  unfold lengthC
  by_cases h1 : i < 0
  · rw [dif_pos (Or.inl h1)]
    clear hx hb
    go_enter Try.func26, Try.ntmps26
    go_wp2
    go_ret
    exact Ret.mk hX rfl
  by_cases h2 : (ws.length : Int) ≤ i
  · rw [dif_pos (Or.inr h2)]
    clear hx hb
    go_enter Try.func26, Try.ntmps26
    go_wp2
    go_ret
    exact Ret.mk hX rfl
  rw [dif_neg (by omega)]
  obtain ⟨k, rfl⟩ : ∃ k : Nat, i = (k : Int) := ⟨i.toNat, by omega⟩
  have hk : k < ws.length := by omega
  simp only [Int.toNat_natCast]
  obtain ⟨b, off, rfl, hbl, hcell⟩ := hx (by omega)
  obtain ⟨z, hz, hzb⟩ := hcell k hk
  have hz2 := (hX.cell (p := ⟨b, off + k, none⟩) hbl).trans hz
  obtain ⟨A3, c3, rfl, -⟩ := VBytes.form hzb
  clear hx hcell hz hzb hb
  generalize ws[k].length = n at *
  go_enter Try.func26, Try.ntmps26
  go_wp2
  go_ret
  exact Ret.mk hX rfl
section
variable {P : Program} {Q : Exit → Act → World → Prop} {ops : Array Oper} {M m : Nat} {a0 : Act} {w0 : World} {K : List Oper → List VP → Prop} {o : Oper} {rest : List Oper} {env : List VP}
theorem VWalk.index2E {bl off n c : Nat} (t e : TypeId) (x y : Operand) (k : IntKind) (i : Nat) (ho : o.op = .indexAddr t x y) (hu : P.underlying t = some (.slice e)) (hsz : (P.info? e).map (·.size) = some 2)
    (hw : Want ops M a0 w0 env o true) (hx : Opd ops M a0 w0 env o x (VEq (.slice (some ⟨bl, off, none⟩) n c))) (hy : Opd ops M a0 w0 env o y (VEq (.int k (i : Int)))) (hlt : i < n)
    (hr : VWalk P Q ops M a0 w0 K m rest (VEq (.pointer (some ⟨bl, off + i * 2, none⟩)) :: env)) : VWalk P Q ops M a0 w0 K (m + 1) (o :: rest) env :=
  .det2 x y hw hx hy (fun ρ w _ hA hY => by
    have he : P.elem t = e := by unfold Program.elem; rw [hu]
    cases hi' : P.info? e with
    | none => simp [hi'] at hsz
    | some ie =>
      simp only [hi', Option.map_some, Option.some.injEq] at hsz
      have hu' : P.underlying t = some (.slice (P.elem t)) := by rw [he]; exact hu
      unfold execOp
      simp [ho, hA, hY, run_indexAt_slice (h := hu'), hu, sizeOf, typeInfo, hi', hsz, hlt, addr_add, go_sem, Result.andThen]) hr
end
theorem lengthC_rng {ws : List (List UInt8)} {sl : Value} {w : World} (h : VParts ws sl w) (i : Int) : 0 ≤ lengthC ws i ∧ lengthC ws i ≤ 9223372036854775807 := by
  unfold lengthC
  split
  · omega
  · rename_i hi
    obtain ⟨A, c, -, hc1, hc2, hx⟩ := VParts.form h
    obtain ⟨b, off, -, -, hcell⟩ := hx (by omega)
    obtain ⟨z, -, hzb⟩ := hcell i.toNat (by omega)
    obtain ⟨A3, c3, -, h1, h2, -⟩ := VBytes.form hzb
    unfold maxLen at h2
    omega
set_option maxRecDepth 100000 in
set_option maxHeartbeats 2000000 in
theorem begins_any (f : Bool) (ws : List (List UInt8)) (bs : List UInt8) (fr : Int) (hs : List (Int × Int)) (u v hv : Value) (w : World) (hS : VSet f ws u w) (hB : VBytes bs v w) (hH : VPairs hs hv w) (hlen : bs.length ≤ 1000000) (hn : hs.length ≤ 1000000) (hrng : ∀ h ∈ hs, -9223372036854775808 ≤ h.1 ∧ h.1 ≤ 9223372036854775807) :
    Calls Try.prog 14 #[u, v, .int .i64 fr, hv] w (Ret w (VPairs (beginsC ws bs fr hs))) := by
  obtain ⟨sl, rfl, hP⟩ := hS
  have hlr := lengthC_rng hP
  have hX0 : Ext w (w.alloc (.cells #[.bool f, sl] 39)) := ext_alloc _ _
  have hb0 := Box.new w 39 #[.bool f, sl]
  obtain ⟨i0, hi, hz0, hz1, hz2⟩ := info_parts Try.infoP
  have hmay := may_any fr
  obtain ⟨res, hres⟩ : ∃ res, beginsC ws bs fr hs = res := ⟨_, rfl⟩
  rw [hres]
  have Hres := hide hres
  clear hres
  have hB0 := hB
  obtain ⟨A, c, rfl, -⟩ := VBytes.form hB
  obtain ⟨A2, c2, rfl, hd1, hd2, hx⟩ := VPairs.form hH
  clear hB
  unfold maxLen at hd2
  go_enter Try.func14, Try.ntmps14
  obtain ⟨w1, hrun, hown, hgrow⟩ := run_make_full (P := Try.prog) (w.alloc (.cells #[.bool f, sl] 39)) w.heap.size 44 27 i0 (.agg #[.int .i64 0, .int .i64 0]) 2 Try.underlying44 hi hz0 hz1 .i64 .i64 hs.length (by rw [hz2]; omega) (by unfold maxLen; omega) (by simp)
  have hE01 := ext_of_grown hgrow rfl
  rw [World.size_alloc] at hrun hown
  have hE1 : Ext w w1 := hX0.tr hE01
  have hb1 := hb0.ext hE01
  clear hb0 hX0 hE01
  obtain ⟨cs, hbx, hrow⟩ := VPairs.made hown
  clear hown hgrow hi hz0 hz1 hz2
  go_wp2_with fail
  clear hrun
  refine (hmay _).mono ?_
  rintro e w2 ⟨u, rfl, hE2, rfl⟩
  have hX2 : Ext w w2 := hE1.tr hE2
  have hbx2 := hbx.ext hE2
  have hset := hb1.ext hE2
  clear hb1
  have hu : (decide (0 ≤ fr) && decide (fr ≤ 4611686018427387904)) = mayF fr := rfl
  rw [hu]
  clear hmay hbx hE1 hE2 hu
  cases hf : mayF fr
  · have hr2 : res = List.replicate hs.length (0, 0) := by rw [← Hres.out]; unfold beginsC; rw [hf]; simp only [Bool.false_eq_true, if_false]; exact List.map_const' ..
    have Hr := hide (PRow.pairs (n := hs.length) hrow hbx2 (by simp) (by unfold maxLen; omega))
    rw [← hr2] at Hr
    clear Hres
    clear hr2 hf hrow hbx2 hx
    go_wp2
    go_ret
    exact Ret.mk hX2 Hr.out
  · have hf2 : 0 ≤ fr ∧ fr ≤ 4611686018427387904 := by unfold mayF at hf; simpa using hf
    have Hres := hide (show hs.map (fun h => placeC bs fr h.1 (lengthC ws h.2)) = res by rw [← Hres.out]; unfold beginsC; rw [hf]; simp)
    clear hf
    have HB := hide (VP.st _ _ _ _ hB0 hX2)
    have hlay := fun w' hB => lay_any bs fr (.slice A bs.length c) w' hB hlen
    go_wp2_with fail
    refine (hlay _ HB.out).mono ?_
    rintro e w3 ⟨g, sv, rfl, hE3, hg0, hlb, hsv⟩
    have hX3 := hX2.tr hE3
    have hbx3 := hbx2.ext hE3
    have HT := hide (hset.ext hE3)
    clear hset
    have hgs : w.heap.size + 1 < g := Nat.lt_of_lt_of_le hbx2.lt hg0
    have hsv : OwnI w3 (w.heap.size + 2) 3 sv (begC bs) := own_low hsv hbx2.lt
    clear hlay HB hbx2 hE3 hX2 hB0 hg0
    have HL := hide hlb
    have HS := hide hsv
    have HX := hide hX3
    have HB := hide hbx3
    have HR := hide hrow
    clear hlb hsv hX3 hbx3 hrow
    go_wp2
    go_loopw [25] (fun i wr => ∃ (k : Nat) (cs : Array Value), k ≤ hs.length ∧ i = .int .i64 (k : Int) ∧ Hid (Box wr (w.heap.size + 1) 27 cs) ∧ Hid (PRow cs (res.take k ++ List.replicate (hs.length - k) (0, 0))) ∧ Hid (Box wr g 74 #[.int .i64 fr, .int .i64 (bs.length : Int), sv]) ∧ Hid (OwnI wr (w.heap.size + 2) 3 sv (begC bs)) ∧ Hid (Box wr w.heap.size 39 #[.bool f, sl]) ∧ Hid (Below w.heap.size w wr)) (fun i _ => hs.length - (intOf i).toNat)
    case atStart => exact ⟨0, cs, by omega, rfl, HB, HR, HL, HS, HT, HX⟩
    case round =>
      clear HL HS HX HB HR HT
      obtain ⟨k, cs, hk, rfl, HB, HR, HL, HS, HT, HX⟩ := hrel
      by_cases hlt : k < hs.length
      · obtain ⟨b, off, rfl, hb, hcell⟩ := hx (by omega)
        obtain ⟨hc1, hc2⟩ := hcell k hlt
        have hc3 := (HX.out.cell (p := ⟨b, off + k * 2, none⟩) hb).trans hc1
        have hc4 := (HX.out.cell (p := ⟨b, off + k * 2 + 1, none⟩) hb).trans hc2
        have hr1 := hrng hs[k] (List.getElem_mem hlt)
        have Hk := hide (show res.take (k + 1) = res.take k ++ [placeC bs fr hs[k].1 (lengthC ws hs[k].2)] by rw [← Hres.out, List.take_succ_eq_append_getElem (by simpa using hlt)]; simp)
        obtain ⟨p1, p2⟩ := hr1
        generalize hs[k].1 = x at *
        generalize hs[k].2 = y at *
        clear hcell hx hc1 hc2 hrng
        have hly := hlr y
        have hpl := fun w' hb hV => place_any bs fr x (lengthC ws y) g sv w' hb hV hlen hf2.1 hf2.2 p1 p2 hly.1 hly.2
        have hln := fun u w' hS => length_any f ws y u w' hS
        have hrl : res.length = hs.length := by rw [← Hres.out]; simp
        have hcl : (res.take k ++ List.replicate (hs.length - k) ((0 : Int), (0 : Int))).length = hs.length := by
          rw [List.length_append, List.length_take, List.length_replicate, hrl]; omega
        obtain ⟨z1, z2, hq1, hq2⟩ : ∃ z1 z2, cs[k * 2]? = some z1 ∧ cs[k * 2 + 1]? = some z2 := ⟨_, _, HR.out.2 k (by rw [hcl]; exact hlt)⟩
        have Hcl := hide hcl
        have Hrl := hide hrl
        clear hcl hrl
        have Hset := hide (show (res.take k ++ List.replicate (hs.length - k) ((0 : Int), (0 : Int))).set k (placeC bs fr x (lengthC ws y)) = res.take (k + 1) ++ List.replicate (hs.length - (k + 1)) (0, 0) from set_next res k hs.length hlt Hrl.out _ Hk.out)
        unfold plcV at hpl
        generalize placeC bs fr x (lengthC ws y) = q at *
        obtain ⟨q1, q2⟩ := q
        dsimp only at hpl
        generalize lengthC ws y = ly at *
        have hE0 := ext_alloc wr (.cells #[.int .i64 x, .int .i64 y] 48)
        have hhit := Box.new wr 48 #[.int .i64 x, .int .i64 y]
        have hset := HT.out.alloc (.cells #[.int .i64 x, .int .i64 y] 48)
        have hPw : VParts ws sl (wr.alloc (.cells #[.int .i64 x, .int .i64 y] 48)) := VP.st _ _ _ _ hP (Ext.tr (show Ext w wr from HX.out) hE0)
        have hLw := HL.out.alloc (.cells #[.int .i64 x, .int .i64 y] 48)
        have hSw : VInts (begC bs) sv (wr.alloc (.cells #[.int .i64 x, .int .i64 y] 48)) := VP.st _ _ _ _ (OwnI.ints HS.out) hE0
        go_upto_region 8 with (fail)
        refine vregion 11 [] (by kernel_rfl) (by kernel_rfl) (fun _ _ _ _ _ h => h) ?_
        refine VWalk.move _ rfl (want_none rfl) (opd_frame 9 rfl (by kernel_rfl)) ?_
        refine VWalk.move _ rfl (want_none rfl) (opd_frame 11 rfl (by kernel_rfl)) ?_
        refine VWalk.move _ rfl (want_none rfl) (opd_frame 10 rfl (by kernel_rfl)) ?_
        refine VWalk.det1 (r := .pointer (some ⟨wr.heap.size, 0, none⟩)) (Operand.tmp 12) (want_none rfl) (opd_frame 12 rfl (by kernel_rfl)) (fun ρ w hE h1 => by simp [execOp, h1, go_sem]) ?_
        refine VWalk.load1 3 _ rfl (want_none rfl) (opd_dep 3 33 0 rfl rfl rfl rfl) (fun _ => by kernel_rfl) (hhit.at_ 0 rfl) (ext_drew _) ?_
        refine VWalk.loadBox 39 _ rfl (want_none rfl) (opd_frame 4 rfl (by kernel_rfl)) Try.underlying39 rfl (by kernel_rfl) hset (ext_drew _) ?_
        refine VWalk.det1 (r := .pointer (some ⟨wr.heap.size, 1, none⟩)) (Operand.tmp 12) (want_none rfl) (opd_frame 12 rfl (by kernel_rfl)) (fun ρ w hE h1 => by simp [execOp, h1, go_sem]) ?_
        refine VWalk.load1 3 _ rfl (want_none rfl) (opd_dep 6 36 0 rfl rfl rfl rfl) (fun _ => by kernel_rfl) (hhit.at_ 1 rfl) (ext_drew _) ?_
        refine VWalk.call2 26 _ _ _ rfl (enters_of Try.func26 (by kernel_rfl) rfl) (want_none rfl) (opd_dep 5 35 2 rfl rfl rfl rfl) (opd_dep 7 37 0 rfl rfl rfl rfl) (fun u v W hX hu hv => by rw [show u = _ from hu, show v = _ from hv]; exact hln _ W ⟨_, rfl, VP.st _ _ _ _ hPw ((ext_drew _).tr hX)⟩) ?_
        refine VWalk.call3 25 _ _ _ _ rfl (enters_of Try.func25 (by kernel_rfl) rfl) (want_none rfl) (opd_dep 2 32 6 rfl rfl rfl rfl) (opd_dep 4 34 4 rfl rfl rfl rfl) (opd_dep 8 38 0 rfl rfl rfl rfl) (fun a b c W hX ha hb hc => by rw [show a = _ from ha, show b = _ from hb, show c = _ from hc]; exact hpl W (hLw.ext ((ext_drew _).tr hX)) (VP.st _ _ _ _ hSw ((ext_drew _).tr hX))) ?_
        refine VWalk.index2E 44 27 _ _ .i64 k rfl Try.underlying44 (by kernel_rfl) (want_none rfl) (opd_dep 0 30 9 rfl rfl rfl rfl) (opd_dep 1 31 8 rfl rfl rfl rfl) hlt ?_
        refine ⟨rfl, fun W8 hE8 => ?_⟩
        refine VFin.eq ?_  -- 0
        refine VFin.eq ?_  -- 1
        refine VFin.eq ?_  -- 2
        refine VFin.eq ?_  -- 3
        refine VFin.eq ?_  -- 4
        refine VFin.eq ?_  -- 5
        refine VFin.eq ?_  -- 6
        refine VFin.eq ?_  -- 7
        refine VFin.eq ?_  -- 8
        refine VFin.eq ?_  -- 9
        refine VFin.eq ?_  -- 10
        refine VFin.nil ?_
        simp only [Act.put, List.setIfInBounds_toArray, List.set_cons_zero, List.set_cons_succ]
        have hset := hset.drew.ext hE8
        have hE := ((ext_drew _).tr hE8)
        try simp only [Nat.zero_add]
        have HX4 : Hid (Below w.heap.size w W8) := hide (HX.out.trans ((hE0.tr hE).mono HX.out.size))
        have HB4 := hide ((HB.out.alloc (.cells #[.int .i64 x, .int .i64 y] 48)).ext hE)
        have HL4 := hide (hLw.ext hE)
        have HS4 := hide (own_st (own_st HS.out hE0) hE)
        have HT4 := hide hset
        have hd0 := (HB4.out.cell (k * 2)).trans hq1
        have hd1 := (HB4.out.cell (k * 2 + 1)).trans hq2
        have hf0 := HB4.out.frozen (k * 2)
        have hf1 := HB4.out.frozen (k * 2 + 1)
        clear hE hE8 hE0 hhit hset hPw hLw hSw hpl hln hq1 hq2 HX HL HS HB HT
        go_wp2
        have hgn := own_ne HS4.out (k := w.heap.size + 1) (by omega)
        refine ⟨⟨k + 1, _, by omega, by go_num, hide ((HB4.out.set_ (k * 2) (.int .i64 q1)).set_ (k * 2 + 1) (.int .i64 q2)), hide ?_, hide ((HL4.out.far (p := ⟨w.heap.size + 1, k * 2, none⟩) (by show g ≠ w.heap.size + 1; omega) _).far (p := ⟨w.heap.size + 1, k * 2 + 1, none⟩) (by show g ≠ w.heap.size + 1; omega) _), hide (own_set (own_set HS4.out ⟨w.heap.size + 1, k * 2, none⟩ hgn _) ⟨w.heap.size + 1, k * 2 + 1, none⟩ hgn _), hide ((HT4.out.far (p := ⟨w.heap.size + 1, k * 2, none⟩) (by show w.heap.size ≠ w.heap.size + 1; omega) _).far (p := ⟨w.heap.size + 1, k * 2 + 1, none⟩) (by show w.heap.size ≠ w.heap.size + 1; omega) _), hide ((HX4.out.setCell (p := ⟨w.heap.size + 1, k * 2, none⟩) (Nat.le_succ _) _).setCell (p := ⟨w.heap.size + 1, k * 2 + 1, none⟩) (Nat.le_succ _) _)⟩, by simp [intOf]; omega⟩
        rw [← Hset.out]
        exact PRow.set HR.out k (by rw [Hcl.out]; exact hlt) (q1, q2)
      · obtain rfl : k = hs.length := by omega
        have hl : res.length = hs.length := by rw [← Hres.out]; simp
        have Ho := hide (PRow.pairs HR.out HB.out (n := hs.length) (by simp [hl]) (by unfold maxLen; omega))
        have he : res.take hs.length ++ List.replicate (hs.length - hs.length) (0, 0) = res := by rw [← hl]; simp
        have Ho2 : Hid (VPairs res (.slice (some ⟨w.heap.size + 1, 0, none⟩) hs.length hs.length) wr) := hide (by have := Ho.out; rwa [he] at this)
        clear he hl Ho hx
        go_wp2
        go_ret
        exact Ret.mk HX.out Ho2.out
end Go.Proofs.Ytdaghnnmbilgfaa
