/- The document's hits: lengths, which one is less, one more put in its place. -/
import Derived.Test.YtdaghnnmbilgfaaLinN
import Derived.Test.YtdaghnnmbilgfaaRH
namespace Go.Proofs.Ytdaghnnmbilgfaa
open Go.RowKit Go.Shelf LinM LetM SetM
def VBool : VP := ⟨fun u _ => ∃ b, u = .bool b, fun _ _ _ h _ => h⟩
def cellsH (hs : List (Int × Int)) : List Value := hs.flatMap fun h => [.int .i64 h.1, .int .i64 h.2]
theorem cellsH_append (a b : List (Int × Int)) : cellsH (a ++ b) = cellsH a ++ cellsH b := by unfold cellsH; rw [List.flatMap_append]
theorem cellsH_len (hs : List (Int × Int)) : (cellsH hs).length = hs.length * 2 := by
  unfold cellsH
  induction hs with
  | nil => rfl
  | cons h hs ih => rw [List.flatMap_cons, List.length_append, ih, List.length_cons]; simp; omega
theorem cellsH_one (hs : List (Int × Int)) : ∀ y ∈ cellsH hs, y.oneCell' = true := by
  intro y hy
  unfold cellsH at hy
  obtain ⟨h, _, h2⟩ := List.mem_flatMap.1 hy
  rcases List.mem_cons.1 h2 with rfl | h3
  · rfl
  · rw [List.mem_singleton] at h3; subst h3; rfl
theorem cellsH_at : ∀ (hs : List (Int × Int)) (j : Nat) (h : j < hs.length), (cellsH hs)[j * 2]? = some (.int .i64 hs[j].1) ∧ (cellsH hs)[j * 2 + 1]? = some (.int .i64 hs[j].2)
  | [], j, h => by simp at h
  | x :: hs, 0, h => ⟨rfl, rfl⟩
  | x :: hs, j + 1, h => by
    have := cellsH_at hs j (by simpa using h)
    have e : cellsH (x :: hs) = .int .i64 x.1 :: .int .i64 x.2 :: cellsH hs := rfl
    rw [e, show (j + 1) * 2 = j * 2 + 1 + 1 by omega]
    simpa using this
theorem cellsH_get (hs : List (Int × Int)) (j : Nat) (x : Value) (h : (cellsH hs)[j]? = some x) : ∃ i, ∃ hi : i < hs.length, (j = i * 2 ∧ x = .int .i64 hs[i].1) ∨ (j = i * 2 + 1 ∧ x = .int .i64 hs[i].2) := by
  have hl : j < hs.length * 2 := by rw [← cellsH_len]; exact (List.getElem?_eq_some_iff.1 h).1
  have hi : j / 2 < hs.length := by omega
  obtain ⟨h1, h2⟩ := cellsH_at hs (j / 2) hi
  refine ⟨j / 2, hi, ?_⟩
  rcases Nat.mod_two_eq_zero_or_one j with e | e
  · left
    have e2 : j = j / 2 * 2 := by omega
    rw [e2, h1] at h
    exact ⟨e2, by simpa using h.symm⟩
  · right
    have e2 : j = j / 2 * 2 + 1 := by omega
    rw [e2, h2] at h
    exact ⟨e2, by simpa using h.symm⟩
/-- A row of hits of one's own. -/
def OwnH (w : World) (base : Nat) (v : Value) (hs : List (Int × Int)) : Prop := w.ownsRow base 48 2 v hs.length (cellsH hs)
theorem OwnH.nil (w : World) (base : Nat) : OwnH w base (.slice none 0 0) [] := World.ownsRow_nil w base _ 2
theorem OwnH.pairs {w : World} {base : Nat} {v : Value} {hs : List (Int × Int)} (h : OwnH w base v hs) : VPairs hs v w := by
  obtain ⟨_, ⟨rfl, h0⟩ | ⟨g, cap, cur, rfl, hb, hcells, hl, hm, hsz, htk⟩⟩ := h
  · obtain rfl : hs = [] := List.eq_nil_of_length_eq_zero h0
    exact ⟨none, 0, rfl, Nat.le_refl _, by decide, fun h => by simp at h⟩
  · refine ⟨_, _, rfl, hl, hm, fun hp => ⟨g, 0, rfl, (Array.getElem?_eq_some_iff.1 hcells).1, fun j hj => ?_⟩⟩
    have at_ : ∀ i x, i < hs.length * 2 → (cellsH hs)[i]? = some x → w.cell? ⟨g, 0 + i, none⟩ = some x := fun i x hi hx => by
      rw [Nat.zero_add, (show Box w g _ cur from hcells).cell i]
      rw [← htk, List.getElem?_take, if_pos hi, Array.getElem?_toList] at hx
      exact hx
    obtain ⟨h1, h2⟩ := cellsH_at hs j hj
    exact ⟨at_ _ _ (by omega) h1, at_ _ _ (by omega) h2⟩
theorem Src.pairs {hs : List (Int × Int)} {A : Option Addr} {c m lo : Nat} {w : World} (h : VPairs hs (.slice A hs.length c) w) (A' : Option Addr) (c' : Nat) (hm : lo + m ≤ hs.length) (hA : 0 < m → ∀ b off, A = some ⟨b, off, none⟩ → A' = some ⟨b, off + lo * 2, none⟩) : Src w (.slice A' m c') m (cellsH ((hs.drop lo).take m)) := by
  obtain ⟨A2, c2, e, h1, h2, h3⟩ := h
  cases e
  refine ⟨A', c', rfl, fun hp => ?_⟩
  obtain ⟨b, off, e, hb, hc⟩ := h3 (by omega)
  refine ⟨b, off + lo * 2, hA hp b off e, fun j x hx => ?_⟩
  obtain ⟨i, hi, h4⟩ := cellsH_get _ j x hx
  have hi2 : lo + i < hs.length := by simp at hi; omega
  have hg : ((hs.drop lo).take m)[i] = hs[lo + i] := by simp
  obtain ⟨h5, h6⟩ := hc (lo + i) hi2
  rw [hg] at h4
  rcases h4 with ⟨rfl, rfl⟩ | ⟨rfl, rfl⟩
  · rw [show off + lo * 2 + i * 2 = off + (lo + i) * 2 by omega]; exact h5
  · rw [show off + lo * 2 + (i * 2 + 1) = off + (lo + i) * 2 + 1 by omega]; exact h6
set_option maxRecDepth 100000 in
set_option maxHeartbeats 2000000 in
theorem rlength_any (f : Bool) (ws : List (List UInt8)) (i : Int) (u : Value) (w : World) (hS : VSet f ws u w) : Calls Try.prog 37 #[u, .int .i64 i] w (Ret w (VEq (.int .i64 (lengthC ws i)))) := by
  obtain ⟨sl, rfl, hP⟩ := hS
  obtain ⟨A, c, rfl, hc1, hc2, hx⟩ := VParts.form hP
  clear hP
  unfold maxLen at hc2
  have hX : Ext w (w.alloc (.cells #[.bool f, .slice A ws.length c] 39)) := ext_alloc _ _
  have hb := Box.new w 39 #[.bool f, .slice A ws.length c]
  unfold lengthC
  by_cases h1 : i < 0
  · rw [dif_pos (Or.inl h1)]
    clear hx hb
    go_enter Try.func37, Try.ntmps37
    go_wp2
    go_ret
    exact Ret.mk hX rfl
  by_cases h2 : (ws.length : Int) ≤ i
  · rw [dif_pos (Or.inr h2)]
    clear hx hb
    go_enter Try.func37, Try.ntmps37
    go_wp2
    go_ret
    exact Ret.mk hX rfl
  rw [dif_neg (by omega)]
  obtain ⟨k, rfl⟩ : ∃ k : Nat, i = (k : Int) := ⟨i.toNat, by omega⟩
  have hk : k < ws.length := by omega
  simp only [Int.toNat_natCast]
  obtain ⟨b, off, rfl, hbl, hcell⟩ := hx (by omega)
  obtain ⟨z, hz, hzb⟩ := hcell k hk
  have hz2 := (hX.cell (p := ⟨b, off + k, none⟩) hbl).trans hz
  obtain ⟨A3, c3, rfl, -⟩ := VBytes.form hzb
  clear hx hcell hz hzb hb
  generalize ws[k].length = n at *
  go_enter Try.func37, Try.ntmps37
  go_wp2
  go_ret
  exact Ret.mk hX rfl
set_option maxRecDepth 100000 in
set_option maxHeartbeats 2000000 in
theorem less_any (f : Bool) (ws : List (List UInt8)) (a b : Int × Int) (u : Value) (w : World) (hS : VSet f ws u w) : Calls Try.prog 31 #[u, plcV a, plcV b] w (Ret w VBool) := by
  have hln := rlength_any f ws
  have hS0 := hS
  obtain ⟨sl, rfl, hP⟩ := hS
  obtain ⟨A, c, rfl, -⟩ := VParts.form hP
  clear hP
  obtain ⟨a1, a2⟩ := a
  obtain ⟨b1, b2⟩ := b
  unfold plcV
  dsimp only
  have hX : Ext w (((w.alloc (.cells #[.bool f, .slice A ws.length c] 39)).alloc (.cells #[.int .i64 a1, .int .i64 a2] 48)).alloc (.cells #[.int .i64 b1, .int .i64 b2] 48)) := ((ext_alloc _ _).tr (ext_alloc _ _)).tr (ext_alloc _ _)
  have hb3 := ((Box.new w 39 #[.bool f, .slice A ws.length c]).alloc (.cells #[.int .i64 a1, .int .i64 a2] 48)).alloc (.cells #[.int .i64 b1, .int .i64 b2] 48)
  have hb4 := (Box.new (w.alloc (.cells #[.bool f, .slice A ws.length c] 39)) 48 #[.int .i64 a1, .int .i64 a2]).alloc (.cells #[.int .i64 b1, .int .i64 b2] 48)
  have hb5 := Box.new ((w.alloc (.cells #[.bool f, .slice A ws.length c] 39)).alloc (.cells #[.int .i64 a1, .int .i64 a2] 48)) 48 #[.int .i64 b1, .int .i64 b2]
  rw [World.size_alloc] at hb4 hb5
  rw [World.size_alloc] at hb5
  by_cases h1 : a1 = b1
  case neg =>
    have h1' : (a1 == b1) = false := by rw [beq_eq_false_iff_ne]; exact h1
    clear h1 hb3 hb4 hb5 hS0 hln
    go_enter Try.func31, Try.ntmps31
    go_wp2
    go_ret
    exact Ret.mk hX ⟨_, rfl⟩
  subst h1
  go_enter Try.func31, Try.ntmps31
  have hS1 := VP.st _ _ _ _ hS0 hX
  have hE := hX
  go_upto_region 3 with (fail)
  refine vregion 8 [] (by kernel_rfl) (by kernel_rfl) (fun _ _ _ _ _ h => h) ?_
  refine VWalk.loadBox 39 _ rfl (want_none rfl) (opd_frame 3 rfl (by kernel_rfl)) Try.underlying39 rfl (by kernel_rfl) hb3 (ext_drew _) ?_
  refine VWalk.det1 (Operand.tmp 4) (want_none rfl) (opd_frame 4 rfl (by kernel_rfl)) (fun ρ w hE h1 => by simp [execOp, h1, go_sem]; rfl) ?_
  refine VWalk.load1 3 _ rfl (want_none rfl) (opd_dep 1 20 0 rfl rfl rfl rfl) (fun _ => by kernel_rfl) (hb4.at_ 1 rfl) (ext_drew _) ?_
  refine VWalk.call2 37 _ _ _ rfl (enters_of Try.func37 (by kernel_rfl) rfl) (want_none rfl) (opd_dep 0 19 2 rfl rfl rfl rfl) (opd_dep 2 21 0 rfl rfl rfl rfl) (fun u v W hX hu hv => by rw [show u = _ from hu, show v = _ from hv]; exact hln a2 _ W (VP.st _ _ _ _ hS1 ((ext_drew _).tr hX))) ?_
  refine VWalk.loadBox 39 _ rfl (want_none rfl) (opd_frame 3 rfl (by kernel_rfl)) Try.underlying39 rfl (by kernel_rfl) hb3 (ext_drew _) ?_
  refine VWalk.det1 (Operand.tmp 5) (want_none rfl) (opd_frame 5 rfl (by kernel_rfl)) (fun ρ w hE h1 => by simp [execOp, h1, go_sem]; rfl) ?_
  refine VWalk.load1 3 _ rfl (want_none rfl) (opd_dep 5 24 0 rfl rfl rfl rfl) (fun _ => by kernel_rfl) (hb5.at_ 1 rfl) (ext_drew _) ?_
  refine VWalk.call2 37 _ _ _ rfl (enters_of Try.func37 (by kernel_rfl) rfl) (want_none rfl) (opd_dep 4 23 2 rfl rfl rfl rfl) (opd_dep 6 25 0 rfl rfl rfl rfl) (fun u v W hX hu hv => by rw [show u = _ from hu, show v = _ from hv]; exact hln b2 _ W (VP.st _ _ _ _ hS1 ((ext_drew _).tr hX))) ?_
  refine ⟨rfl, fun W3 hE3 => ?_⟩
  refine VFin.eq ?_  -- 0
  refine VFin.eq ?_  -- 1
  refine VFin.eq ?_  -- 2
  refine VFin.eq ?_  -- 3
  refine VFin.eq ?_  -- 4
  refine VFin.eq ?_  -- 5
  refine VFin.eq ?_  -- 6
  refine VFin.eq ?_  -- 7
  refine VFin.nil ?_
  simp only [Act.put, List.setIfInBounds_toArray, List.set_cons_zero, List.set_cons_succ]
  have hb3 := hb3.drew.ext hE3
  have hb4 := hb4.drew.ext hE3
  have hb5 := hb5.drew.ext hE3
  have hE := hE.tr ((ext_drew _).tr hE3)
  have hE3 := hE
  have hc4 := hb4.at_ 1 rfl
  have hc5 := hb5.at_ 1 rfl
  clear hb3 hb4 hb5 hS1 hS0 hln hX hE
  generalize lengthC ws a2 = x at *
  generalize lengthC ws b2 = y at *
  by_cases h2 : x = y
  · subst h2
    go_wp2
    go_ret
    exact Ret.mk hE3 ⟨_, rfl⟩
  · have h2' : (x == y) = false := by rw [beq_eq_false_iff_ne]; exact h2
    clear h2 hc4 hc5
    go_wp2
    go_ret
    exact Ret.mk hE3 ⟨_, rfl⟩
theorem put_len (hs : List (Int × Int)) (k : Nat) (h : Int × Int) (hk : k ≤ hs.length) : (hs.take k ++ h :: hs.drop k).length = 0 + k + 1 + (hs.length - k) := by simp; omega
theorem put_cells (hs : List (Int × Int)) (k : Nat) (h1 h2 : Int) : cellsH (hs.take k ++ (h1, h2) :: hs.drop k) = [] ++ cellsH (hs.take k) ++ [.int .i64 h1, .int .i64 h2] ++ cellsH (hs.drop k) := by
  rw [cellsH_append, List.nil_append, List.append_assoc]; rfl
theorem Try.infoH : (Try.prog.info? 48).map (fun i => (i.zero, i.size, i.bytes)) = some (some (.agg #[.int .i64 0, .int .i64 0]), 2, 16) := by kernel_rfl
set_option maxRecDepth 100000 in
set_option maxHeartbeats 2000000 in
theorem put_any (f : Bool) (ws : List (List UInt8)) (hs : List (Int × Int)) (h : Int × Int) (u v : Value) (w : World) (hS : VSet f ws u w) (hH : VPairs hs v w) (hn : hs.length ≤ 1000000) : Calls Try.prog 22 #[u, v, plcV h] w (RetP w fun r w' => ∃ k, k ≤ hs.length ∧ OwnH w' w.heap.size r (hs.take k ++ h :: hs.drop k)) := by
  have hls := fun b u W hS => less_any f ws h b u W hS
  have hS0 := hS
  have hH0 := hH
  obtain ⟨i0, hi, hz0, hz1, hz2⟩ := info_parts Try.infoH
  obtain ⟨sl, rfl, hP⟩ := hS
  obtain ⟨A, c, rfl, -⟩ := VParts.form hP
  obtain ⟨B, d, rfl, hd1, hd2, hx⟩ := VPairs.form hH
  unfold maxLen at hd2
  clear hP hH
  obtain ⟨h1, h2⟩ := h
  unfold plcV at *
  dsimp only at *
  have hX : Ext w ((w.alloc (.cells #[.bool f, .slice A ws.length c] 39)).alloc (.cells #[.int .i64 h1, .int .i64 h2] 48)) := (ext_alloc _ _).tr (ext_alloc _ _)
  have hb3 := (Box.new w 39 #[.bool f, .slice A ws.length c]).alloc (.cells #[.int .i64 h1, .int .i64 h2] 48)
  have hb5 := Box.new (w.alloc (.cells #[.bool f, .slice A ws.length c] 39)) 48 #[.int .i64 h1, .int .i64 h2]
  rw [World.size_alloc] at hb5
  have HX := hide hX
  have HB3 := hide hb3
  have HB5 := hide hb5
  clear hX hb3 hb5
  go_enter Try.func22, Try.ntmps22
  go_wp2
  go_loopw [7] (fun i wr => ∃ k : Nat, k ≤ hs.length ∧ i = .int .i64 (k : Int) ∧ Hid (Below w.heap.size w wr) ∧ Hid (Box wr w.heap.size 39 #[.bool f, .slice A ws.length c]) ∧ Hid (Box wr (w.heap.size + 1) 48 #[.int .i64 h1, .int .i64 h2])) (fun i _ => (intOf i).toNat)
  case atStart => exact ⟨hs.length, Nat.le_refl _, rfl, HX, HB3, HB5⟩
  case round =>
    clear HX HB3 HB5
    obtain ⟨k, hk, rfl, HE, HA, HB⟩ := hrel
    have hE : Ext w wr := HE.out
    by_cases h0 : 0 < k
    · have hb3 := HA.out
      have hb5 := HB.out
      have hH := VP.st _ _ _ _ hH0 hE
      have hS1 := VP.st _ _ _ _ hS0 hE
      have hk1 : (k : Int) - 1 = ((k - 1 : Nat) : Int) := by omega
      have hk2 : k - 1 < hs.length := by omega
      clear HA HB
      go_upto_region 2 with (fail)
      refine vregion 12 [] (by kernel_rfl) (by kernel_rfl) (fun _ _ _ _ _ h => h) ?_
      refine VWalk.move _ rfl (want_none rfl) (opd_frame 7 rfl (by kernel_rfl)) ?_
      refine VWalk.gtrT _ _ _ _ rfl (want_none rfl) (opd_dep 0 11 0 rfl rfl rfl rfl) (opd_const _) (by omega) ?_
      refine VWalk.move _ rfl (want_none rfl) (opd_dep 1 12 0 rfl rfl rfl rfl) ?_
      refine VWalk.loadBox 39 _ rfl (want_tt 2 13 0 rfl (by kernel_rfl) rfl rfl rfl rfl) (opd_frame 3 rfl (by kernel_rfl)) Try.underlying39 rfl (by kernel_rfl) hb3 (ext_drew _) ?_
      refine VWalk.loadBox 48 _ rfl (want_tt 2 13 1 rfl (by kernel_rfl) rfl rfl rfl rfl) (opd_frame 5 rfl (by kernel_rfl)) Try.underlying48 rfl (by kernel_rfl) hb5 (ext_drew _) ?_
      refine VWalk.move _ rfl (want_tt 2 13 2 rfl (by kernel_rfl) rfl rfl rfl rfl) (opd_fr 1 rfl hH (ext_drew _) (by kernel_rfl)) ?_
      refine VWalk.move _ rfl (want_tt 2 13 3 rfl (by kernel_rfl) rfl rfl rfl rfl) (opd_frame 7 rfl (by kernel_rfl)) ?_
      refine VWalk.sub64 _ _ _ _ rfl (want_tt 2 13 4 rfl (by kernel_rfl) rfl rfl rfl rfl) (opd_dep 6 17 0 rfl rfl rfl rfl) (opd_const _) (by omega) ?_
      rw [hk1]
      refine VWalk.index2 40 48 _ _ .i64 (k - 1) rfl Try.underlying40 (by kernel_rfl) (want_tt 2 13 5 rfl (by kernel_rfl) rfl rfl rfl rfl) (opd_dep 5 16 2 rfl rfl rfl rfl) (opd_dep 7 18 0 rfl rfl rfl rfl) hk2 ?_
      refine VWalk.load2 48 _ rfl (want_tt 2 13 6 rfl (by kernel_rfl) rfl rfl rfl rfl) (opd_dep 8 19 0 rfl rfl rfl rfl) Try.underlying48 rfl (by kernel_rfl) ?_
      refine VWalk.call3 31 _ _ _ _ rfl (enters_of Try.func31 (by kernel_rfl) rfl) (want_tt 2 13 7 rfl (by kernel_rfl) rfl rfl rfl rfl) (opd_dep 3 14 6 rfl rfl rfl rfl) (opd_dep 4 15 5 rfl rfl rfl rfl) (opd_dep 9 20 0 rfl rfl rfl rfl) (fun u v z W hX hu hv hz => by rw [show u = _ from hu, show v = _ from hv, show z = _ from hz]; exact hls _ _ W (VP.st _ _ _ _ hS1 ((ext_drew _).tr hX))) ?_
      refine VWalk.pickT _ _ _ rfl (want_none rfl) (opd_dep 2 13 8 rfl rfl rfl rfl) (opd_dep 10 21 0 rfl rfl rfl rfl) ?_
      refine ⟨rfl, fun W2 hE2 => ?_⟩
      refine VFin.eq ?_  -- 0
      refine VFin.eq ?_  -- 1
      refine VFin.eq ?_  -- 2
      refine VFin.eq ?_  -- 3
      refine VFin.eq ?_  -- 4
      refine VFin.any fun v2_5 hv2_5 => ?_
      refine VFin.eq ?_  -- 6
      refine VFin.eq ?_  -- 7
      refine VFin.any fun v2_8 hv2_8 => ?_
      refine VFin.eq ?_  -- 9
      refine VFin.any fun v2_10 hv2_10 => ?_
      refine VFin.any fun v2_11 hv2_11 => ?_
      refine VFin.nil ?_
      simp only [Act.put, List.setIfInBounds_toArray, List.set_cons_zero, List.set_cons_succ]
      clear hv2_5 hv2_8 hv2_10
      have hH := VP.st _ _ _ _ hH ((ext_drew _).tr hE2)
      have hb3 := hb3.drew.ext hE2
      have hb5 := hb5.drew.ext hE2
      have hE := hE.tr ((ext_drew _).tr hE2)
      generalize plcV (hs[k - 1]'hk2) = pv at *
      obtain ⟨b, hb⟩ := hv2_11
      subst hb
      cases b
      · clear hb3 hS1 hS0 hk1 hk2 hH hls
        have hX5 : 0 + 0 = 0 := rfl
        have hcp5 := hb5.at_ 0 rfl
        have hcp6 := hb5.at_ 1 rfl
        have hsz : w.heap.size + 2 ≤ W2.heap.size := by have := hb5.lt; omega
        have hHr := VP.st _ _ _ _ hH0 hE
        have hs1 : Src W2 (.slice B k d) k (cellsH (hs.take k)) := by
          have := Src.pairs (lo := 0) (m := k) hHr B d (by omega) (fun _ b off e => by rw [e]; simp)
          rwa [List.drop_zero] at this
        clear hx
        go_upto_region 6 with (at_builtin; refine wpList_append_src rfl _ _ 40 rfl (w.heap.size + 2) 48 i0 (.agg #[.int .i64 0, .int .i64 0]) 2 16 Try.underlying40 hi hz0 hz1 hz2 rfl (by omega) (.slice none 0 0) _ 0 k [] (cellsH (hs.take k)) rfl (World.ownsRow_nil _ _ _ _) (by rw [cellsH_len, List.length_take, Nat.min_eq_left hk]) rfl hs1 (cellsH_one _) (by omega) (by omega) ?_; intro va wa hown hgrow hat; clear hat)
        have hXa := ext_of_grown hgrow rfl
        have hb5a := hb5.ext hXa
        have hcp5 := hb5a.at_ 0 rfl
        have hcp6 := hb5a.at_ 1 rfl
        have hsa : w.heap.size + 2 ≤ wa.heap.size := Nat.le_trans hsz hXa.size
        have hEa := hE.tr hXa
        clear hs1 hgrow hb5 hsz hHr hE hXa
        obtain ⟨A5, c5, hv5⟩ := own_form hown
        subst hv5
        go_upto_region 7 with (at_builtin; refine wpList_append_src rfl _ _ 40 rfl (w.heap.size + 2) 48 i0 (.agg #[.int .i64 0, .int .i64 0]) 2 16 Try.underlying40 hi hz0 hz1 hz2 rfl (by omega) _ _ (0 + k) 1 ([] ++ cellsH (hs.take k)) [.int .i64 h1, .int .i64 h2] rfl (own_st hown (ext_alloc _ _)) rfl rfl (Src.new _ _ _ _) (cellsH_one [(h1, h2)]) (by omega) (by simp; omega) ?_; intro vb wb hown2 hgrow2 hat; clear hat)
        have hEb := below_ng hEa hgrow2 (fun j hj => by have := own_ge hown j hj; omega)
        have hHb := VP.st _ _ _ _ hH0 hEb
        have hsb : w.heap.size + 2 ≤ wb.heap.size := Nat.le_trans hsa (by have := hgrow2.size; simp at this; omega)
        clear hgrow2 hown hEa hsa hb5a hcp5 hcp6
        obtain ⟨A6, c6, hv6⟩ := own_form hown2
        subst hv6
        by_cases hdk : d = k
        · have hnk : hs.length = k := by omega
          have hs3 : Src wb (.slice B 0 0) 0 [] := ⟨_, _, rfl, fun h => by omega⟩
          clear hHb
          subst hdk
          go_wp2_with (at_builtin; refine wpList_append_src rfl _ _ 40 rfl (w.heap.size + 2) 48 i0 (.agg #[.int .i64 0, .int .i64 0]) 2 16 Try.underlying40 hi hz0 hz1 hz2 rfl (by omega) _ _ (0 + d + 1) 0 _ [] rfl hown2 rfl rfl hs3 (cellsH_one []) (by omega) hsb ?_; intro vc wc hown3 hgrow3 hat)
          go_ret
          refine RetP.mk (hEb.grown hgrow3 hEb.size (fun j hj => by have := own_ge hown2 j hj; omega)) ⟨d, by omega, ?_⟩
          have := own_mono hown3 (show w.heap.size ≤ w.heap.size + 2 by omega)
          unfold OwnH
          rw [put_len hs d (h1, h2) hk, put_cells, List.drop_of_length_le (by omega), hnk, Nat.sub_self]
          exact this
        · have hs3 : Src wb (.slice (B.map (·.add (k * 2))) (hs.length - k) (d - k)) (hs.length - k) (cellsH (hs.drop k)) := by
            have := Src.pairs (lo := k) (m := hs.length - k) hHb (B.map (·.add (k * 2))) (d - k) (by omega) (fun _ b off e => by rw [e]; simp [addr_add])
            rwa [List.take_of_length_le (by simp)] at this
          clear hHb
          go_wp2_with (at_builtin; refine wpList_append_src rfl _ _ 40 rfl (w.heap.size + 2) 48 i0 (.agg #[.int .i64 0, .int .i64 0]) 2 16 Try.underlying40 hi hz0 hz1 hz2 rfl (by omega) _ _ (0 + k + 1) (hs.length - k) _ (cellsH (hs.drop k)) rfl hown2 (by rw [cellsH_len, List.length_drop]) rfl hs3 (cellsH_one _) (by omega) hsb ?_; intro vc wc hown3 hgrow3 hat)
          go_ret
          refine RetP.mk (hEb.grown hgrow3 hEb.size (fun j hj => by have := own_ge hown2 j hj; omega)) ⟨k, hk, ?_⟩
          have := own_mono hown3 (show w.heap.size ≤ w.heap.size + 2 by omega)
          unfold OwnH
          rw [put_len hs k (h1, h2) hk, put_cells]
          exact this
      · have HE2 : Hid (Below w.heap.size w W2) := hide hE
        have HA2 := hide hb3
        have HB2 := hide hb5
        clear hb3 hb5 hE hS1 hH hls
        go_wp2
        exact ⟨⟨k - 1, by omega, by go_num, HE2, HA2, HB2⟩, by simp [intOf]; omega⟩
    · have hb5 := HB.out
      clear HA HB hls hS0
      go_upto_region 2 with (fail)
      refine vregion 12 [] (by kernel_rfl) (by kernel_rfl) (fun _ _ _ _ _ h => h) ?_
      refine VWalk.move _ rfl (want_none rfl) (opd_frame 7 rfl (by kernel_rfl)) ?_
      refine VWalk.gtrF _ _ _ _ rfl (want_none rfl) (opd_dep 0 11 0 rfl rfl rfl rfl) (opd_const _) (by omega) ?_
      refine VWalk.move _ rfl (want_none rfl) (opd_dep 1 12 0 rfl rfl rfl rfl) ?_
      refine VWalk.skip (want_ft 2 13 0 rfl (by kernel_rfl) rfl rfl rfl rfl) ?_
      refine VWalk.skip (want_ft 2 13 1 rfl (by kernel_rfl) rfl rfl rfl rfl) ?_
      refine VWalk.skip (want_ft 2 13 2 rfl (by kernel_rfl) rfl rfl rfl rfl) ?_
      refine VWalk.skip (want_ft 2 13 3 rfl (by kernel_rfl) rfl rfl rfl rfl) ?_
      refine VWalk.skip (want_ft 2 13 4 rfl (by kernel_rfl) rfl rfl rfl rfl) ?_
      refine VWalk.skip (want_ft 2 13 5 rfl (by kernel_rfl) rfl rfl rfl rfl) ?_
      refine VWalk.skip (want_ft 2 13 6 rfl (by kernel_rfl) rfl rfl rfl rfl) ?_
      refine VWalk.skip (want_ft 2 13 7 rfl (by kernel_rfl) rfl rfl rfl rfl) ?_
      refine VWalk.pickF _ _ _ rfl (want_none rfl) (opd_dep 2 13 8 rfl rfl rfl rfl) (opd_const _) ?_
      refine ⟨rfl, fun W2 hE2 => ?_⟩
      refine VFin.eq ?_  -- 0
      refine VFin.eq ?_  -- 1
      refine VFin.eq ?_  -- 2
      refine VFin.eq ?_  -- 3
      refine VFin.eq ?_  -- 4
      refine VFin.eq ?_  -- 5
      refine VFin.eq ?_  -- 6
      refine VFin.eq ?_  -- 7
      refine VFin.eq ?_  -- 8
      refine VFin.eq ?_  -- 9
      refine VFin.eq ?_  -- 10
      refine VFin.eq ?_  -- 11
      refine VFin.nil ?_
      simp only [Act.put, List.setIfInBounds_toArray, List.set_cons_zero, List.set_cons_succ]
      have hb5 := hb5.drew.ext hE2
      have hE := hE.tr ((ext_drew _).tr hE2)
      have hX5 : 0 + 0 = 0 := rfl
      have hcp5 := hb5.at_ 0 rfl
      have hcp6 := hb5.at_ 1 rfl
      have hsz : w.heap.size + 2 ≤ W2.heap.size := by have := hb5.lt; omega
      have hHr := VP.st _ _ _ _ hH0 hE
      have hs1 : Src W2 (.slice B k d) k (cellsH (hs.take k)) := by
        have := Src.pairs (lo := 0) (m := k) hHr B d (by omega) (fun _ b off e => by rw [e]; simp)
        rwa [List.drop_zero] at this
      clear hx
      go_upto_region 6 with (at_builtin; refine wpList_append_src rfl _ _ 40 rfl (w.heap.size + 2) 48 i0 (.agg #[.int .i64 0, .int .i64 0]) 2 16 Try.underlying40 hi hz0 hz1 hz2 rfl (by omega) (.slice none 0 0) _ 0 k [] (cellsH (hs.take k)) rfl (World.ownsRow_nil _ _ _ _) (by rw [cellsH_len, List.length_take, Nat.min_eq_left hk]) rfl hs1 (cellsH_one _) (by omega) (by omega) ?_; intro va wa hown hgrow hat; clear hat)
      have hXa := ext_of_grown hgrow rfl
      have hb5a := hb5.ext hXa
      have hcp5 := hb5a.at_ 0 rfl
      have hcp6 := hb5a.at_ 1 rfl
      have hsa : w.heap.size + 2 ≤ wa.heap.size := Nat.le_trans hsz hXa.size
      have hEa := hE.tr hXa
      clear hs1 hgrow hb5 hsz hHr hE hXa
      obtain ⟨A5, c5, hv5⟩ := own_form hown
      subst hv5
      go_upto_region 7 with (at_builtin; refine wpList_append_src rfl _ _ 40 rfl (w.heap.size + 2) 48 i0 (.agg #[.int .i64 0, .int .i64 0]) 2 16 Try.underlying40 hi hz0 hz1 hz2 rfl (by omega) _ _ (0 + k) 1 ([] ++ cellsH (hs.take k)) [.int .i64 h1, .int .i64 h2] rfl (own_st hown (ext_alloc _ _)) rfl rfl (Src.new _ _ _ _) (cellsH_one [(h1, h2)]) (by omega) (by simp; omega) ?_; intro vb wb hown2 hgrow2 hat; clear hat)
      have hEb := below_ng hEa hgrow2 (fun j hj => by have := own_ge hown j hj; omega)
      have hHb := VP.st _ _ _ _ hH0 hEb
      have hsb : w.heap.size + 2 ≤ wb.heap.size := Nat.le_trans hsa (by have := hgrow2.size; simp at this; omega)
      clear hgrow2 hown hEa hsa hb5a hcp5 hcp6
      obtain ⟨A6, c6, hv6⟩ := own_form hown2
      subst hv6
      by_cases hdk : d = k
      · have hnk : hs.length = k := by omega
        have hs3 : Src wb (.slice B 0 0) 0 [] := ⟨_, _, rfl, fun h => by omega⟩
        clear hHb
        subst hdk
        go_wp2_with (at_builtin; refine wpList_append_src rfl _ _ 40 rfl (w.heap.size + 2) 48 i0 (.agg #[.int .i64 0, .int .i64 0]) 2 16 Try.underlying40 hi hz0 hz1 hz2 rfl (by omega) _ _ (0 + d + 1) 0 _ [] rfl hown2 rfl rfl hs3 (cellsH_one []) (by omega) hsb ?_; intro vc wc hown3 hgrow3 hat)
        go_ret
        refine RetP.mk (hEb.grown hgrow3 hEb.size (fun j hj => by have := own_ge hown2 j hj; omega)) ⟨d, by omega, ?_⟩
        have := own_mono hown3 (show w.heap.size ≤ w.heap.size + 2 by omega)
        unfold OwnH
        rw [put_len hs d (h1, h2) hk, put_cells, List.drop_of_length_le (by omega), hnk, Nat.sub_self]
        exact this
      · have hs3 : Src wb (.slice (B.map (·.add (k * 2))) (hs.length - k) (d - k)) (hs.length - k) (cellsH (hs.drop k)) := by
          have := Src.pairs (lo := k) (m := hs.length - k) hHb (B.map (·.add (k * 2))) (d - k) (by omega) (fun _ b off e => by rw [e]; simp [addr_add])
          rwa [List.take_of_length_le (by simp)] at this
        clear hHb
        go_wp2_with (at_builtin; refine wpList_append_src rfl _ _ 40 rfl (w.heap.size + 2) 48 i0 (.agg #[.int .i64 0, .int .i64 0]) 2 16 Try.underlying40 hi hz0 hz1 hz2 rfl (by omega) _ _ (0 + k + 1) (hs.length - k) _ (cellsH (hs.drop k)) rfl hown2 (by rw [cellsH_len, List.length_drop]) rfl hs3 (cellsH_one _) (by omega) hsb ?_; intro vc wc hown3 hgrow3 hat)
        go_ret
        refine RetP.mk (hEb.grown hgrow3 hEb.size (fun j hj => by have := own_ge hown2 j hj; omega)) ⟨k, hk, ?_⟩
        have := own_mono hown3 (show w.heap.size ≤ w.heap.size + 2 by omega)
        unfold OwnH
        rw [put_len hs k (h1, h2) hk, put_cells]
        exact this
end Go.Proofs.Ytdaghnnmbilgfaa
