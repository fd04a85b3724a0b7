/- Class: set, own, count, walked. -/
import Derived.Test.YtfbamdkalamliaaClA
import Derived.StillTailTactics
namespace Go.Proofs.Ytfbamdkalamliaa
open Go.RowKit LetM SetM
def cArr (f : Nat → Int) (m : Int) : Array Value := arr 257 fun i => .int .i64 (if i < 256 then f i else m)
theorem cArr_size (f : Nat → Int) (m : Int) : (cArr f m).size = 257 := arr_size _ _
theorem cArr_get (f : Nat → Int) (m : Int) {i : Nat} (hi : i < 256) : (cArr f m)[i]? = some (.int .i64 (f i)) := by unfold cArr; rw [arr_get (by omega), if_pos hi]
theorem cArr_many (f : Nat → Int) (m : Int) : (cArr f m)[256]? = some (.int .i64 m) := by unfold cArr; rw [arr_get (by omega), if_neg (by omega)]
theorem cArr_set (f : Nat → Int) (m : Int) {i : Nat} (hi : i < 256) (z : Int) : (cArr f m).setIfInBounds i (.int .i64 z) = cArr (fun j => if j = i then z else f j) m := by
  unfold cArr
  rw [arr_set]
  refine arr_congr fun j _ => ?_
  by_cases e : j = i
  · subst e; simp [hi]
  · simp [e]
theorem cArr_up (f : Nat → Int) (m z : Int) : (cArr f m).setIfInBounds 256 (.int .i64 z) = cArr f z := by
  unfold cArr
  rw [arr_set]
  refine arr_congr fun j hj => ?_
  by_cases e : j = 256
  · subst e; rw [if_pos rfl, if_neg (by omega)]
  · rw [if_neg e, if_pos (by omega), if_pos (by omega)]
set_option maxHeartbeats 1000000 in
theorem clset_any (g : Nat) (T : TypeId) (cs : Array Value) (c : Nat) (n : Int) (w : World) (hb : Box w g T cs) (hs : 256 ≤ cs.size) (hc : c < 256) : Calls Try.prog 32 #[.pointer (some ⟨g, 0, none⟩), .int .u8 (c : Int), .int .i64 n] w fun e w' => e = .returned (.tuple #[]) ∧ w' = w.setCell ⟨g, c, none⟩ (.int .i64 n) := by
  have hf := hb.frozen c
  have ho := hb.cell c
  rw [Array.getElem?_eq_getElem (by omega : c < cs.size)] at ho
  have hc' : (c : Int) < 256 := by omega
  generalize cs[c] = old at *
  go_enter Try.func32, Try.ntmps32
  go_wp2
  refine bodyPost_end (results_none Try.results32 _ _ _) rfl ⟨rfl, rfl⟩
set_option maxRecDepth 100000 in
set_option maxHeartbeats 1000000 in
theorem clown_any (g : Nat) (f : Nat → Int) (m : Int) (c : Nat) (w : World) (hb : Box w g 53 (cArr f m)) (hm0 : 0 ≤ m) (hm1 : m ≤ 1000) (hc : c < 256) : Calls Try.prog 34 #[.pointer (some ⟨g, 0, none⟩), .int .u8 (c : Int)] w fun e w' => e = .returned (.tuple #[]) ∧ w.grownBy w' (some g) ∧ Box w' g 53 (cArr (fun j => if j = c then m else f j) (m + 1)) := by
  have hmany := (hb.cell 256).trans (cArr_many f m)
  have hs := clset_any g _ _ c m w.drew hb.drew (by rw [cArr_size]; omega) hc
  have hn : Box (w.drew.setCell ⟨g, c, none⟩ (.int .i64 m)) g 53 (cArr (fun j => if j = c then m else f j) m) := by
    have := hb.drew.set_ c (.int .i64 m)
    rwa [cArr_set f m hc] at this
  have hmany2 := (hn.cell 256).trans (cArr_many _ m)
  have hf2 := hn.frozen 256
  go_enter Try.func34, Try.ntmps34
  go_wp2_with fail
  go_still_tail 8, (by kernel_rfl)
  change wpList _ _ _ _ _ w.drew
  have hg0 : w.grownBy w.drew (some g) := ⟨rfl, rfl, rfl, Nat.le_refl _, fun _ _ _ => rfl⟩
  have Hg := hide (gset (gset hg0 c (.int .i64 m)) 256 (.int .i64 (m + 1)))
  have Hn : Hid (Box ((w.drew.setCell ⟨g, c, none⟩ (.int .i64 m)).setCell ⟨g, 256, none⟩ (.int .i64 (m + 1))) g 53 (cArr (fun j => if j = c then m else f j) (m + 1))) := by
    have := hn.set_ 256 (.int .i64 (m + 1))
    rwa [cArr_up] at this
  clear hg0 hn
  generalize w.drew = w2 at *
  go_wp2_with fail
  refine hs.mono ?_
  rintro _ w3 ⟨rfl, rfl⟩
  clear hs hmany
  go_wp2
  refine bodyPost_end (results_none Try.results34 _ _ _) rfl ⟨rfl, Hg.out, Hn.out⟩
/-! What count counts. -/
abbrev CSt := (Nat → Int) × Int
def cStep (fold : Bool) (h : Nat → Bool) (st : CSt) (i : Nat) : CSt :=
  if h i = false then st else if (fold && smallB i) = true then (fun j => if j = i then st.1 (i - 32) else st.1 j, st.2) else (fun j => if j = i then st.2 else st.1 j, st.2 + 1)
def cRun (fold : Bool) (h : Nat → Bool) (n : Nat) : CSt := (List.range n).foldl (cStep fold h) (fun _ => 0, 1)
theorem cRun_succ (fold : Bool) (h : Nat → Bool) (n : Nat) : cRun fold h (n + 1) = cStep fold h (cRun fold h n) n := by unfold cRun; rw [List.range_succ, List.foldl_append]; rfl
theorem cRun_many (fold : Bool) (h : Nat → Bool) : ∀ n, 0 ≤ (cRun fold h n).2 ∧ (cRun fold h n).2 ≤ n + 1
  | 0 => by unfold cRun; simp
  | n + 1 => by
    have ih := cRun_many fold h n
    rw [cRun_succ]
    unfold cStep
    split
    · exact ⟨ih.1, by have := ih.2; omega⟩
    · split
      · exact ⟨ih.1, by have := ih.2; omega⟩
      · exact ⟨by have := ih.1; show 0 ≤ _ + 1; omega, by have := ih.2; show _ + 1 ≤ _; omega⟩
theorem builtC : Try.zeroCells53.setIfInBounds 256 (.int .i64 1) = cArr (fun _ => 0) 1 := by kernel_rfl
theorem csmallN (k : Nat) (hk : k < 256) (w : World) : Calls Try.prog 31 #[.int .u8 (k : Int)] w (fun e w' => e = .returned (.bool (smallB k)) ∧ w' = w) := by
  have := csmall_q (UInt8.ofNat k) w
  rwa [show (UInt8.ofNat k).toNat = k by rw [UInt8.toNat_ofNat']; omega] at this
theorem cgreatN (k : Nat) (hk : k < 256) (h : smallB k = true) (w : World) : Calls Try.prog 33 #[.int .u8 (k : Int)] w (fun e w' => e = .returned (.int .u8 ((k - 32 : Nat) : Int)) ∧ w' = w) := by
  have := cgreat_q (UInt8.ofNat k)
  rw [show (UInt8.ofNat k).toNat = k by rw [UInt8.toNat_ofNat']; omega] at this
  exact this h w
set_option maxRecDepth 100000 in
set_option maxHeartbeats 2000000 in
theorem clcount_any (f : Bool) (ws : List (List UInt8)) (u : Value) (w : World) (hS : VSet f ws u w) (hlen : ws.flatten.length ≤ 1000000) (hn : ws.length ≤ 1000000) (hr : rightS f ws = true) : Calls Try.prog 23 #[u] w fun e w' => ∃ g, e = .returned (.tuple #[.pointer (some ⟨g, 0, none⟩), .bool true]) ∧ Ext w w' ∧ w.heap.size ≤ g ∧ Box w' g 53 (cArr (cRun f (hasB f ws.flatten) 256).1 (cRun f (hasB f ws.flatten) 256).2) := by
  have hS0 := hS
  obtain ⟨sl, rfl, hP⟩ := hS
  obtain ⟨A, c, rfl, -⟩ := VParts.form hP
  have hX := ext_alloc w (.cells #[.bool f, .slice A ws.length c] 24)
  have hrt := pright_any f ws _ _ (VP.st _ _ _ _ hS0 hX) hlen hn
  rw [hr] at hrt
  have hb1 := Box.new w 24 #[.bool f, .slice A ws.length c]
  clear hP
  go_enter Try.func23, Try.ntmps23
  go_wp2_with fail
  refine hrt.mono ?_
  rintro _ w1 ⟨u, rfl, hE1, rfl⟩
  have hb1 := hb1.ext hE1
  have hE1 := hX.tr hE1
  clear hrt hX
  go_upto_region 4 with (fail)
  rw [builtC]
  have hX := ext_alloc w1 (.cells (cArr (fun _ => 0) 1) 53)
  have hg := Box.new w1 53 (cArr (fun _ => 0) 1)
  have hb2 := hb1.ext hX
  have hd0 := hb2.at_ 0 rfl
  have hd1 := hb2.at_ 1 rfl
  have hE2 := hE1.tr hX
  have hge : w.heap.size < w1.heap.size := hb1.lt
  generalize w1.alloc (.cells (cArr (fun _ => 0) 1) 53) = w2 at *
  generalize w1.heap.size = g at *
  have hh := has_any f ws _ _ (VP.st _ _ _ _ hS0 hE2)
  clear hb1 hE1 hX hS0 hr
  go_wp2_with fail
  refine hh.mono ?_
  rintro _ w3 ⟨u, rfl, hE3, rfl⟩
  have HG : Hid (Box w3 g 53 (cArr (cRun f (hasB f ws.flatten) 0).1 (cRun f (hasB f ws.flatten) 0).2)) := hg.ext hE3
  have HB := hide (hb2.ext hE3)
  have HX := hide (hE2.tr hE3)
  clear hh hg hb2 hE2 hE3 hd0 hd1
  obtain ⟨h, hhh⟩ : ∃ h, hasB f ws.flatten = h := ⟨_, rfl⟩
  rw [hhh] at HG ⊢
  have Hh := hide hhh
  clear hhh
  go_wp2_with fail
  go_loopw [5, 6, 7, 15] (fun _ _ _ i wr => ∃ k : Nat, k ≤ 256 ∧ i = .int .i64 (k : Int) ∧ Hid (Below w.heap.size w wr) ∧ Hid (Box wr w.heap.size 24 #[.bool f, .slice A ws.length c]) ∧ Hid (Box wr g 53 (cArr (cRun f h k).1 (cRun f h k).2))) (fun _ _ _ i _ => 256 - (intOf i).toNat)
  case atStart => exact ⟨0, by omega, rfl, HX, HB, HG⟩
  case round =>
    clear HX HB HG
    obtain ⟨k, hk, rfl, HX, HB, HG⟩ := hrel
    by_cases hlt : k < 256
    · have hm := cRun_many f h k
      have hlt' : (k : Int) < 256 := by omega
      have hcv : IntKind.u8.wrap (k : Int) = (k : Int) := IntWalk.u8_in _ (by omega)
      have hst := cRun_succ f h k
      generalize cRun f h k = st at *
      obtain ⟨cf, m⟩ := st
      dsimp only at hm HG
      unfold cStep at hst
      dsimp only at hst
      by_cases hh : h k = false
      · rw [if_pos hh] at hst
        have Hst := hide hst
        clear hst
        go_upto_region 7 with (refine wpList_index_arr rfl 43 _ _ rfl rfl rfl Try.underlying43 hlt (bArr_get h hlt) (by kernel_rfl) (fun _ => by kernel_rfl) ?_; rw [hh])
        go_wp2_with fail
        exact ⟨⟨k + 1, by omega, by go_num, HX, HB, by rw [Hst.out]; exact HG⟩, by simp [intOf]; omega⟩
      · have hh : h k = true := by simpa using hh
        rw [hh, if_neg (by simp)] at hst
        have hfb := HB.out.at_ 0 rfl
        by_cases hf : (f && smallB k) = true
        · rw [if_pos hf] at hst
          obtain ⟨rfl, hsm⟩ : f = true ∧ smallB k = true := by simpa using hf
          have Hst := hide hst
          have hcs := csmallN k hlt wr
          rw [hsm] at hcs
          have hcg := cgreatN k hlt hsm
          clear hst hf
          go_upto_region 7 with (refine wpList_index_arr rfl 43 _ _ rfl rfl rfl Try.underlying43 hlt (bArr_get h hlt) (by kernel_rfl) (fun _ => by kernel_rfl) ?_; rw [hh])
          go_wp2_with fail
          refine hcs.mono ?_
          rintro _ wr ⟨rfl, rfl⟩
          clear hcs hfb
          have hb4 := HG.out
          have hc4 := (hb4.cell (k - 32)).trans (cArr_get cf m (by omega : k - 32 < 256))
          have hci : ((k - 32 : Nat) : Int) < 256 := by omega
          have hs := fun W hb => clset_any g 53 (cArr cf m) k (cf (k - 32)) W hb (by rw [cArr_size]; omega) hlt
          have hs := hs wr.drew hb4.drew
          have Hn : Hid (Box (wr.drew.setCell ⟨g, k, none⟩ (.int .i64 (cf (k - 32)))) g 53 (cArr (fun j => if j = k then cf (k - 32) else cf j) m)) := by
            have := hb4.drew.set_ k (.int .i64 (cf (k - 32)))
            rwa [cArr_set cf m hlt] at this
          have HX5 := hide (Below.setCell (HX.out.drew) (p := ⟨g, k, none⟩) (by show w.heap.size ≤ g; omega) (.int .i64 (cf (k - 32))))
          have HB5 := hide (HB.out.drew.far (p := ⟨g, k, none⟩) (by show w.heap.size ≠ g; omega) (.int .i64 (cf (k - 32))))
          clear HB HG HX hb4
          generalize k - 32 = k32 at *
          go_wp2_with fail
          go_still_tail 12, (by kernel_rfl)
          still_call (hcg _)
          repeat still_step
          try refine wpStill_nil ?_
          change wpList _ _ _ _ _ wr.drew
          generalize wr.drew = w2 at *
          go_wp2_with fail
          refine hs.mono ?_
          rintro _ _ ⟨rfl, rfl⟩
          clear hs
          go_wp2
          exact ⟨⟨k + 1, by omega, by go_num, HX5, HB5, by rw [Hst.out]; exact Hn⟩, by simp [intOf]; omega⟩
        · have hf : (f && smallB k) = false := by simpa using hf
          rw [hf, if_neg (by simp)] at hst
          have Hst := hide hst
          have hcs := csmallN k hlt wr
          have hcg := fun W hb => clown_any g cf m k W hb (by omega) (by omega) hlt
          clear hst
          cases f
          · clear hf hcs
            go_upto_region 7 with (refine wpList_index_arr rfl 43 _ _ rfl rfl rfl Try.underlying43 hlt (bArr_get h hlt) (by kernel_rfl) (fun _ => by kernel_rfl) ?_; rw [hh])
            go_wp2_with fail
            refine (hcg _ HG.out).mono ?_
            rintro _ w4 ⟨rfl, hgr, hb4⟩
            have HX4 : Hid (Below w.heap.size w w4) := hide (HX.out.grown hgr HX.out.size (fun j e => by cases e; omega))
            have HB4 := hide (HB.out.grows hgr (by intro e; cases e; omega))
            have HG4 := hide hb4
            clear hb4 hgr hcg HB HG HX hfb
            go_wp2
            exact ⟨⟨k + 1, by omega, by go_num, HX4, HB4, by rw [Hst.out]; exact HG4⟩, by simp [intOf]; omega⟩
          · have hsm : smallB k = false := by simpa using hf
            rw [hsm] at hcs
            clear hf hsm
            go_upto_region 7 with (refine wpList_index_arr rfl 43 _ _ rfl rfl rfl Try.underlying43 hlt (bArr_get h hlt) (by kernel_rfl) (fun _ => by kernel_rfl) ?_; rw [hh])
            go_wp2_with fail
            refine hcs.mono ?_
            rintro _ wr ⟨rfl, rfl⟩
            clear hcs
            go_wp2_with fail
            refine (hcg _ HG.out).mono ?_
            rintro _ w4 ⟨rfl, hgr, hb4⟩
            have HX4 : Hid (Below w.heap.size w w4) := hide (HX.out.grown hgr HX.out.size (fun j e => by cases e; omega))
            have HB4 := hide (HB.out.grows hgr (by intro e; cases e; omega))
            have HG4 := hide hb4
            clear hb4 hgr hcg HB HG HX hfb
            go_wp2
            exact ⟨⟨k + 1, by omega, by go_num, HX4, HB4, by rw [Hst.out]; exact HG4⟩, by simp [intOf]; omega⟩
    · obtain rfl : k = 256 := by omega
      go_wp2
      exact bodyPost_ret (v := .tuple #[.pointer (some ⟨g, 0, none⟩), .bool true]) (by simp [results, Try.results23, go_sem]) rfl ⟨g, rfl, HX.out, by omega, by rw [Hh.out]; exact HG.out⟩
end Go.Proofs.Ytfbamdkalamliaa
