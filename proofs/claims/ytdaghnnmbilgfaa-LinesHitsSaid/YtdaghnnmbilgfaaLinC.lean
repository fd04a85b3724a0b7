/- Feed. -/
import Derived.Test.YtdaghnnmbilgfaaLinB
namespace Go.Proofs.Ytdaghnnmbilgfaa
open Go.RowKit Go.Shelf LinM
attribute [local go_sem] Oper.semAt_some
/-- A result that lies in a variable of several cells, and a second one. -/
theorem results_cell_tmp {P : Program} {fn : Func} {p q : Tmp} {ty : TypeId} (h : fn.results = #[.cell p ty, .tmp q]) (tmps : Array Value) (w : World) (g : Nat) (t : TypeId) (cs : Array Value) (fr : Nat × Nat) (d : TypeDesc) (v : Value)
    (hp : tmps.getD p undef = .pointer (some ⟨g, 0, none⟩)) (hq : tmps.getD q undef = v) (hg : w.heap[g]? = some (.cells cs t fr))
    (hu : P.underlying ty = some d) (hd : (match d with | .struct _ | .array _ _ => true | _ => false) = true) (hi : (P.info? ty).map (·.size) = some cs.size) :
    (results fn tmps).run P w = .ok (.tuple #[.agg cs, v]) w := by
  have hp' : tmps[p]?.getD undef = .pointer (some ⟨g, 0, none⟩) := by simpa using hp
  have hq' : tmps[q]?.getD undef = v := by simpa using hq
  simp [results, h, hp', hq', asAddr, run_loadVar_row w g t ty cs fr d hg hu hd hi]
theorem cntV_agg (c : Cnt) : Value.agg (cntA c) = cntV c := rfl
def flen (ps : List (List UInt8)) (k : Nat) : Nat := (ps.take k).flatten.length
theorem flen_succ (ps : List (List UInt8)) (k : Nat) (h : k < ps.length) : flen ps (k + 1) = flen ps k + ps[k].length := by
  unfold flen; rw [take_succ_flat ps k h, List.length_append]
theorem flen_le (ps : List (List UInt8)) (k : Nat) : flen ps k ≤ ps.flatten.length := by
  unfold flen
  conv => rhs; rw [← List.take_append_drop k ps, List.flatten_append, List.length_append]
  omega
theorem feedC_no {c : Cnt} (bs : List UInt8) (h : rightC c = false) : feedC c bs = (c, 2) := by
  unfold feedC; rw [if_neg]; rw [h]; simp
theorem feedC_big {c : Cnt} (bs : List UInt8) (h : 2147483647 < c.1 + bs.length) : feedC c bs = (c, 2) := by
  unfold feedC; rw [if_neg]; rintro ⟨_, h2⟩; omega
theorem feedC_yes {c : Cnt} (bs : List UInt8) (h : rightC c = true) (h2 : c.1 + bs.length ≤ 2147483647) : feedC c bs = (countC c bs, 0) := by
  unfold feedC; rw [if_pos ⟨h, h2⟩]
theorem tup_two {F G : VP} {u v : Value} {w w' : World} (h : Ext w w') (h1 : F u w') (h2 : G v w') : Ret w (VTup [F, G]) (.returned (.tuple #[u, v])) w' := Ret.mk h (VTup.two h1 h2)

set_option maxRecDepth 100000 in
set_option maxHeartbeats 2000000 in
theorem feed_no (c : Cnt) (ps : List (List UInt8)) (v : Value) (w : World) (hP : VParts ps v w) (hrr : rightC c = false) : Calls Try.prog 9 #[cntV c, v] w (Ret w (VTup [VEq (cntV c), VEq (.int .i64 2)])) := by
  have hr := right_any c
  obtain ⟨A, cc, rfl, hc1, hc2, hx⟩ := VParts.form hP
  clear hP
  rw [hrr] at hr
  unfold cntV at *
  obtain ⟨x, y, z⟩ := c
  dsimp only at *
  clear hrr
  go_enter Try.func9, Try.ntmps9
  go_wp2_with fail
  refine (hr _).mono ?_
  rintro e w1 ⟨v, rfl, hE1, rfl⟩
  clear hr
  have hE : Ext w w1 := ((ext_alloc _ _).tr (ext_alloc _ _)).tr hE1
  have hb2 := ((Box.new w 25 #[.int .i64 x, .int .i64 y, .int .i64 z]).alloc (.cells #[.int .i64 0, .int .i64 0, .int .i64 0] 25)).ext hE1
  have hb4 := (Box.new (w.alloc (.cells #[.int .i64 x, .int .i64 y, .int .i64 z] 25)) 25 #[.int .i64 0, .int .i64 0, .int .i64 0]).ext hE1
  rw [World.size_alloc] at hb4
  have hsz : w.heap.size + 2 ≤ w1.heap.size := by have := hE1.size; simp at this; omega
  have hEx1 := hE1
  clear hE1
  have hc20 := hb2.at_ 0 rfl
  have hc21 := hb2.at_ 1 rfl
  have hc22 := hb2.at_ 2 rfl
  have hc40 := hb4.at_ 0 rfl
  have hc41 := hb4.at_ 1 rfl
  have hc42 := hb4.at_ 2 rfl
  have hf40 := hb4.frozen 0
  have hf41 := hb4.frozen 1
  have hf42 := hb4.frozen 2
  have HX := hide (fun a b c => ((hE.setCell (p := ⟨w.heap.size + 1, 0, none⟩) (by simp) a).setCell (p := ⟨w.heap.size + 1, 1, none⟩) (by simp) b).setCell (p := ⟨w.heap.size + 1, 2, none⟩) (by simp) c)
  have HB := hide (fun a b c => ((hb4.set_ 0 a).set_ 1 b).set_ 2 c)
  go_wp2
  exact bodyPost_ret (results_cell_tmp rfl _ _ (w.heap.size + 1) 25 #[.int .i64 x, .int .i64 y, .int .i64 z] (0, 0) _ (.int .i64 2) rfl rfl (HB.out _ _ _) Try.underlying25 rfl (by kernel_rfl)) rfl (tup_two (HX.out _ _ _) rfl rfl)
set_option maxRecDepth 100000 in
set_option maxHeartbeats 2000000 in
theorem feed_big (c : Cnt) (ps : List (List UInt8)) (v : Value) (w : World) (hP : VParts ps v w) (hrr : rightC c = true) (hbig : 2147483647 < c.1 + ps.flatten.length) : Calls Try.prog 9 #[cntV c, v] w (Ret w (VTup [VEq (cntV c), VEq (.int .i64 2)])) := by
  have hr := right_any c
  have hri := (rightC_iff c).1 hrr
  obtain ⟨A, cc, rfl, hc1, hc2, hx⟩ := VParts.form hP
  clear hP
  unfold maxLen at hc2
  rw [hrr] at hr
  unfold cntV at *
  obtain ⟨x, y, z⟩ := c
  dsimp only at *
  have hx0 : 0 ≤ x := hri.1
  have hx1 : x ≤ 2147483647 := hri.2.1
  have Hbig : Hid (2147483647 < x + (flen ps ps.length : Int)) := by show _ < _; unfold flen; rw [List.take_length]; exact hbig
  clear hrr hri hbig
  go_enter Try.func9, Try.ntmps9
  go_wp2_with fail
  refine (hr _).mono ?_
  rintro e w1 ⟨v, rfl, hE1, rfl⟩
  clear hr
  have hE : Ext w w1 := ((ext_alloc _ _).tr (ext_alloc _ _)).tr hE1
  have hb2 := ((Box.new w 25 #[.int .i64 x, .int .i64 y, .int .i64 z]).alloc (.cells #[.int .i64 0, .int .i64 0, .int .i64 0] 25)).ext hE1
  have hb4 := (Box.new (w.alloc (.cells #[.int .i64 x, .int .i64 y, .int .i64 z] 25)) 25 #[.int .i64 0, .int .i64 0, .int .i64 0]).ext hE1
  rw [World.size_alloc] at hb4
  have hsz : w.heap.size + 2 ≤ w1.heap.size := by have := hE1.size; simp at this; omega
  have hEx1 := hE1
  clear hE1
  have hc20 := hb2.at_ 0 rfl
  have hc21 := hb2.at_ 1 rfl
  have hc22 := hb2.at_ 2 rfl
  have hc40 := hb4.at_ 0 rfl
  have hc41 := hb4.at_ 1 rfl
  have hc42 := hb4.at_ 2 rfl
  have hf40 := hb4.frozen 0
  have hf41 := hb4.frozen 1
  have hf42 := hb4.frozen 2
  have HX := hide (fun a b c => ((hE.setCell (p := ⟨w.heap.size + 1, 0, none⟩) (by simp) a).setCell (p := ⟨w.heap.size + 1, 1, none⟩) (by simp) b).setCell (p := ⟨w.heap.size + 1, 2, none⟩) (by simp) c)
  have HB := hide (fun a b c => ((hb4.set_ 0 a).set_ 1 b).set_ 2 c)
  go_wp2
  go_loop [6, 20] (fun r i => ∃ k m : Nat, k ≤ ps.length ∧ i = .int .i64 (k : Int) ∧ r = .int .i64 (2147483647 - x - (m : Int)) ∧ x + (m : Int) ≤ 2147483647 ∧ Hid (flen ps k = m)) (fun _ i => ps.length - (intOf i).toNat)
  case atStart => exact ⟨0, 0, by omega, rfl, by simp, by simpa using hx1, rfl⟩
  case round =>
    obtain ⟨k, m, hk, rfl, rfl, hm, Hm⟩ := hrel
    by_cases hlt : k < ps.length
    · obtain ⟨b, off, rfl, hb, hcell⟩ := hx (by omega)
      obtain ⟨u, hu1, hu2⟩ := hcell k hlt
      have hu3 := (hE.cell (p := ⟨b, off + k, none⟩) hb).trans hu1
      have Hfl := hide (flen_succ ps k hlt)
      obtain ⟨A2, c2, rfl, hd1, hd2, -⟩ := VBytes.form hu2
      unfold maxLen at hd2
      clear hcell hx hu1 hu2
      generalize ps[k].length = n at *
      by_cases hbg : 2147483647 - x - (m : Int) < (n : Int)
      · go_wp2
        exact bodyPost_ret (results_cell_tmp rfl _ _ (w.heap.size + 1) 25 #[.int .i64 x, .int .i64 y, .int .i64 z] (0, 0) _ (.int .i64 2) rfl rfl (HB.out _ _ _) Try.underlying25 rfl (by kernel_rfl)) rfl (tup_two (HX.out _ _ _) rfl rfl)
      · go_wp2
        go_round
        case rel => exact ⟨k + 1, m + n, by omega, by go_num, congrArg (Value.int .i64) (by omega), by omega, by show _ = _; rw [Hfl.out, Hm.out]⟩
        case measure => simp [intOf]; omega
    · obtain rfl : k = ps.length := by omega
      have := Hbig.out
      rw [Hm.out] at this
      omega
end Go.Proofs.Ytdaghnnmbilgfaa
