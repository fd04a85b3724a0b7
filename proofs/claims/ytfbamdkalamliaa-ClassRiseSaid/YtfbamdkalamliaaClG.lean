/- class.Least, walked. -/
import Derived.Test.YtfbamdkalamliaaClF
namespace Go.Proofs.Ytfbamdkalamliaa
open Go.RowKit Go.Shelf LetM SetM
attribute [local go_sem] Oper.semAt_some
/-- The marks of ranges over functions that are behind. -/
def marksT (ls : List Nat) : List Deferred := ls.map fun D => { target := .collected D, args := #[] }
def Marks (ls : List Nat) (W : World) : Prop := ls.Nodup ∧ ∀ D ∈ ls, W.heap[D]? = some (.deferred (some []))
theorem Marks.st {ls : List Nat} {W W' : World} (h : Marks ls W) (hE : Ext W W') : Marks ls W' := ⟨h.1, fun D hD => (hE.block D (Array.getElem?_eq_some_iff.1 (h.2 D hD)).1).trans (h.2 D hD)⟩
theorem Marks.others {ls : List Nat} {W W' : World} (h : Marks ls W) (hk : KeepsOthers W W') : Marks ls W' := ⟨h.1, fun D hD => hk.same D _ (h.2 D hD) rfl⟩
theorem Marks.from {β : Type} {ls : List Nat} {w : World} (hw : ∀ D ∈ ls, D < w.heap.size) : OwnFrom w.heap.size (fun (_ : β) W => Marks ls W) := fun _ W W' row h hg hr =>
  ⟨h.1, fun D hD => (hg.block D (Array.getElem?_eq_some_iff.1 (h.2 D hD)).1 (fun e => by have := (hr D e.symm).1; have := hw D hD; omega)).trans (h.2 D hD)⟩
theorem leaves_marks {F : Fence} {n : Nat} {P : Program} {fn : Func} {tmps : Array Value} {R : Ending → World → Prop} (B : Nat) (Inv : World → Prop) (hI : ∀ W D, Inv W → B ≤ D → W.heap[D]? = some (.deferred (some [])) → Inv (W.putObj D (.deferred none)))
    (hend : ∀ W, Inv W → LeavesIn F n P fn tmps R [] .returning W) : ∀ (ls : List Nat) (W : World), Inv W → (∀ D ∈ ls, B ≤ D) → Marks ls W → LeavesInM F n P fn tmps R (marksT ls) .returning W
  | [], W, h, _, _ => hend W h
  | D :: ls, W, h, hB, hM => by
    have hD := hM.2 D (by simp)
    refine ⟨by simp, .inl ⟨D, _, rfl, run_takeDeferred hD, ?_⟩⟩
    refine leaves_marks B Inv hI hend ls _ (hI W D h (hB D (by simp)) hD) (fun E hE => hB E (by simp [hE])) ⟨(List.nodup_cons.1 hM.1).2, fun E hE => ?_⟩
    have hne : E ≠ D := fun e => (List.nodup_cons.1 hM.1).1 (e ▸ hE)
    exact (World.putObj_heap_other hne).trans (hM.2 E (by simp [hE]))
/-- The least bytes of classes. -/
def leastL (f : Nat → Int) (ns : List Int) : List UInt8 := ns.flatMap fun cl => (clsL f cl 256).take 1
theorem leastL_snoc (f : Nat → Int) (ns : List Int) (k : Nat) (h : k < ns.length) : leastL f (ns.take (k + 1)) = leastL f (ns.take k) ++ (clsL f ns[k] 256).take 1 := by
  unfold leastL; rw [List.take_succ_eq_append_getElem h, List.flatMap_append]; simp
theorem leastL_len (f : Nat → Int) : ∀ ns : List Int, (leastL f ns).length ≤ ns.length
  | [] => by simp [leastL]
  | n :: ns => by
    have := leastL_len f ns
    unfold leastL at *
    rw [List.flatMap_cons, List.length_append, List.length_take, List.length_cons]
    omega
set_option maxRecDepth 100000 in
set_option maxHeartbeats 4000000 in
theorem clLeast_yes (f : Bool) (ws : List (List UInt8)) (ns : List Int) (u v : Value) (w : World) (hS : VSet f ws u w) (hN : VInts ns v w) (hlen : ws.flatten.length ≤ 1000000) (hn : ws.length ≤ 1000000) (hnl : ns.length ≤ 1000000) (hr : rightS f ws = true) : Calls Try.prog 16 #[u, v] w (Ret w (VBytes (leastL (cRun f (hasB f ws.flatten) 256).1 ns))) := by
  obtain ⟨i0, hi, hz0, hz1, hz2⟩ := info_parts Try.infoB
  have hS0 := hS
  obtain ⟨sl, rfl, hP⟩ := hS
  obtain ⟨A, c, rfl, -⟩ := VParts.form hP
  obtain ⟨B, d, rfl, hd1, hd2, hx⟩ := VInts.form hN
  unfold maxLen at hd2
  clear hP hN
  have hX := ext_alloc w (.cells #[.bool f, .slice A ws.length c] 24)
  have hS1 := VP.st _ _ _ _ hS0 hX
  have hct := clcount_any f ws _ _ hS1 hlen hn hr
  clear hS0 hS1 hr
  refine (callsIn_wide (n := 9)).1 ?_
  have h1 : 1 ≤ 9 := by omega
  refine callsIn_of_wp_marks Try.func16 rfl trivial ?_ rfl
  simp only [Try.ntmps16, List.size_toArray, List.length_cons, List.length_nil, Nat.reduceAdd, Nat.reduceSub, Array.replicate_succ, Array.replicate_zero, List.push_toArray, List.append_toArray, List.nil_append, List.cons_append]
  gi_wp2_with (refine ⟨trivial, ?_⟩; gi_at_call 23; refine (callsIn_wide.2 hct).mono ?_; rintro e w1 ⟨g, rfl, hE1, hge, hbg⟩)
  have hE : Ext w w1 := hX.tr hE1
  clear hct hX hE1
  obtain ⟨cf, hcf⟩ : ∃ cf, (cRun f (hasB f ws.flatten) 256).1 = cf := ⟨_, rfl⟩
  rw [hcf] at hbg
  have Hcf := hide hcf
  clear hcf
  generalize (cRun f (hasB f ws.flatten) 256).2 = m at *
  have HB := hide hbg
  have hgl := hbg.lt
  have hsE := hE.size
  rw [World.size_alloc] at hge
  have HE := hide hE
  have Hb0 : Hid (Box (w1.alloc (.cells #[.slice none 0 0] 26)) w1.heap.size 26 #[.slice none 0 0]) := Box.new _ _ _
  have HX0 : Hid (Ext w1 (w1.alloc (.cells #[.slice none 0 0] 26))) := ext_alloc _ _
  clear hbg hE
  refine wpIn_loop (fun a' w' => ∃ (k : Nat) (ls : List Nat) (sv u20 u9 u10 u21 u22 u23 u24 u25 u26 u27 u28 u29 u30 u31 u32 u33 u34 : Value),
    (k ≤ ns.length ∧ u20 = .int .i64 (k : Int) ∧ Hid (Box w' w1.heap.size 26 #[sv]) ∧ Hid (w'.ownsRow (w1.heap.size + 1) 5 1 sv (leastL cf (ns.take k)).length ((leastL cf (ns.take k)).map byteV)) ∧ Hid (Ext w1 w') ∧ Hid (Marks ls w') ∧ Hid (∀ D ∈ ls, w1.heap.size ≤ D)) ∧
    a' = { tmps := #[.agg #[.bool f, .slice A ws.length c], .slice B ns.length d, .pointer (some ⟨w.heap.size, 0, none⟩), undef, .slice none 0 0, .pointer (some ⟨g, 0, none⟩), .bool true, .pointer (some ⟨w1.heap.size, 0, none⟩), undef, u9, u10,
      .tuple #[.pointer (some ⟨g, 0, none⟩), .bool true], .agg #[.bool f, .slice A ws.length c], .tuple #[.pointer (some ⟨g, 0, none⟩), .bool true], .pointer (some ⟨g, 0, none⟩), .bool true, .bool true, .bool false,
      .slice B ns.length d, .int .i64 (ns.length : Int), u20, u21, u22, u23, u24, u25, u26, u27, u28, u29, u30, u31, u32, u33, u34, undef], defers := marksT ls })
    (fun a' _ => ns.length - (intOf (a'.tmps.getD 20 undef)).toNat) ?start ?round
  case start => exact ⟨0, [], .slice none 0 0, .int .i64 0, _, _, _, _, _, _, _, _, _, _, _, _, _, _, _, _, ⟨Nat.zero_le _, rfl, Hb0, World.ownsRow_nil _ _ _ _, HX0, ⟨List.nodup_nil, fun D hD => by cases hD⟩, fun D hD => by cases hD⟩, rfl⟩
  case round =>
    rintro _ wr ⟨k, ls, sv, _, u9, u10, u21, u22, u23, u24, u25, u26, u27, u28, u29, u30, u31, u32, u33, u34, ⟨hk, rfl, Hb, HO, HX, HM, HD⟩, rfl⟩
    clear Hb0 HX0
    by_cases hlt : k < ns.length
    · obtain ⟨b, off, rfl, hbl, hcell⟩ := hx (by omega)
      have hx3 := ((HE.out.tr HX.out).cell (p := ⟨b, off + k, none⟩) hbl).trans (hcell k hlt)
      gi_wp2_with (refine ⟨trivial, ?_⟩; gi_at_call 25; refine (callsIn_wide.2 (clof_any _ _ _)).mono ?_; rintro e w2 ⟨rfl, rfl⟩)
      have Hsn := hide (leastL_snoc cf ns k hlt)
      have hacl := leastL_len cf (ns.take k)
      rw [List.length_take] at hacl
      generalize ns[k] = cl at *
      obtain ⟨acc, hacc⟩ : ∃ acc, leastL cf (ns.take k) = acc := ⟨_, rfl⟩
      rw [hacc] at HO Hsn hacl
      obtain ⟨W0, hW0⟩ : ∃ W0, (wr.alloc (.cells #[.pointer (some ⟨g, 0, none⟩)] 67)).alloc (.cells #[.int .i64 cl] 3) = W0 := ⟨_, rfl⟩
      have hs0 : W0.heap.size = wr.heap.size + 2 := by rw [← hW0]; simp
      have hE0 : Ext wr W0 := by rw [← hW0]; exact (ext_alloc _ _).tr (ext_alloc _ _)
      have hbt : Box W0 wr.heap.size 67 #[.pointer (some ⟨g, 0, none⟩)] := by rw [← hW0]; exact (Box.new _ _ _).alloc _
      have hbc : Box W0 (wr.heap.size + 1) 3 #[.int .i64 cl] := by
        rw [← hW0]; have := Box.new (wr.alloc (.cells #[.pointer (some ⟨g, 0, none⟩)] 67)) 3 #[.int .i64 cl]
        rwa [World.size_alloc] at this
      rw [hW0]
      have hst := of_stops Fence.wide 8 trivial rfl (by omega) wr.heap.size (wr.heap.size + 1) g cf m cl W0 (hbt.at_ 0 rfl) (HB.out.ext (HX.out.tr hE0)) (hbc.at_ 0 rfl)
      have hsX := HX.out.size
      have hml : ∀ D ∈ ls, D < W0.heap.size := fun D hD => by have := (Array.getElem?_eq_some_iff.1 (HM.out.2 D hD)).1; omega
      clear hx hcell hacc
      refine wpIn_rangeFunc_ownF (F := Fence.wide) rfl h1 (gf := 35) (lb := #[.pointer (some ⟨wr.heap.size, 0, none⟩), .pointer (some ⟨wr.heap.size + 1, 0, none⟩)]) rfl trivial (enters_of Try.func35 (by kernel_rfl) rfl)
        hst KeepK.t (keepK_b (fun k hk => by subst hk; omega)) (Below.refl _ _) (fun _ => rfl)
        (fun pre W => ((pre = [] ∧ ∃ sv, Box W w1.heap.size 26 #[sv] ∧ W.ownsRow (w1.heap.size + 1) 5 1 sv acc.length (acc.map byteV)) ∧ Below w1.heap.size w1 W) ∧ Marks ls W)
        (fun c pre W => ((∃ x, pre = [x] ∧ c = .exit 2 ∧ ∃ sv, Box W w1.heap.size 26 #[sv] ∧ W.ownsRow (w1.heap.size + 1) 5 1 sv (acc ++ [x]).length ((acc ++ [x]).map byteV)) ∧ Below w1.heap.size w1 W) ∧ Marks ls W)
        (OwnFrom.and (OwnFrom.and (fun s W W' row h hg hr => ⟨h.1, own_ownFrom acc W W' row h.2 hg hr⟩) (ownFrom_below (Nat.le_refl _) (by omega))) (Marks.from hml))
        (fun c => OwnFrom.and (OwnFrom.and (fun s W W' row h hg hr => by obtain ⟨x, e1, e2, h⟩ := h; exact ⟨x, e1, e2, own_ownFrom (acc ++ [x]) W W' row h hg hr⟩) (ownFrom_below (Nat.le_refl _) (by omega))) (Marks.from hml))
        ⟨⟨⟨rfl, sv, Hb.out.ext hE0, own_st HO.out hE0⟩, HX.out.tr hE0⟩, HM.out.st hE0⟩
        (fun x => { tmps := #[.agg #[.bool f, .slice A ws.length c], .slice (some ⟨b, off, none⟩) ns.length d, .pointer (some ⟨w.heap.size, 0, none⟩), undef, .slice none 0 0, .pointer (some ⟨g, 0, none⟩), .bool true, .pointer (some ⟨w1.heap.size, 0, none⟩), undef, .int .i64 cl, .int .u8 (x.toNat : Int),
      .tuple #[.pointer (some ⟨g, 0, none⟩), .bool true], .agg #[.bool f, .slice A ws.length c], .tuple #[.pointer (some ⟨g, 0, none⟩), .bool true], .pointer (some ⟨g, 0, none⟩), .bool true, .bool true, .bool false,
      .slice (some ⟨b, off, none⟩) ns.length d, .int .i64 (ns.length : Int), .int .i64 (k : Int), .bool true, .pointer (some ⟨b, off + k, none⟩), .int .i64 cl, .pointer (some ⟨g, 0, none⟩), .pointer (some ⟨g, 0, none⟩), .pointer (some ⟨g, 0, none⟩), .int .i64 cl,
      .func (.func 35) #[] #[.pointer (some ⟨wr.heap.size, 0, none⟩), .pointer (some ⟨wr.heap.size + 1, 0, none⟩)], .int .u8 (x.toNat : Int), u30, u31, u32, u33, u34, undef], defers := [] }) ?assign ?body ?done ?stop
      case assign =>
        intro l x W K hK
        gi_wp2
        exact hK
      case body =>
        rintro l pre x W ⟨⟨⟨rfl, sv, hb, ho⟩, hB⟩, hM⟩ hpl
        obtain ⟨B1, c1, rfl⟩ := own_form ho
        have hc7 := hb.at_ 0 rfl
        have hf7 := hb.frozen 0
        have hXa : Ext W (W.alloc (.cells #[.int .u8 (x.toNat : Int)] 5)) := ext_alloc _ _
        have hca := (hb.ext hXa).at_ 0 rfl
        have HO := hide (own_st ho hXa)
        have Hb := hide (hb.ext hXa)
        have hlo := own_ge ho
        have hWs := hB.size
        have hlb := hb.lt
        clear hb ho
        gi_wp2_with (gi_at_builtin; refine wpListIn_append_src rfl _ _ 26 rfl (w1.heap.size + 1) 5 i0 (.int .u8 0) 1 1 Try.underlying26 hi hz0 hz1 hz2 rfl (by omega) _ _ acc.length 1 (acc.map byteV) [.int .u8 (x.toNat : Int)] rfl HO.out rfl rfl (Src.new _ _ _ _) (fun y hy => by rw [List.mem_singleton] at hy; subst hy; rfl) (by omega) (by simp; omega) ?_; intro v' w' hown hgrow hat; obtain ⟨A4, c4, hv4⟩ := own_form hown; subst hv4; have hb' := Hb.out.grows hgrow (fun e => absurd (hlo _ e) (by omega)); have hc' := hb'.at_ 0 rfl; have hf' := hb'.frozen 0)
        have hne4 : Value.ownBlock (.slice A4 (acc.length + 1) c4) ≠ some w1.heap.size := fun e => absurd (own_ge hown _ e) (by omega)
        have hko := (KeepsOthers.alloc W (.cells #[.int .u8 (x.toNat : Int)] 5)).trans ((KeepsOthers.of_grownBy hgrow (own_cells HO.out)).trans (KeepsOthers.setCell _ ⟨w1.heap.size, 0, none⟩ (.slice A4 (acc.length + 1) c4)))
        refine ⟨hko, ⟨⟨x, rfl, rfl, _, hb'.set_ 0 _, ?_⟩, (below_ng hB hgrow (fun k hk => Nat.le_trans (by omega) (hlo k hk))).setCell (p := ⟨w1.heap.size, 0, none⟩) (Nat.le_refl _) _⟩, hM.others hko⟩
        rw [List.length_append, List.map_append]
        exact own_set hown _ hne4 _
      case done =>
        rintro D ys W hD rfl ⟨⟨⟨hp, sv, hb, ho⟩, hB⟩, hM⟩ hK
        have Hn := hide (show leastL cf (ns.take (k + 1)) = acc by rw [Hsn.out, hp]; simp)
        have HM2 : Hid (Marks (D :: ls) W) := hide ⟨List.nodup_cons.2 ⟨fun h => absurd (hml D h) (by omega), hM.1⟩, fun E hE => by
          rcases List.mem_cons.1 hE with rfl | h
          · exact hK
          · exact hM.2 E h⟩
        have HD2 : Hid (∀ E ∈ D :: ls, w1.heap.size ≤ E) := hide (fun E hE => by
          rcases List.mem_cons.1 hE with rfl | h
          · omega
          · exact HD.out E h)
        have Hb2 := hide hb
        have Ho2 := hide ho
        have HB2 := hide hB
        clear hb ho hB hM hK hst Hb HO HX HM HD
        gi_wp2
        exact ⟨⟨k + 1, D :: ls, sv, _, _, _, _, _, _, _, _, _, _, _, _, _, _, _, _, _, ⟨by omega, by go_num, Hb2, by rw [Hn.out]; exact Ho2, HB2, HM2, HD2⟩, rfl⟩, by simp [intOf]; omega⟩
      case stop =>
        rintro D c pre W hD hpre ⟨⟨⟨x, rfl, rfl, sv, hb, ho⟩, hB⟩, hM⟩ hK
        have Hn := hide (show leastL cf (ns.take (k + 1)) = acc ++ [x] by
          obtain ⟨t, ht⟩ := hpre
          rw [Hsn.out, ← ht]; simp)
        have HM2 : Hid (Marks (D :: ls) W) := hide ⟨List.nodup_cons.2 ⟨fun h => absurd (hml D h) (by omega), hM.1⟩, fun E hE => by
          rcases List.mem_cons.1 hE with rfl | h
          · exact hK
          · exact hM.2 E h⟩
        have HD2 : Hid (∀ E ∈ D :: ls, w1.heap.size ≤ E) := hide (fun E hE => by
          rcases List.mem_cons.1 hE with rfl | h
          · omega
          · exact HD.out E h)
        have Hb2 := hide hb
        have Ho2 := hide ho
        have HB2 := hide hB
        clear hb ho hB hM hK hst Hb HO HX HM HD hpre
        gi_wp2
        exact ⟨⟨k + 1, D :: ls, sv, _, _, _, _, _, _, _, _, _, _, _, _, _, _, _, _, _, ⟨by omega, by go_num, Hb2, by rw [Hn.out]; exact Ho2, HB2, HM2, HD2⟩, rfl⟩, by simp [intOf]; omega⟩
    · obtain rfl : k = ns.length := by omega
      rw [List.take_length] at HO
      have hl2 := leastL_len cf ns
      obtain ⟨B1, c1, rfl⟩ := own_form HO.out
      have hc7 := Hb.out.at_ 0 rfl
      gi_wp2
      refine leaves_marks w1.heap.size (fun W => Below w1.heap.size w1 W ∧ OwnB W (w1.heap.size + 1) 5 (.slice B1 (leastL cf ns).length c1) (leastL cf ns)) (fun W D hI hD hW => ⟨hI.1.trans ?_, own_nc hI.2 (grownBy_putObj' W D _) (fun r e => by cases e; exact ⟨_, hW, rfl⟩)⟩) ?_ ls _ ⟨HX.out, HO.out⟩ HD.out HM.out
      · exact belowK_b (w := w1) (Nat.le_refl _) _ D _ _ hD hW rfl rfl
      · rintro W ⟨h1, h2⟩
        refine ⟨.slice B1 (leastL cf ns).length c1, by simp [results, Try.results16, go_sem], ?_⟩
        refine Ret.mk (HE.out.tr h1) ?_
        rw [Hcf.out]
        exact OwnB.bytes h2
/-- What Bytes and Least tell. -/
def bytesO (f : Bool) (ws : List (List UInt8)) (cl : Int) : List UInt8 := if rightS f ws then clsL (cRun f (hasB f ws.flatten) 256).1 cl 256 else []
def leastO (f : Bool) (ws : List (List UInt8)) (ns : List Int) : List UInt8 := if rightS f ws then leastL (cRun f (hasB f ws.flatten) 256).1 ns else []
set_option maxRecDepth 100000 in
set_option maxHeartbeats 1000000 in
theorem clBytes_any (f : Bool) (ws : List (List UInt8)) (cl : Int) (u : Value) (w : World) (hS : VSet f ws u w) (hlen : ws.flatten.length ≤ 1000000) (hn : ws.length ≤ 1000000) : Calls Try.prog 14 #[u, .int .i64 cl] w (Ret w (VBytes (bytesO f ws cl))) := by
  by_cases hr : rightS f ws = true
  · rw [show bytesO f ws cl = _ from if_pos hr]; exact clBytes_yes f ws cl u w hS hlen hn hr
  · have hr : rightS f ws = false := by simpa using hr
    have e : bytesO f ws cl = [] := by unfold bytesO; rw [hr]; rfl
    have hS0 := hS
    obtain ⟨sl, rfl, hP⟩ := hS
    obtain ⟨A, c, rfl, -⟩ := VParts.form hP
    have hX := ext_alloc w (.cells #[.bool f, .slice A ws.length c] 24)
    have hct := clcount_no f ws _ _ (VP.st _ _ _ _ hS0 hX) hlen hn hr
    rw [e]
    clear e hr hS0 hP
    go_enter Try.func14, Try.ntmps14
    go_wp2_with fail
    refine hct.mono ?_
    rintro _ w1 ⟨u, rfl, hE1, rfl⟩
    go_wp2
    exact bodyPost_ret (v := .slice none 0 0) (by simp [results, Try.results14, go_sem]) rfl (Ret.mk (hX.tr hE1) (OwnB.bytes (OwnB.nil _ 0 5)))
set_option maxRecDepth 100000 in
set_option maxHeartbeats 1000000 in
theorem clLeast_any (f : Bool) (ws : List (List UInt8)) (ns : List Int) (u v : Value) (w : World) (hS : VSet f ws u w) (hN : VInts ns v w) (hlen : ws.flatten.length ≤ 1000000) (hn : ws.length ≤ 1000000) (hnl : ns.length ≤ 1000000) : Calls Try.prog 16 #[u, v] w (Ret w (VBytes (leastO f ws ns))) := by
  by_cases hr : rightS f ws = true
  · rw [show leastO f ws ns = _ from if_pos hr]; exact clLeast_yes f ws ns u v w hS hN hlen hn hnl hr
  · have hr : rightS f ws = false := by simpa using hr
    have e : leastO f ws ns = [] := by unfold leastO; rw [hr]; rfl
    have hS0 := hS
    obtain ⟨sl, rfl, hP⟩ := hS
    obtain ⟨A, c, rfl, -⟩ := VParts.form hP
    obtain ⟨B, d, rfl, -⟩ := VInts.form hN
    have hX := ext_alloc w (.cells #[.bool f, .slice A ws.length c] 24)
    have hct := clcount_no f ws _ _ (VP.st _ _ _ _ hS0 hX) hlen hn hr
    rw [e]
    clear e hr hS0 hP hN
    go_enter Try.func16, Try.ntmps16
    go_wp2_with fail
    refine hct.mono ?_
    rintro _ w1 ⟨u, rfl, hE1, rfl⟩
    go_wp2
    exact bodyPost_ret (v := .slice none 0 0) (by simp [results, Try.results16, go_sem]) rfl (Ret.mk (hX.tr hE1) (OwnB.bytes (OwnB.nil _ 0 5)))
end Go.Proofs.Ytfbamdkalamliaa
