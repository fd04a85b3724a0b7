/- PatsetOwn, walked. -/
import Derived.Test.YtkbhkadienddmaaPatU
import Derived.Test.YtkbhkadienddmaaRJ
import Derived.Test.YtkbhkadienddmaaPatM
import Derived.Test.YtkbhkadienddmaaB
namespace Go.Proofs.Ytkbhkadienddmaa
open Go.RowKit Go.Shelf LetM SetM
theorem Box.poke {w : World} {g b : Nat} {t e1 : TypeId} {cs : Array Value} (h : Box w g t cs) (hb : ∃ cs m, w.heap[b]? = some (.cells cs e1 m)) (he : e1 ≠ t) (i : Nat) (z : Value) : Box (w.setCell ⟨b, i, none⟩ z) g t cs := by
  obtain ⟨cs', m, h2⟩ := hb
  refine h.far (p := ⟨b, i, none⟩) (fun e0 => ?_) z
  simp only at e0
  subst e0
  have h3 : w.heap[g]? = _ := h
  rw [h2] at h3
  cases h3
  exact he rfl
/-- Two sets of one's own, of words of these lengths. -/
structure OwnS (B g6 g8 : Nat) (f1 f2 : Bool) (s1 s2 : Value) (n1 n2 : List Nat) (w0 w : World) : Prop where
  b6 : Box w g6 24 #[.bool f1, s1]
  b8 : Box w g8 24 #[.bool f2, s2]
  o1 : OwnL w B 25 5 s1 n1
  o2 : OwnL w B 25 5 s2 n2
  ext : Below B w0 w
theorem OwnS.poke {B g6 g8 : Nat} {f1 f2 : Bool} {s1 s2 : Value} {n1 n2 : List Nat} {w0 w : World} (h : OwnS B g6 g8 f1 f2 s1 s2 n1 n2 w0 w) {b : Nat} (hB : B ≤ b) (hb : ∃ cs m, w.heap[b]? = some (.cells cs 5 m)) (i : Nat) (z : UInt8) : OwnS B g6 g8 f1 f2 s1 s2 n1 n2 w0 (w.setCell ⟨b, i, none⟩ (byteV z)) :=
  ⟨h.b6.poke hb (by decide) i _, h.b8.poke hb (by decide) i _, h.o1.poke (by decide) hb i z, h.o2.poke (by decide) hb i z, h.ext.setCell (p := ⟨b, i, none⟩) hB _⟩
theorem OwnS.st {B g6 g8 : Nat} {f1 f2 : Bool} {s1 s2 : Value} {n1 n2 : List Nat} {w0 w w' : World} (h : OwnS B g6 g8 f1 f2 s1 s2 n1 n2 w0 w) (hE : Ext w w') (hB : B ≤ w.heap.size) : OwnS B g6 g8 f1 f2 s1 s2 n1 n2 w0 w' :=
  ⟨h.b6.ext hE, h.b8.ext hE, h.o1.st hE, h.o2.st hE, Below.trans h.ext (hE.mono hB)⟩
theorem OwnP.lens {w : World} {base base' : Nat} {e e1 : TypeId} {v : Value} {ps : List (List UInt8)} (h : OwnP w base e e1 v ps) (hb : base' ≤ base) : OwnL w base' e e1 v (ps.map List.length) := ⟨ps, rfl, OwnP.low h hb⟩
set_option maxRecDepth 100000 in
set_option maxHeartbeats 8000000 in
theorem patsetOwn_any (fold : Bool) (ls : List (List UInt8)) (vl : Value) (w : World) (hL : VParts ls vl w) : Calls Try.prog 7 #[.bool fold, vl] w (Ret w (VEq (.bool true))) := by
  have hwk := wakes_any
  have hg1 := fun W hv => great_any ls vl W hv
  unfold VGreat at hg1
  have hL0 := hL
  obtain ⟨A, c, rfl, hc1, hc2, -⟩ := VParts.form hL
  unfold maxLen at hc2
  clear hL
  go_enter Try.func7, Try.ntmps7
  go_wp2_with fail
  refine (hg1 _ hL0).mono ?_
  rintro e w1 ⟨u, rfl, hE, rfl⟩
  obtain ⟨g1, hq1⟩ : ∃ g, greatB ls = g := ⟨_, rfl⟩
  rw [hq1]
  clear hg1
  cases g1
  case true =>
    clear hL0 hq1
    go_wp2_with fail
    refine (hwk _).mono ?_
    rintro e w3 ⟨u, rfl, hE3, rfl⟩
    go_wp2
    go_ret
    exact Ret.mk (hE.tr hE3) rfl
  obtain ⟨l1, l2⟩ := greatB_false hq1
  clear hq1
  have hl := VP.st _ _ _ _ hL0 hE
  obtain ⟨⟨f1, p1, e1⟩, hm⟩ : ∃ m, makeR fold ls = m := ⟨_, rfl⟩
  have hmk := fun v W (hv : VParts ls v W) => pmake_any fold ls v W hv (by omega) (by omega)
  rw [hm] at hmk
  dsimp only at hmk
  have hp1 : p1.length ≤ 80 ∧ p1.flatten.length ≤ 3000 := by
    have h1 := makeFrom_len fold ls []
    have h2 := make_flat fold ls []
    simp only [List.length_nil, List.flatten_nil] at h1 h2
    unfold makeR at hm
    split at hm
    · cases hm; exact ⟨by omega, by omega⟩
    · cases hm; exact ⟨by simp, by simp⟩
  have how := fun v W (hv : VSet false ls v W) => pown_any false ls v W hv (fun b hb => Nat.le_trans (flat_mem hb) (by omega)) (by omega)
  have hjn := fun J (hJ : ls.flatten = J) v W (hv : VParts ls v W) => c_rjoin (w0 := W) ls (by omega) v W (Ext.rf W) hv
  clear hm
  go_upto_region 3 with (fail)
  refine vregion0 3 (by kernel_rfl) ?_
  refine VWalk.move _ rfl (want_none rfl) (opd_fr 1 rfl hl (Ext.rf _) (by kernel_rfl)) ?_
  refine VWalk.call1 27 _ _ rfl (enters_of Try.func27 (by kernel_rfl) rfl) (want_none rfl) (opd_dep 0 16 0 rfl rfl rfl rfl) (c_rjoin ls (by omega)) ?_
  refine VWalk.string 25 9 5 _ rfl Try.underlying25 Try.underlying5 Try.underlying9 (want_none rfl) (opd_dep 1 17 0 rfl rfl rfl rfl) ?_
  refine ⟨rfl, fun W3 hE3 => ?_⟩
  refine VFin.any fun v3_0 hv3_0 => ?_
  refine VFin.any fun v3_1 hv3_1 => ?_
  refine VFin.eq ?_  -- 2
  refine VFin.nil ?_
  simp only [Act.put, List.setIfInBounds_toArray, List.set_cons_zero, List.set_cons_succ]
  clear hv3_0 hv3_1
  have hl := VP.st _ _ _ _ hl hE3
  have hE := hE.tr hE3
  obtain ⟨J, hJ⟩ : ∃ J, ls.flatten = J := ⟨_, rfl⟩
  rw [hJ]
  have HJ := hide hJ
  clear hJ
  go_wp2_with fail
  refine (hmk _ _ hl).mono ?_
  rintro e w4 ⟨u, rfl, hE4, s1, rfl, hO1⟩
  obtain ⟨A1, c1, hs1⟩ := OwnP.form hO1
  subst hs1
  have hX4 := hE4.tr (ext_alloc w4 (.cells #[.bool f1, .slice A1 p1.length c1] 24))
  have hb6 := Box.new w4 24 #[.bool f1, .slice A1 p1.length c1]
  have hO1 := OwnP.st hO1 (ext_alloc w4 (.cells #[.bool f1, .slice A1 p1.length c1] 24))
  have hl := VP.st _ _ _ _ hl hX4
  clear hmk hE4
  go_wp2_with fail
  refine (how _ _ ⟨_, rfl, hl⟩).mono ?_
  rintro e w5 ⟨u, rfl, hE5, s2, rfl, hO2⟩
  obtain ⟨A2, c2, hs2⟩ := OwnP.form hO2
  subst hs2
  have hE6 := hE5.tr (ext_alloc w5 (.cells #[.bool false, .slice A2 ls.length c2] 24))
  have hb8 := Box.new w5 24 #[.bool false, .slice A2 ls.length c2]
  have hO2 := OwnP.st hO2 (ext_alloc w5 (.cells #[.bool false, .slice A2 ls.length c2] 24))
  have hb6 := hb6.ext hE6
  have hO1 := OwnP.st hO1 hE6
  have hX5 := hX4.tr hE6
  have hBB := hX4.size
  obtain ⟨n1, hn1⟩ : ∃ n, p1.map List.length = n := ⟨_, rfl⟩
  obtain ⟨n2, hn2⟩ : ∃ n, ls.map List.length = n := ⟨_, rfl⟩
  have hn1l : p1.length = n1.length := by rw [← hn1, List.length_map]
  have hn2l : ls.length = n2.length := by rw [← hn2, List.length_map]
  have hOS : OwnS W3.heap.size w4.heap.size w5.heap.size f1 false (.slice A1 p1.length c1) (.slice A2 ls.length c2) n1 n2 W3 (w5.alloc (.cells #[.bool false, .slice A2 ls.length c2] 24)) :=
    ⟨hb6, hb8, by rw [← hn1]; exact OwnP.lens hO1 (Nat.le_refl _), by rw [← hn2]; exact OwnP.lens hO2 hBB, hX5⟩
  have hL3 : ∀ n ∈ n1, n ≤ 3000 := fun n hn => by
    rw [← hn1] at hn
    obtain ⟨b, hb, rfl⟩ := List.mem_map.1 hn
    exact Nat.le_trans (flat_mem hb) hp1.2
  have hL4 : ∀ n ∈ n2, n ≤ 3000 := fun n hn => by
    rw [← hn2] at hn
    obtain ⟨b, hb, rfl⟩ := List.mem_map.1 hn
    exact Nat.le_trans (flat_mem hb) l2
  have H1l := hide hn1l
  have H2l := hide hn2l
  have HOS := hide hOS
  clear hOS hb6 hb8 hO1 hO2 hX4 hX5 hE5 hE6 hl how hn1l hn2l hn1 hn2 hjn
  go_wp2
  go_loopw [9] (fun i wr => ∃ k : Nat, k ≤ p1.length ∧ i = .int .i64 (k : Int) ∧ Hid (OwnS W3.heap.size w4.heap.size w5.heap.size f1 false (.slice A1 p1.length c1) (.slice A2 ls.length c2) n1 n2 W3 wr)) (fun i _ => p1.length - (intOf i).toNat)
  case atStart => exact ⟨0, by omega, rfl, HOS⟩
  case round =>
    clear HOS
    obtain ⟨k, hk, rfl, HS⟩ := hrel
    generalize wr = wa at *
    by_cases hlt0 : k < p1.length
    · have hlt : k < n1.length := by rw [← H1l.out]; exact hlt0
      have hd := HS.out.b6.at_ 1 rfl
      go_wp2
      go_loopw [10] (fun j wr => ∃ q : Nat, q ≤ n1[k] ∧ j = .int .i64 (q : Int) ∧ Hid (OwnS W3.heap.size w4.heap.size w5.heap.size f1 false (.slice A1 p1.length c1) (.slice A2 ls.length c2) n1 n2 W3 wr)) (fun j _ => n1[k] - (intOf j).toNat)
      case atStart => exact ⟨0, by omega, rfl, HS⟩
      case round =>
        clear HS hd
        obtain ⟨j, hj, rfl, HS⟩ := hrel
        have hd := HS.out.b6.at_ 1 rfl
        have hnl := hL3 _ (List.getElem_mem hlt)
        by_cases hlj : j < n1[k]
        · obtain ⟨g, cap, b, off, cw, z, hv, hck, hcz, hfz, hbB, hbt⟩ := HS.out.o1.at_ k j hlt hlj
          rw [← H1l.out] at hv
          cases hv
          unfold byteV at hcz
          go_upto_region 12 with (fail)
          refine vregion 16 [] (by kernel_rfl) (by kernel_rfl) (fun _ _ _ _ _ h => h) ?_
          refine VWalk.det1 (Operand.tmp 6) (want_none rfl) (opd_frame 6 rfl (by kernel_rfl)) (fun ρ w hE h1 => by simp [execOp, h1, go_sem]; rfl) ?_
          refine VWalk.load1 22 _ rfl (want_none rfl) (opd_dep 0 45 0 rfl rfl rfl rfl) (fun _ => by kernel_rfl) hd (ext_drew _) ?_
          refine VWalk.move _ rfl (want_none rfl) (opd_frame 9 rfl (by kernel_rfl)) ?_
          refine VWalk.index1E 22 25 _ _ .i64 k rfl Try.underlying22 (by kernel_rfl) (want_none rfl) (opd_dep 1 46 1 rfl rfl rfl rfl) (opd_dep 2 47 0 rfl rfl rfl rfl) hlt0 ?_
          refine VWalk.load1 25 _ rfl (want_none rfl) (opd_dep 3 48 0 rfl rfl rfl rfl) (fun _ => by kernel_rfl) hck (ext_drew _) ?_
          refine VWalk.move _ rfl (want_none rfl) (opd_frame 10 rfl (by kernel_rfl)) ?_
          refine VWalk.det1 (Operand.tmp 6) (want_none rfl) (opd_frame 6 rfl (by kernel_rfl)) (fun ρ w hE h1 => by simp [execOp, h1, go_sem]; rfl) ?_
          refine VWalk.load1 22 _ rfl (want_none rfl) (opd_dep 6 51 0 rfl rfl rfl rfl) (fun _ => by kernel_rfl) hd (ext_drew _) ?_
          refine VWalk.move _ rfl (want_none rfl) (opd_frame 9 rfl (by kernel_rfl)) ?_
          refine VWalk.index1E 22 25 _ _ .i64 k rfl Try.underlying22 (by kernel_rfl) (want_none rfl) (opd_dep 7 52 1 rfl rfl rfl rfl) (opd_dep 8 53 0 rfl rfl rfl rfl) hlt0 ?_
          refine VWalk.load1 25 _ rfl (want_none rfl) (opd_dep 9 54 0 rfl rfl rfl rfl) (fun _ => by kernel_rfl) hck (ext_drew _) ?_
          refine VWalk.move _ rfl (want_none rfl) (opd_frame 10 rfl (by kernel_rfl)) ?_
          refine VWalk.index1O 25 5 _ _ .i64 j rfl Try.underlying25 (by kernel_rfl) (want_none rfl) (opd_dep 10 55 1 rfl rfl rfl rfl) (opd_dep 11 56 0 rfl rfl rfl rfl) hlj ?_
          refine VWalk.load1 5 _ rfl (want_none rfl) (opd_dep 12 57 0 rfl rfl rfl rfl) (fun _ => by kernel_rfl) hcz (ext_drew _) ?_
          refine VWalk.det2 (r := .int .u8 ((z ^^^ 255).toNat : Int)) (Operand.tmp 58) (Operand.const (Value.int IntKind.u8 255)) (want_none rfl) (opd_dep 13 58 0 rfl rfl rfl rfl) (opd_const _) (fun ρ w hE h1 h2 => by simp [execOp, h1, h2, go_sem]; exact bits_xor_u8 z 255) ?_
          refine VWalk.index1O 25 5 _ _ .i64 j rfl Try.underlying25 (by kernel_rfl) (want_none rfl) (opd_dep 4 49 10 rfl rfl rfl rfl) (opd_dep 5 50 9 rfl rfl rfl rfl) hlj ?_
          refine ⟨rfl, fun W12 hE12 => ?_⟩
          refine VFin.eq ?_  -- 0
          refine VFin.eq ?_  -- 1
          refine VFin.eq ?_  -- 2
          refine VFin.eq ?_  -- 3
          refine VFin.eq ?_  -- 4
          refine VFin.eq ?_  -- 5
          refine VFin.eq ?_  -- 6
          refine VFin.eq ?_  -- 7
          refine VFin.eq ?_  -- 8
          refine VFin.eq ?_  -- 9
          refine VFin.eq ?_  -- 10
          refine VFin.eq ?_  -- 11
          refine VFin.eq ?_  -- 12
          refine VFin.eq ?_  -- 13
          refine VFin.eq ?_  -- 14
          refine VFin.eq ?_  -- 15
          refine VFin.nil ?_
          simp only [Act.put, List.setIfInBounds_toArray, List.set_cons_zero, List.set_cons_succ]
          have hE := ((ext_drew _).tr hE12)
          have hX := (ext_drew wr).tr hE12
          have hlb : b < wr.heap.size := by obtain ⟨cs, m, h⟩ := hbt; exact (Array.getElem?_eq_some_iff.1 h).1
          have hcz := (hX.cell (p := ⟨b, off + j, none⟩) hlb).trans hcz
          have hfz := (hX.frozen (p := ⟨b, off + j, none⟩) hlb).trans hfz
          have hbt : ∃ cs m, W12.heap[b]? = some (.cells cs 5 m) := by obtain ⟨cs, m, h⟩ := hbt; exact ⟨cs, m, (hX.block b hlb).trans h⟩
          have HS2 := hide (OwnS.poke (HS.out.st hX HS.out.ext.size) hbB hbt (off + j) (z ^^^ 255))
          clear hX HS hd hck hbt
          go_wp2
          exact ⟨⟨j + 1, by omega, by go_num, HS2⟩, by simp [intOf]; omega⟩
        · obtain rfl : j = n1[k] := by omega
          obtain ⟨g, cap, A9, c9, hv, hck⟩ := HS.out.o1.word k hlt
          rw [← H1l.out] at hv
          cases hv
          go_wp2
          exact ⟨⟨k + 1, by omega, by go_num, HS⟩, by simp [intOf]; omega⟩
    · obtain rfl : k = p1.length := by omega
      have HOS := HS
      clear HS
      have hd := HOS.out.b6.at_ 1 rfl
      go_wp2
      go_loopw [11] (fun i wr => ∃ k : Nat, k ≤ ls.length ∧ i = .int .i64 (k : Int) ∧ Hid (OwnS W3.heap.size w4.heap.size w5.heap.size f1 false (.slice A1 p1.length c1) (.slice A2 ls.length c2) n1 n2 W3 wr)) (fun i _ => ls.length - (intOf i).toNat)
      case atStart => exact ⟨0, by omega, rfl, HOS⟩
      case round =>
        clear HOS
        obtain ⟨k, hk, rfl, HS⟩ := hrel
        generalize wr = wa at *
        by_cases hlt0 : k < ls.length
        · have hlt : k < n2.length := by rw [← H2l.out]; exact hlt0
          have hd := HS.out.b8.at_ 1 rfl
          go_wp2
          go_loopw [12] (fun j wr => ∃ q : Nat, q ≤ n2[k] ∧ j = .int .i64 (q : Int) ∧ Hid (OwnS W3.heap.size w4.heap.size w5.heap.size f1 false (.slice A1 p1.length c1) (.slice A2 ls.length c2) n1 n2 W3 wr)) (fun j _ => n2[k] - (intOf j).toNat)
          case atStart => exact ⟨0, by omega, rfl, HS⟩
          case round =>
            clear HS hd
            obtain ⟨j, hj, rfl, HS⟩ := hrel
            have hd := HS.out.b8.at_ 1 rfl
            have hnl := hL4 _ (List.getElem_mem hlt)
            by_cases hlj : j < n2[k]
            · obtain ⟨g, cap, b, off, cw, z, hv, hck, hcz, hfz, hbB, hbt⟩ := HS.out.o2.at_ k j hlt hlj
              rw [← H2l.out] at hv
              cases hv
              unfold byteV at hcz
              go_upto_region 19 with (fail)
              refine vregion 16 [] (by kernel_rfl) (by kernel_rfl) (fun _ _ _ _ _ h => h) ?_
              refine VWalk.det1 (Operand.tmp 8) (want_none rfl) (opd_frame 8 rfl (by kernel_rfl)) (fun ρ w hE h1 => by simp [execOp, h1, go_sem]; rfl) ?_
              refine VWalk.load1 22 _ rfl (want_none rfl) (opd_dep 0 78 0 rfl rfl rfl rfl) (fun _ => by kernel_rfl) hd (ext_drew _) ?_
              refine VWalk.move _ rfl (want_none rfl) (opd_frame 11 rfl (by kernel_rfl)) ?_
              refine VWalk.index1E 22 25 _ _ .i64 k rfl Try.underlying22 (by kernel_rfl) (want_none rfl) (opd_dep 1 79 1 rfl rfl rfl rfl) (opd_dep 2 80 0 rfl rfl rfl rfl) hlt0 ?_
              refine VWalk.load1 25 _ rfl (want_none rfl) (opd_dep 3 81 0 rfl rfl rfl rfl) (fun _ => by kernel_rfl) hck (ext_drew _) ?_
              refine VWalk.move _ rfl (want_none rfl) (opd_frame 12 rfl (by kernel_rfl)) ?_
              refine VWalk.det1 (Operand.tmp 8) (want_none rfl) (opd_frame 8 rfl (by kernel_rfl)) (fun ρ w hE h1 => by simp [execOp, h1, go_sem]; rfl) ?_
              refine VWalk.load1 22 _ rfl (want_none rfl) (opd_dep 6 84 0 rfl rfl rfl rfl) (fun _ => by kernel_rfl) hd (ext_drew _) ?_
              refine VWalk.move _ rfl (want_none rfl) (opd_frame 11 rfl (by kernel_rfl)) ?_
              refine VWalk.index1E 22 25 _ _ .i64 k rfl Try.underlying22 (by kernel_rfl) (want_none rfl) (opd_dep 7 85 1 rfl rfl rfl rfl) (opd_dep 8 86 0 rfl rfl rfl rfl) hlt0 ?_
              refine VWalk.load1 25 _ rfl (want_none rfl) (opd_dep 9 87 0 rfl rfl rfl rfl) (fun _ => by kernel_rfl) hck (ext_drew _) ?_
              refine VWalk.move _ rfl (want_none rfl) (opd_frame 12 rfl (by kernel_rfl)) ?_
              refine VWalk.index1O 25 5 _ _ .i64 j rfl Try.underlying25 (by kernel_rfl) (want_none rfl) (opd_dep 10 88 1 rfl rfl rfl rfl) (opd_dep 11 89 0 rfl rfl rfl rfl) hlj ?_
              refine VWalk.load1 5 _ rfl (want_none rfl) (opd_dep 12 90 0 rfl rfl rfl rfl) (fun _ => by kernel_rfl) hcz (ext_drew _) ?_
              refine VWalk.det2 (r := .int .u8 ((z ^^^ 255).toNat : Int)) (Operand.tmp 91) (Operand.const (Value.int IntKind.u8 255)) (want_none rfl) (opd_dep 13 91 0 rfl rfl rfl rfl) (opd_const _) (fun ρ w hE h1 h2 => by simp [execOp, h1, h2, go_sem]; exact bits_xor_u8 z 255) ?_
              refine VWalk.index1O 25 5 _ _ .i64 j rfl Try.underlying25 (by kernel_rfl) (want_none rfl) (opd_dep 4 82 10 rfl rfl rfl rfl) (opd_dep 5 83 9 rfl rfl rfl rfl) hlj ?_
              refine ⟨rfl, fun W19 hE19 => ?_⟩
              refine VFin.eq ?_  -- 0
              refine VFin.eq ?_  -- 1
              refine VFin.eq ?_  -- 2
              refine VFin.eq ?_  -- 3
              refine VFin.eq ?_  -- 4
              refine VFin.eq ?_  -- 5
              refine VFin.eq ?_  -- 6
              refine VFin.eq ?_  -- 7
              refine VFin.eq ?_  -- 8
              refine VFin.eq ?_  -- 9
              refine VFin.eq ?_  -- 10
              refine VFin.eq ?_  -- 11
              refine VFin.eq ?_  -- 12
              refine VFin.eq ?_  -- 13
              refine VFin.eq ?_  -- 14
              refine VFin.eq ?_  -- 15
              refine VFin.nil ?_
              simp only [Act.put, List.setIfInBounds_toArray, List.set_cons_zero, List.set_cons_succ]
              have hE := ((ext_drew _).tr hE19)
              have hX := (ext_drew wr).tr hE19
              have hlb : b < wr.heap.size := by obtain ⟨cs, m, h⟩ := hbt; exact (Array.getElem?_eq_some_iff.1 h).1
              have hcz := (hX.cell (p := ⟨b, off + j, none⟩) hlb).trans hcz
              have hfz := (hX.frozen (p := ⟨b, off + j, none⟩) hlb).trans hfz
              have hbt : ∃ cs m, W19.heap[b]? = some (.cells cs 5 m) := by obtain ⟨cs, m, h⟩ := hbt; exact ⟨cs, m, (hX.block b hlb).trans h⟩
              have HS2 := hide (OwnS.poke (HS.out.st hX HS.out.ext.size) hbB hbt (off + j) (z ^^^ 255))
              clear hX HS hd hck hbt
              go_wp2
              exact ⟨⟨j + 1, by omega, by go_num, HS2⟩, by simp [intOf]; omega⟩
            · obtain rfl : j = n2[k] := by omega
              obtain ⟨g, cap, A9, c9, hv, hck⟩ := HS.out.o2.word k hlt
              rw [← H2l.out] at hv
              cases hv
              go_wp2
              exact ⟨⟨k + 1, by omega, by go_num, HS⟩, by simp [intOf]; omega⟩
        · obtain rfl : k = ls.length := by omega
          have HOS := HS
          clear HS
          have hd := HOS.out.b8.at_ 1 rfl
          have hl := VP.st _ _ _ _ hL0 (hE.tr HOS.out.ext)
          have hE := hE.tr HOS.out.ext
          clear HOS
          go_upto_region 20 with (fail)
          clear hd
          refine law_end0 (r := .bool true) (by assumption) 8 4 101 _ (by kernel_rfl) rfl rfl rfl rfl rfl (by kernel_rfl) rfl 7 rfl rfl ?_
          refine VWalk.move _ rfl (want_none rfl) (opd_fr 1 rfl hl (Ext.rf _) (by kernel_rfl)) ?_
          refine VWalk.call1 27 _ _ rfl (enters_of Try.func27 (by kernel_rfl) rfl) (want_none rfl) (opd_dep 0 94 0 rfl rfl rfl rfl) (c_rjoin ls (by omega)) ?_
          refine VWalk.string 25 9 5 _ rfl Try.underlying25 Try.underlying5 Try.underlying9 (want_none rfl) (opd_dep 1 95 0 rfl rfl rfl rfl) ?_
          refine VWalk.move _ rfl (want_none rfl) (opd_frame 5 rfl (by kernel_rfl)) ?_
          refine VWalk.eqTs _ _ _ _ rfl (want_none rfl) (opd_dep 2 96 1 rfl rfl rfl rfl) (opd_dep 3 97 0 rfl rfl rfl rfl) (by rw [HJ.out]) ?_
          refine VWalk.move _ rfl (want_none rfl) (opd_dep 4 98 0 rfl rfl rfl rfl) ?_
          refine VWalk.call0 10 _ rfl (enters_of Try.func10 (by kernel_rfl) rfl) (want_tt 5 99 0 rfl (by kernel_rfl) rfl rfl rfl rfl) (fun W _ => hwk W) ?_
          refine VWalk.pickT _ _ _ rfl (want_none rfl) (opd_dep 5 99 1 rfl rfl rfl rfl) (opd_dep 6 100 0 rfl rfl rfl rfl) ?_
          refine ⟨rfl, rfl, rfl, fun W20 hE20 => ?_⟩
          exact Ret.mk (hE.tr hE20) rfl
end Go.Proofs.Ytkbhkadienddmaa
