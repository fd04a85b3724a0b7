/- rest, Take, Takes. -/
import Derived.Test.YtddkjicahpjcpaaDigF
namespace Go.Proofs.Ytddkjicahpjcpaa
open Go.RowKit DigM

theorem takeF_err (i n : Nat) (bs : List UInt8) (h : (takeF i n bs).2.2 ≠ 0) : (takeF i n bs).1 = 0 ∧ (takeF i n bs).2.1 = [] := by
  induction bs generalizing i n with
  | nil => exact ⟨rfl, rfl⟩
  | cons c cs ih =>
    unfold takeF at h ⊢
    split
    · exact ⟨rfl, rfl⟩
    · rename_i h1
      rw [if_neg h1] at h
      split
      · rename_i h2
        rw [if_pos h2] at h
        exact ih _ _ h
      · rename_i h2
        rw [if_neg h2] at h
        split
        · exact ⟨rfl, rfl⟩
        · rename_i h3
          rw [if_neg h3] at h
          exact absurd rfl h
theorem takeF_len (i n : Nat) (bs : List UInt8) (h : (takeF i n bs).2.2 = 0) : (takeF i n bs).2.1.length < bs.length := by
  induction bs generalizing i n with
  | nil => cases h
  | cons c cs ih =>
    unfold takeF at h ⊢
    split
    · rename_i h1
      rw [if_pos h1] at h; cases h
    · rename_i h1
      rw [if_neg h1] at h
      split
      · rename_i h2
        rw [if_pos h2] at h
        have := ih _ _ h
        simp; omega
      · rename_i h2
        rw [if_neg h2] at h
        split
        · rename_i h3
          rw [if_pos h3] at h; cases h
        · simp
theorem LeftIs.ext {g N : Nat} {lst : Value} {bs : List UInt8} {W W' : World} (h : LeftIs g N lst bs W) (hN : N ≤ W.heap.size) (hg : g < N) (hE : Ext W W') : LeftIs g N lst bs W' :=
  LeftIs.keep (Bw := g) h ⟨hE.size, hE.block g (by omega), hE.block g (by omega), fun k hk => hE.block k (by omega)⟩
set_option maxRecDepth 100000 in
theorem rest_any (g N : Nat) (B : Option Addr) (m d : Nat) (bs : List UInt8) (w : World) (hl : LeftIs g N (.slice B m d) bs w) (hlen : bs.length ≤ 1000000) :
    Calls Try.prog 23 #[.pointer (some ⟨g, 0, none⟩)] w (RetP w (fun v w' => OwnB w' w.heap.size 5 v bs)) := by
  obtain ⟨i0, hi, hz0, hz1, hz2⟩ := info_parts Try.infoB
  obtain ⟨v, hb, hv, -⟩ := hl
  obtain ⟨A, c, rfl⟩ := vbytes_form' hv
  have hc0 := hb.at_ 0 rfl
  go_enter Try.func23, Try.ntmps23
  go_wp2_with (at_builtin; refine wpList_append_bytes rfl _ _ 23 rfl w.heap.size 5 i0 (.int .u8 0) Try.underlying23 hi hz0 hz1 hz2 rfl _ _ [] bs rfl (OwnB.nil _ _ _) rfl hv (by simpa using hlen) (Nat.le_refl _) ?_; intro v' w' hown hgrow hat)
  go_ret
  rw [List.nil_append] at hown
  exact RetP.mk ((Below.refl _ _).grown hgrow (Nat.le_refl _) (fun k hk => by cases hk)) hown
theorem tup_three {F G H : VP} {u v x : Value} {w w' : World} (h : Ext w w') (h1 : F u w') (h2 : G v w') (h3 : H x w') : Ret w (VTup [F, G, H]) (.returned (.tuple #[u, v, x])) w' := Ret.mk h (VTup.three h1 h2 h3)
theorem left_new {bs : List UInt8} {A : Option Addr} {c : Nat} {w : World} (hB : VBytes bs (.slice A bs.length c) w) : LeftIs w.heap.size (w.heap.size + 1) (.slice none 0 0) bs (w.alloc (.cells #[.slice A bs.length c, .slice none 0 0] 47)) := by
  refine ⟨_, Box.new w _ _, VP.st _ _ _ _ hB (ext_alloc _ _), fun h0 k hk => ?_⟩
  obtain ⟨A', c', e, _, _, hx⟩ := VBytes.form hB
  cases e
  obtain ⟨b, off, rfl, hb, _⟩ := hx h0
  cases hk
  show b < _
  omega
set_option maxRecDepth 100000 in
theorem take_any (bs : List UInt8) (v : Value) (w : World) (hB : VBytes bs v w) (hlen : bs.length ≤ 1000000) : Calls Try.prog 14 #[v] w (Ret w (VTup [VEq (.int .i64 ((takeN bs).1 : Int)), VBytes (takeN bs).2.1, VEq (.int .i64 (takeN bs).2.2)])) := by
  obtain ⟨A, c, rfl⟩ := vbytes_form' hB
  have hl := left_new hB
  go_enter Try.func14, Try.ntmps14
  go_wp2_with fail
  refine (number_any w.heap.size (w.heap.size + 1) none 0 0 bs _ hl (by omega) (by simp) hlen).mono ?_
  rintro e W2 ⟨rfl, hg2, hl2⟩
  have hX0 : Below w.heap.size w (w.alloc (.cells #[.slice A bs.length c, .slice none 0 0] 47)) := ext_alloc _ _
  have hE2 : Ext w W2 := hX0.grown hg2 (by simp) (fun k hk => by cases hk; exact Nat.le_refl _)
  have hsz := hg2.size
  rw [World.size_alloc] at hsz
  clear hl hX0 hg2
  have herr := takeF_err 0 0 bs
  have hlen2 := takeF_len 0 0 bs
  rw [show takeF 0 0 bs = takeN bs from rfl] at herr hlen2
  have hle := hide hlen2
  clear hlen2
  generalize takeN bs = r at *
  obtain ⟨n, rest, e⟩ := r
  dsimp only at herr hl2 hle ⊢
  by_cases he : e = 0
  · subst he
    have hl3 := hl2 rfl
    have hlt := hle.out rfl
    clear herr hl2 hle
    go_wp2_with fail
    refine (rest_any w.heap.size (w.heap.size + 1) none 0 0 rest _ hl3 (by omega)).mono ?_
    rintro e W3 ⟨v3, rfl, hE3, hO⟩
    go_wp2
    exact bodyPost_ret (v := .tuple #[.int .i64 (n : Int), v3, .int .i64 0]) (by simp [results, Try.results14, go_sem]) rfl (tup_three (hE2.tr hE3) rfl hO.bytes rfl)
  · obtain ⟨rfl, rfl⟩ := herr he
    have he2 : (e != 0) = true := by simpa using he
    clear he herr hl2 hle
    go_wp2
    exact bodyPost_ret (v := .tuple #[.int .i64 0, .slice none 0 0, .int .i64 e]) (by simp [results, Try.results14, go_sem]) rfl (tup_three hE2 rfl (nil_bytes _) rfl)

/-- How far several numbers are taken. -/
def TakesAt (bs : List UInt8) (many : Nat) (k : Nat) (ns : List Int) (rest : List UInt8) : Prop :=
  takesF many bs = (let q := takesF (many - k) rest; if q.2.2 ≠ 0 then ([], [], q.2.2) else (ns ++ q.1, q.2.1, 0)) ∧ ns.length + rest.length ≤ bs.length
theorem takesF_err (k : Nat) (bs : List UInt8) (h : (takesF k bs).2.2 ≠ 0) : (takesF k bs).1 = [] ∧ (takesF k bs).2.1 = [] := by
  cases k with
  | zero => exact absurd rfl h
  | succ k =>
    unfold takesF at h ⊢
    dsimp only at h ⊢
    split
    · exact ⟨rfl, rfl⟩
    · rename_i h1
      rw [if_neg h1] at h
      split
      · exact ⟨rfl, rfl⟩
      · rename_i h2
        rw [if_neg h2] at h
        exact absurd rfl h
theorem takesAt_start (bs : List UInt8) (many : Nat) : TakesAt bs many 0 [] bs := by
  refine ⟨?_, by simp⟩
  dsimp only
  rw [Nat.sub_zero]
  split
  · rename_i h
    have h2 := takesF_err many bs h
    exact Prod.ext h2.1 (Prod.ext h2.2 rfl)
  · rename_i h
    have : (takesF many bs).2.2 = 0 := by simpa using h
    exact Prod.ext rfl (Prod.ext rfl this)
theorem takesAt_bad {bs : List UInt8} {many k : Nat} {ns : List Int} {rest : List UInt8} (h : TakesAt bs many k ns rest) (hk : k < many) (he : (takeN rest).2.2 ≠ 0) : takesF many bs = ([], [], (takeN rest).2.2) := by
  rw [h.1]
  obtain ⟨j, hj⟩ : ∃ j, many - k = j + 1 := ⟨many - k - 1, by omega⟩
  rw [hj]
  unfold takesF
  simp only [if_pos he]
theorem takesAt_good {bs : List UInt8} {many k : Nat} {ns : List Int} {rest : List UInt8} (h : TakesAt bs many k ns rest) (hk : k < many) (he : (takeN rest).2.2 = 0) : TakesAt bs many (k + 1) (ns ++ [((takeN rest).1 : Int)]) (takeN rest).2.1 := by
  have hl := takeF_len 0 0 rest he
  rw [show takeF 0 0 rest = takeN rest from rfl] at hl
  refine ⟨?_, by have := h.2; simp; omega⟩
  rw [h.1]
  obtain ⟨j, hj⟩ : ∃ j, many - k = j + 1 := ⟨many - k - 1, by omega⟩
  rw [hj, show many - (k + 1) = j by omega]
  conv => lhs; unfold takesF
  by_cases h2 : (takesF j (takeN rest).2.1).2.2 = 0
  · simp [h2, he]
  · simp [h2, he]
theorem takesAt_end {bs : List UInt8} {many : Nat} {ns : List Int} {rest : List UInt8} (h : TakesAt bs many many ns rest) : takesF many bs = (ns, rest, 0) := by
  rw [h.1, Nat.sub_self]
  simp [takesF]
theorem LeftIs.list {g N : Nat} {B B' : Option Addr} {m d m' d' : Nat} {bs : List UInt8} {W : World} (h : LeftIs g N (.slice B m d) bs W) : LeftIs g N (.slice B' m' d') bs (W.setCell ⟨g, 1, none⟩ (.slice B' m' d')) := by
  obtain ⟨v, h1, h2, h3⟩ := h
  obtain ⟨A, c, rfl⟩ := vbytes_form' h2
  refine ⟨_, h1.set_ 1 _, vbytes_keep h2 (fun hp k hk => ?_), h3⟩
  have hne := vbytes_off h2 h1 hp
  exact Below.heap_setCell W _ _ k (fun e => hne (by rw [hk, e]))
theorem left_after {g N : Nat} {lst : Value} {bs : List UInt8} {W W' : World} {o : Obj} {row : Option Nat} (h : LeftIs g N lst bs W) (hg : (W.alloc o).grownBy W' row) (hr : ∀ k, row = some k → N ≤ k) (hgN : g < N) (hN : N ≤ W.heap.size) : LeftIs g N lst bs W' := by
  have h2 : ∀ k, k < N → W'.heap[k]? = W.heap[k]? := fun k hk => (hg.block k (by simp; omega) (fun e => by have := hr k e.symm; omega)).trans (Below.heap_alloc _ _ _ (by omega))
  have h3 := hg.size
  rw [World.size_alloc] at h3
  exact LeftIs.keep (Bw := g) h ⟨by omega, h2 g hgN, h2 g hgN, h2⟩
theorem left_box {g N : Nat} {lst : Value} {bs : List UInt8} {W : World} (h : LeftIs g N lst bs W) : ∃ v, Box W g 47 #[v, lst] := by obtain ⟨v, h, -⟩ := h; exact ⟨v, h⟩
theorem setCell_size (w : World) (p : Addr) (v : Value) : (w.setCell p v).heap.size = w.heap.size := by simp [World.setCell]
theorem opd_nilsV {w : World} : VInts [] (.slice none 0 0) w := ⟨none, 0, rfl, Nat.le_refl _, by decide, fun h => by simp at h⟩
set_option maxRecDepth 100000 in
set_option maxHeartbeats 1000000 in
theorem takes_yes (bs : List UInt8) (many : Nat) (hm : (many : Int) ≤ 9223372036854775807) (v : Value) (w : World) (hB : VBytes bs v w) (hlen : bs.length ≤ 1000000) : Calls Try.prog 16 #[v, .int .i64 (many : Int)] w (Ret w (VTup [VInts (takesF many bs).1, VBytes (takesF many bs).2.1, VEq (.int .i64 (takesF many bs).2.2)])) := by
  obtain ⟨A, c, rfl⟩ := vbytes_form' hB
  have hl := left_new hB
  obtain ⟨i0, hi, hz0, hz1, hz2⟩ := info_parts Try.infoI
  go_enter Try.func16, Try.ntmps16
  go_wp2
  go_loopw [16] (fun i wr => ∃ (k : Nat) (rest : List UInt8) (ns : List Int) (lv : Value), k ≤ many ∧ i = .int .i64 k ∧ Hid (TakesAt bs many k ns rest) ∧ Hid (LeftIs w.heap.size (w.heap.size + 1) lv rest wr) ∧ Hid (OwnI wr (w.heap.size + 1) 3 lv ns) ∧ Below w.heap.size w wr ∧ w.heap.size + 1 ≤ wr.heap.size)
    (fun i _ => many - (intOf i).toNat)
  case atStart => exact ⟨0, bs, [], _, by omega, rfl, takesAt_start bs many, hl, World.ownsRow_nil _ _ _ _, ext_alloc _ _, by simp⟩
  case round =>
    obtain ⟨k, rest, ns, lv, hk, rfl, HT, HL, HO, hE, hsz⟩ := hrel
    obtain ⟨B1, c1, hlv⟩ := own_form HO.out
    subst hlv
    have hrl := HT.out.2
    by_cases hlt : k < many
    · go_wp2_with fail
      refine (number_any w.heap.size (w.heap.size + 1) B1 ns.length c1 rest _ HL.out (by omega) hsz (by omega)).mono ?_
      rintro e W2 ⟨rfl, hg2, hl2⟩
      have hE2 : Below w.heap.size w W2 := hE.grown hg2 hE.size (fun k hk => by cases hk; exact Nat.le_refl _)
      have hsz2 := hg2.size
      have HO2 : Hid (OwnI W2 (w.heap.size + 1) 3 (.slice B1 ns.length c1) ns) := own_grown HO.out hg2 (fun k h => by cases h; omega)
      have Hbad := hide (takesAt_bad HT.out hlt)
      have Hgood := hide (takesAt_good HT.out hlt)
      have hle := takeF_len 0 0 rest
      rw [show takeF 0 0 rest = takeN rest from rfl] at hle
      clear HT HL HO hg2
      generalize takeN rest = r at *
      obtain ⟨n, rest2, e⟩ := r
      dsimp only at Hbad Hgood hl2 hle ⊢
      by_cases he : e = 0
      · subst he
        have HT3 := hide (Hgood.out rfl)
        have hl3 := hl2 rfl
        have hlt2 := hle rfl
        obtain ⟨vv, hbx, hvv, hv3⟩ := id hl3
        obtain ⟨A3, c3, rfl⟩ := vbytes_form' hvv
        have hc1 := hbx.at_ 1 rfl
        have hf1 := hbx.frozen 1
        have hc0 := hbx.at_ 0 rfl
        have Hl3 := hide hl3
        clear Hbad Hgood hl2 hle hl3 hbx hvv hv3
        have hX : Ext W2 (W2.alloc (.cells #[.int .i64 (n : Int)] 3)) := ext_alloc _ _
        go_wp2_with (at_builtin; refine wpList_append_src rfl _ _ 22 rfl (w.heap.size + 1) 3 i0 (.int .i64 0) 1 8 Try.underlying22 hi hz0 hz1 hz2 rfl (by omega) _ _ ns.length 1 (ns.map (.int .i64)) [.int .i64 (n : Int)] rfl (own_st HO2.out hX) rfl rfl (Src.new _ _ _ _) (fun y hy => by rw [List.mem_singleton] at hy; subst hy; rfl) (by omega) (by simp; omega) ?_; intro v' w' hown hgrow hat; obtain ⟨A4, c4, hv4⟩ := own_form hown; subst hv4; have HL4 := hide (left_after Hl3.out hgrow (fun k hk => own_ge HO2.out k hk) (by omega) (by omega)); have hb4 := left_box HL4.out; obtain ⟨vv4, hb4⟩ := hb4; have hc14 := hb4.at_ 1 rfl; have hf14 := hb4.frozen 1; clear hb4)
        have hE4 : Below w.heap.size w w' := below_ng hE2 hgrow (fun k hk => by have := own_ge HO2.out k hk; omega)
        have hs4 := hgrow.size
        rw [World.size_alloc] at hs4
        refine ⟨⟨k + 1, rest2, ns ++ [(n : Int)], _, by omega, by go_num, HT3, hide (LeftIs.list HL4.out), ?_, hE4.setCell (p := ⟨w.heap.size, 1, none⟩) (Nat.le_refl _) _, by rw [setCell_size]; omega⟩, by simp [intOf]; omega⟩
        refine own_grown (w := w') (row := some w.heap.size) ?_ (only_set (World.grownBy.refl _ _) 1 _) (fun k hk => by cases hk; omega)
        rw [List.length_append, List.map_append]
        exact hown
      · have he2 : (e != 0) = true := by simpa using he
        have hb2 := Hbad.out he
        clear hl2 hle Hgood
        have Hb2 := hide hb2
        clear he hb2 Hbad
        go_wp2
        rw [Hb2.out]
        exact bodyPost_ret (v := .tuple #[.slice none 0 0, .slice none 0 0, .int .i64 e]) (by simp [results, Try.results16, go_sem]) rfl (tup_three hE2 opd_nilsV (nil_bytes _) rfl)
    · obtain rfl : k = many := by omega
      have HT2 := hide (takesAt_end HT.out)
      obtain ⟨vv, hbx⟩ := left_box HL.out
      have hl3 := HL.out
      go_upto_region 11 with (fail)
      refine vregion 3 [] (by kernel_rfl) (by kernel_rfl) (fun _ _ _ _ _ h => h) ?_
      refine VWalk.det1 (r := .pointer (some ⟨w.heap.size, 1, none⟩)) (Operand.tmp 7) (want_none rfl) (opd_frame 7 rfl (by kernel_rfl)) (fun ρ w hE h1 => by simp [execOp, h1, go_sem]) ?_
      refine VWalk.load1 22 _ rfl (want_none rfl) (opd_dep 0 32 0 rfl rfl rfl rfl) (fun _ => by kernel_rfl) (hbx.at_ 1 rfl) (ext_drew _) ?_
      refine VWalk.call1 23 _ _ rfl (enters_of Try.func23 (by kernel_rfl) rfl) (want_none rfl) (opd_frame 7 rfl (by kernel_rfl)) (fun u W hX hu => by rw [show u = _ from hu]; exact (rest_any _ _ _ _ _ _ _ (LeftIs.ext hl3 hsz (by omega) ((ext_drew _).tr hX)) (by omega)).mono fun _ _ ⟨v, h1, h2, h3⟩ => ⟨v, h1, h2, OwnB.bytes h3⟩) ?_
      refine ⟨rfl, fun W11 hE11 => ?_⟩
      refine VFin.eq ?_  -- 0
      refine VFin.eq ?_  -- 1
      refine VFin.any fun v11_2 hv11_2 => ?_
      refine VFin.nil ?_
      simp only [Act.put, List.setIfInBounds_toArray, List.set_cons_zero, List.set_cons_succ]
      go_wp2
      rw [HT2.out]
      exact bodyPost_ret (v := .tuple #[_, v11_2, .int .i64 0]) (by simp [results, Try.results16, go_sem]) rfl (tup_three (Ext.tr hE ((ext_drew _).tr hE11)) (VP.st _ _ _ _ (OwnI.ints HO.out) ((ext_drew _).tr hE11)) hv11_2 rfl)
theorem takes_any (bs : List UInt8) (many : Int) (hm : many ≤ 9223372036854775807) (v : Value) (w : World) (hB : VBytes bs v w) (hlen : bs.length ≤ 1000000) : Calls Try.prog 16 #[v, .int .i64 many] w (Ret w (VTup [VInts (takes many bs).1, VBytes (takes many bs).2.1, VEq (.int .i64 (takes many bs).2.2)])) := by
  unfold takes
  by_cases h : many < 0
  · rw [if_pos h]
    obtain ⟨A, c, rfl⟩ := vbytes_form' hB
    go_enter Try.func16, Try.ntmps16
    go_wp2
    exact bodyPost_ret (v := .tuple #[.slice none 0 0, .slice none 0 0, .int .i64 2]) (by simp [results, Try.results16, go_sem]) rfl (tup_three (Ext.rf _) opd_nilsV (nil_bytes _) rfl)
  · rw [if_neg h]
    obtain ⟨k, rfl⟩ : ∃ k : Nat, many = (k : Int) := ⟨many.toNat, by omega⟩
    rw [Int.toNat_natCast]
    exact takes_yes bs k hm v w hB hlen
end Go.Proofs.Ytddkjicahpjcpaa
