/- rest, Take, Takes. -/
import Derived.Test.YtggjkhldknppkaaKDF
namespace Go.Proofs.Ytggjkhldknppkaa.Dg
open Go.RowKit DigM

theorem takeF_err (i n : Nat) (bs : List UInt8) (h : (takeF i n bs).2.2 ≠ 0) : (takeF i n bs).1 = 0 ∧ (takeF i n bs).2.1 = [] := by
  induction bs generalizing i n with
  | nil => exact ⟨rfl, rfl⟩
  | cons c cs ih =>
    unfold takeF at h ⊢
    split
    · exact ⟨rfl, rfl⟩
    · rename_i h1
      rw [if_neg h1] at h
      split
      · rename_i h2
        rw [if_pos h2] at h
        exact ih _ _ h
      · rename_i h2
        rw [if_neg h2] at h
        split
        · exact ⟨rfl, rfl⟩
        · rename_i h3
          rw [if_neg h3] at h
          exact absurd rfl h
theorem takeF_len (i n : Nat) (bs : List UInt8) (h : (takeF i n bs).2.2 = 0) : (takeF i n bs).2.1.length < bs.length := by
  induction bs generalizing i n with
  | nil => cases h
  | cons c cs ih =>
    unfold takeF at h ⊢
    split
    · rename_i h1
      rw [if_pos h1] at h; cases h
    · rename_i h1
      rw [if_neg h1] at h
      split
      · rename_i h2
        rw [if_pos h2] at h
        have := ih _ _ h
        simp; omega
      · rename_i h2
        rw [if_neg h2] at h
        split
        · rename_i h3
          rw [if_pos h3] at h; cases h
        · simp
theorem LeftIs.ext {g N : Nat} {lst : Value} {bs : List UInt8} {W W' : World} (h : LeftIs g N lst bs W) (hN : N ≤ W.heap.size) (hg : g < N) (hE : Ext W W') : LeftIs g N lst bs W' :=
  LeftIs.keep (Bw := g) h ⟨hE.size, hE.block g (by omega), hE.block g (by omega), fun k hk => hE.block k (by omega)⟩
set_option maxRecDepth 100000 in
theorem rest_any (g N : Nat) (B : Option Addr) (m d : Nat) (bs : List UInt8) (w : World) (hl : LeftIs g N (.slice B m d) bs w) (hlen : bs.length ≤ 1000000) :
    Calls Try.prog 50 #[.pointer (some ⟨g, 0, none⟩)] w (RetP w (fun v w' => OwnB w' w.heap.size 5 v bs)) := by
  obtain ⟨i0, hi, hz0, hz1, hz2⟩ := info_parts Try.infoB
  obtain ⟨v, hb, hv, -⟩ := hl
  obtain ⟨A, c, rfl⟩ := vbytes_form' hv
  have hc0 := hb.at_ 0 rfl
  go_enter Try.func50, Try.ntmps50
  go_wp2_with (at_builtin; refine wpList_append_bytes rfl _ _ 23 rfl w.heap.size 5 i0 (.int .u8 0) Try.underlying23 hi hz0 hz1 hz2 rfl _ _ [] bs rfl (OwnB.nil _ _ _) rfl hv (by simpa using hlen) (Nat.le_refl _) ?_; intro v' w' hown hgrow hat)
  go_ret
  rw [List.nil_append] at hown
  exact RetP.mk ((Below.refl _ _).grown hgrow (Nat.le_refl _) (fun k hk => by cases hk)) hown
theorem tup_three {F G H : VP} {u v x : Value} {w w' : World} (h : Ext w w') (h1 : F u w') (h2 : G v w') (h3 : H x w') : Ret w (VTup [F, G, H]) (.returned (.tuple #[u, v, x])) w' := Ret.mk h (VTup.three h1 h2 h3)
theorem left_new {bs : List UInt8} {A : Option Addr} {c : Nat} {w : World} (hB : VBytes bs (.slice A bs.length c) w) : LeftIs w.heap.size (w.heap.size + 1) (.slice none 0 0) bs (w.alloc (.cells #[.slice A bs.length c, .slice none 0 0] 84)) := by
  refine ⟨_, Box.new w _ _, VP.st _ _ _ _ hB (ext_alloc _ _), fun h0 k hk => ?_⟩
  obtain ⟨A', c', e, _, _, hx⟩ := VBytes.form hB
  cases e
  obtain ⟨b, off, rfl, hb, _⟩ := hx h0
  cases hk
  show b < _
  omega
set_option maxRecDepth 100000 in
theorem take_any (bs : List UInt8) (v : Value) (w : World) (hB : VBytes bs v w) (hlen : bs.length ≤ 1000000) : Calls Try.prog 37 #[v] w (Ret w (VTup [VEq (.int .i64 ((takeN bs).1 : Int)), VBytes (takeN bs).2.1, VEq (.int .i64 (takeN bs).2.2)])) := by
  obtain ⟨A, c, rfl⟩ := vbytes_form' hB
  have hl := left_new hB
  go_enter Try.func37, Try.ntmps37
  go_wp2_with fail
  refine (number_any w.heap.size (w.heap.size + 1) none 0 0 bs _ hl (by omega) (by simp) hlen).mono ?_
  rintro e W2 ⟨rfl, hg2, hl2⟩
  have hX0 : Below w.heap.size w (w.alloc (.cells #[.slice A bs.length c, .slice none 0 0] 84)) := ext_alloc _ _
  have hE2 : Ext w W2 := hX0.grown hg2 (by simp) (fun k hk => by cases hk; exact Nat.le_refl _)
  have hsz := hg2.size
  rw [World.size_alloc] at hsz
  clear hl hX0 hg2
  have herr := takeF_err 0 0 bs
  have hlen2 := takeF_len 0 0 bs
  rw [show takeF 0 0 bs = takeN bs from rfl] at herr hlen2
  have hle := hide hlen2
  clear hlen2
  generalize takeN bs = r at *
  obtain ⟨n, rest, e⟩ := r
  dsimp only at herr hl2 hle ⊢
  by_cases he : e = 0
  · subst he
    have hl3 := hl2 rfl
    have hlt := hle.out rfl
    clear herr hl2 hle
    go_wp2_with fail
    refine (rest_any w.heap.size (w.heap.size + 1) none 0 0 rest _ hl3 (by omega)).mono ?_
    rintro e W3 ⟨v3, rfl, hE3, hO⟩
    go_wp2
    exact bodyPost_ret (v := .tuple #[.int .i64 (n : Int), v3, .int .i64 0]) (by simp [results, Try.results37, go_sem]) rfl (tup_three (hE2.tr hE3) rfl hO.bytes rfl)
  · obtain ⟨rfl, rfl⟩ := herr he
    have he2 : (e != 0) = true := by simpa using he
    clear he herr hl2 hle
    go_wp2
    exact bodyPost_ret (v := .tuple #[.int .i64 0, .slice none 0 0, .int .i64 e]) (by simp [results, Try.results37, go_sem]) rfl (tup_three hE2 rfl (nil_bytes _) rfl)

theorem LeftIs.list {g N : Nat} {B B' : Option Addr} {m d m' d' : Nat} {bs : List UInt8} {W : World} (h : LeftIs g N (.slice B m d) bs W) : LeftIs g N (.slice B' m' d') bs (W.setCell ⟨g, 1, none⟩ (.slice B' m' d')) := by
  obtain ⟨v, h1, h2, h3⟩ := h
  obtain ⟨A, c, rfl⟩ := vbytes_form' h2
  refine ⟨_, h1.set_ 1 _, vbytes_keep h2 (fun hp k hk => ?_), h3⟩
  have hne := vbytes_off h2 h1 hp
  exact Below.heap_setCell W _ _ k (fun e => hne (by rw [hk, e]))
theorem left_after {g N : Nat} {lst : Value} {bs : List UInt8} {W W' : World} {o : Obj} {row : Option Nat} (h : LeftIs g N lst bs W) (hg : (W.alloc o).grownBy W' row) (hr : ∀ k, row = some k → N ≤ k) (hgN : g < N) (hN : N ≤ W.heap.size) : LeftIs g N lst bs W' := by
  have h2 : ∀ k, k < N → W'.heap[k]? = W.heap[k]? := fun k hk => (hg.block k (by simp; omega) (fun e => by have := hr k e.symm; omega)).trans (Below.heap_alloc _ _ _ (by omega))
  have h3 := hg.size
  rw [World.size_alloc] at h3
  exact LeftIs.keep (Bw := g) h ⟨by omega, h2 g hgN, h2 g hgN, h2⟩
theorem left_box {g N : Nat} {lst : Value} {bs : List UInt8} {W : World} (h : LeftIs g N lst bs W) : ∃ v, Box W g 84 #[v, lst] := by obtain ⟨v, h, -⟩ := h; exact ⟨v, h⟩
theorem setCell_size (w : World) (p : Addr) (v : Value) : (w.setCell p v).heap.size = w.heap.size := by simp [World.setCell]
theorem opd_nilsV {w : World} : VInts [] (.slice none 0 0) w := ⟨none, 0, rfl, Nat.le_refl _, by decide, fun h => by simp at h⟩
end Go.Proofs.Ytggjkhldknppkaa.Dg
