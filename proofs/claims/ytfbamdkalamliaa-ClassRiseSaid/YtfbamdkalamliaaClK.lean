/- The document's Bytes, Least, walked. -/
import Derived.Test.YtfbamdkalamliaaClJ
namespace Go.Proofs.Ytfbamdkalamliaa
open Go.RowKit LetM SetM
set_option maxRecDepth 100000 in
set_option maxHeartbeats 2000000 in
theorem rBytes_any (f : Bool) (ws : List (List UInt8)) (cl : Int) (u : Value) (w : World) (hS : VSet f ws u w) : Calls Try.prog 15 #[u, .int .i64 cl] w (Ret w (VBytes (rbytesO f ws cl))) := by
  obtain ⟨i0, hi, hz0, hz1, hz2⟩ := info_parts Try.infoB
  have hS0 := hS
  obtain ⟨sl, rfl, hP⟩ := hS
  obtain ⟨A, c, rfl, -⟩ := VParts.form hP
  clear hP
  have hX := ext_alloc w (.cells #[.bool f, .slice A ws.length c] 24)
  have hS1 := VP.st _ _ _ _ hS0 hX
  have hct := rOf_any f ws _ _ hS1
  by_cases hr : rightS f ws = true
  · have e : rbytesO f ws cl = clsL (cRun f (hR f ws.flatten) 256).1 cl 256 := by unfold rbytesO; rw [if_pos hr]
    have e2 : rclsO f ws = ((cRun f (hR f ws.flatten) 256).1, (cRun f (hR f ws.flatten) 256).2, 0) := by unfold rclsO; rw [if_pos hr]
    rw [e2] at hct
    rw [e]
    clear e e2 hr hS0 hS1
    obtain ⟨cf, hcf⟩ : ∃ cf, (cRun f (hR f ws.flatten) 256).1 = cf := ⟨_, rfl⟩
    rw [hcf] at hct ⊢
    generalize (cRun f (hR f ws.flatten) 256).2 = m at *
    clear hcf
    go_enter Try.func15, Try.ntmps15
    go_wp2_with fail
    refine hct.mono ?_
    rintro _ w1 ⟨u, rfl, hE1, hu⟩
    obtain ⟨u1, u2, u3, rfl, rfl, rfl, rfl⟩ := VTup.inv3 hu
    have hE : Ext w w1 := hX.tr hE1
    have hlt1 : w.heap.size ≤ w1.heap.size := hE.size
    go_upto_region 2 with (first | (refine wpList_allocZ rfl 29 rfl _ zeroI ?_) | (refine wpList_store_row rfl 29 _ _ rfl w1.heap.size (iArr cf) rfl rfl 29 (iArr fun _ => 0) (Box.new w1 29 (iArr fun _ => 0)) (by rw [iArr_size]; kernel_rfl) (by first | (rw [iArr_size, iArr_size]) | rfl) (arr_one fun _ _ => rfl) ?_))
    have hb6 : Box ((w1.alloc (.cells (iArr fun _ => 0) 29)).setRow w1.heap.size (iArr cf)) w1.heap.size 29 (iArr cf) := (Box.new w1 29 (iArr fun _ => 0)).setRow_
    have hX6 : Below w.heap.size w ((w1.alloc (.cells (iArr fun _ => 0) 29)).setRow w1.heap.size (iArr cf)) := below_setRow (hE.tr (ext_alloc _ _)) hlt1 _
    generalize (w1.alloc (.cells (iArr fun _ => 0) 29)).setRow w1.heap.size (iArr cf) = w2 at *
    generalize w1.heap.size = g at *
    have HB := hide hb6
    have HX := hide hX6
    have hg6 : g < w2.heap.size := hb6.lt
    clear hct hX hE1 hE hb6 hX6 hu
    go_wp2_with fail
    go_loopw [8, 9] (fun l i wr => ∃ k : Nat, k ≤ 256 ∧ i = .int .i64 (k : Int) ∧ Hid (OwnB wr (g + 1) 5 l (clsL cf cl k)) ∧ Hid (Below w.heap.size w wr) ∧ Hid (Box wr g 29 (iArr cf))) (fun _ i _ => 256 - (intOf i).toNat)
    case atStart => exact ⟨0, by omega, rfl, World.ownsRow_nil _ _ _ _, HX, HB⟩
    case round =>
      clear HX HB
      obtain ⟨k, hk, rfl, HO, HX, HB⟩ := hrel
      have hE : Ext w wr := HX.out
      have hgl := HB.out.lt
      obtain ⟨B1, c1, hlv⟩ := OwnB.form HO.out
      subst hlv
      have hll := clsL_len cf cl k
      by_cases hlt : k < 256
      · have hcc := (HB.out.cell k).trans (iArr_get cf hlt)
        have hlt' : (k : Int) < 256 := by omega
        have hcv : IntKind.u8.wrap (k : Int) = (k : Int) := IntWalk.u8_in _ (by omega)
        by_cases he : cf k = cl
        · have Hn := hide (clsL_yes he)
          have hbk := byte_toNat hlt
          obtain ⟨ns, hns⟩ : ∃ ns, clsL cf cl k = ns := ⟨_, rfl⟩
          rw [hns] at hll HO Hn ⊢
          rw [he] at hcc
          clear hns he
          have hXa : Ext wr (wr.alloc (.cells #[.int .u8 (k : Int)] 5)) := ext_alloc _ _
          go_wp2_with (at_builtin; refine wpList_append_src rfl _ _ 26 rfl (g + 1) 5 i0 (.int .u8 0) 1 1 Try.underlying26 hi hz0 hz1 hz2 rfl (by omega) _ _ ns.length 1 (ns.map byteV) [.int .u8 (k : Int)] rfl (own_st HO.out hXa) rfl rfl (Src.new _ _ _ _) (fun y hy => by rw [List.mem_singleton] at hy; subst hy; rfl) (by omega) (by simp; omega) ?_; intro v' w' hown hgrow hat)
          have hlo := own_ge HO.out
          have hE4 : Below w.heap.size w w' := below_ng hE hgrow (fun k hk => by have := hlo k hk; omega)
          have hb4 := (HB.out.ext hXa).grows hgrow (fun e => by have := hlo _ e; omega)
          refine ⟨⟨k + 1, by omega, by go_num, ?_, hE4, hb4⟩, by simp [intOf]; omega⟩
          show World.ownsRow _ _ _ _ _ _ _
          rw [Hn.out, List.length_append, List.map_append, show (([UInt8.ofNat k] : List UInt8).map byteV) = [.int .u8 (k : Int)] by show [Value.int .u8 _] = _; rw [hbk]]
          exact hown
        · have Hn := hide (clsL_no he)
          have hcc' : (cf k == cl) = false := by rw [beq_eq_false_iff_ne]; exact he
          generalize cf k = z at *
          go_wp2
          exact ⟨⟨k + 1, by omega, by go_num, by rw [Hn.out]; exact HO, HX, HB⟩, by simp [intOf]; omega⟩
      · obtain rfl : k = 256 := by omega
        go_wp2
        exact bodyPost_ret (v := .slice B1 (clsL cf cl 256).length c1) (by simp [results, Try.results15, go_sem]) rfl (Ret.mk hE (OwnB.bytes HO.out))
  · have hr : rightS f ws = false := by simpa using hr
    have e : rbytesO f ws cl = [] := by unfold rbytesO; rw [hr]; rfl
    have e2 : rclsO f ws = (fun _ => 0, 0, 2) := by unfold rclsO; rw [hr]; rfl
    rw [e2] at hct
    rw [e]
    clear e e2 hr hS0 hS1
    go_enter Try.func15, Try.ntmps15
    go_wp2_with fail
    refine hct.mono ?_
    rintro _ w1 ⟨u, rfl, hE1, hu⟩
    obtain ⟨u1, u2, u3, rfl, rfl, rfl, rfl⟩ := VTup.inv3 hu
    have hE : Ext w w1 := hX.tr hE1
    have hlt1 : w.heap.size ≤ w1.heap.size := hE.size
    go_upto_region 2 with (first | (refine wpList_allocZ rfl 29 rfl _ zeroI ?_) | (refine wpList_store_row rfl 29 _ _ rfl w1.heap.size (iArr (fun _ => 0)) rfl rfl 29 (iArr fun _ => 0) (Box.new w1 29 (iArr fun _ => 0)) (by rw [iArr_size]; kernel_rfl) (by first | (rw [iArr_size, iArr_size]) | rfl) (arr_one fun _ _ => rfl) ?_))
    have hb6 : Box ((w1.alloc (.cells (iArr fun _ => 0) 29)).setRow w1.heap.size (iArr (fun _ => 0))) w1.heap.size 29 (iArr (fun _ => 0)) := (Box.new w1 29 (iArr fun _ => 0)).setRow_
    have hX6 : Below w.heap.size w ((w1.alloc (.cells (iArr fun _ => 0) 29)).setRow w1.heap.size (iArr (fun _ => 0))) := below_setRow (hE.tr (ext_alloc _ _)) hlt1 _
    generalize (w1.alloc (.cells (iArr fun _ => 0) 29)).setRow w1.heap.size (iArr (fun _ => 0)) = w2 at *
    generalize w1.heap.size = g at *
    have HB := hide hb6
    have HX := hide hX6
    have hg6 : g < w2.heap.size := hb6.lt
    clear hct hX hE1 hE hb6 hX6 hu
    have hE : Ext w w2 := HX.out
    go_wp2
    go_loopw [8, 9] (fun l i wr => wr = w2 ∧ l = .slice none 0 0 ∧ i = .int .i64 0) (fun _ _ _ => 0)
    case atStart => exact ⟨rfl, rfl, rfl⟩
    case round =>
      obtain ⟨hwr, rfl, rfl⟩ := hrel
      go_wp2
      subst hwr
      exact bodyPost_ret (v := .slice none 0 0) (by simp [results, Try.results15, go_sem]) rfl (Ret.mk hE (OwnB.bytes (OwnB.nil _ 0 5)))
section
variable {w0 : World}
theorem c_rBytes (f : Bool) (ws : List (List UInt8)) (cl : Int) : ∀ u v w, Ext w0 w → VSet f ws u w → VEq (.int .i64 cl) v w → Calls Try.prog 15 #[u, v] w (Ret w (VBytes (rbytesO f ws cl))) := fun u v w _ hu hv => by
  rw [show v = _ from hv]; exact rBytes_any f ws cl u w hu
end
theorem rleastO_eq (f : Bool) (ws : List (List UInt8)) (ns : List Int) : rleastO f ws ns = ns.flatMap fun cl => (rbytesO f ws cl).take 1 := by
  unfold rleastO rbytesO leastL
  by_cases hr : rightS f ws = true
  · simp only [if_pos hr]
  · simp only [if_neg hr]; simp
end Go.Proofs.Ytfbamdkalamliaa
