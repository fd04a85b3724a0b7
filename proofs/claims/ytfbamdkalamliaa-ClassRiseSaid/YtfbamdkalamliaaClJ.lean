/- The document's Classes, Bytes, Least, walked. -/
import Derived.Test.YtfbamdkalamliaaClI
namespace Go.Proofs.Ytfbamdkalamliaa
open Go.RowKit LetM SetM
def rclsesO (f : Bool) (ws : List (List UInt8)) (bs : List UInt8) : List Int × Int := if rightS f ws then (bs.map fun b => (cRun f (hR f ws.flatten) 256).1 b.toNat, 0) else ([], 2)
def rbytesO (f : Bool) (ws : List (List UInt8)) (cl : Int) : List UInt8 := if rightS f ws then clsL (cRun f (hR f ws.flatten) 256).1 cl 256 else []
def rleastO (f : Bool) (ws : List (List UInt8)) (ns : List Int) : List UInt8 := if rightS f ws then leastL (cRun f (hR f ws.flatten) 256).1 ns else []
set_option maxRecDepth 100000 in
set_option maxHeartbeats 2000000 in
theorem rClasses_any (f : Bool) (ws : List (List UInt8)) (bs : List UInt8) (u v : Value) (w : World) (hS : VSet f ws u w) (hB : VBytes bs v w) (hbl : bs.length ≤ 1000000) : Calls Try.prog 12 #[u, v] w (Ret w (VTup [VInts (rclsesO f ws bs).1, VEq (.int .i64 (rclsesO f ws bs).2)])) := by
  obtain ⟨i0, hi, hz0, hz1, hz2⟩ := info_parts Try.infoI
  have hS0 := hS
  obtain ⟨sl, rfl, hP⟩ := hS
  obtain ⟨A, c, rfl, -⟩ := VParts.form hP
  obtain ⟨B, d, rfl, hd1, hd2, hx⟩ := VBytes.form hB
  unfold maxLen at hd2
  clear hP hB
  have hX := ext_alloc w (.cells #[.bool f, .slice A ws.length c] 24)
  have hS1 := VP.st _ _ _ _ hS0 hX
  have hct := rOf_any f ws _ _ hS1
  by_cases hr : rightS f ws = true
  · have e : rclsesO f ws bs = (bs.map fun b => (cRun f (hR f ws.flatten) 256).1 b.toNat, 0) := by unfold rclsesO; rw [if_pos hr]
    have e2 : rclsO f ws = ((cRun f (hR f ws.flatten) 256).1, (cRun f (hR f ws.flatten) 256).2, 0) := by unfold rclsO; rw [if_pos hr]
    rw [e2] at hct
    rw [e]
    clear e e2 hr hS0 hS1
    obtain ⟨cf, hcf⟩ : ∃ cf, (cRun f (hR f ws.flatten) 256).1 = cf := ⟨_, rfl⟩
    rw [hcf] at hct ⊢
    generalize (cRun f (hR f ws.flatten) 256).2 = m at *
    clear hcf
    go_enter Try.func12, Try.ntmps12
    go_wp2_with fail
    refine hct.mono ?_
    rintro _ w1 ⟨u, rfl, hE1, hu⟩
    obtain ⟨u1, u2, u3, rfl, rfl, rfl, rfl⟩ := VTup.inv3 hu
    have hE : Ext w w1 := hX.tr hE1
    have hlt1 : w.heap.size ≤ w1.heap.size := hE.size
    go_upto_region 2 with (first | (refine wpList_allocZ rfl 29 rfl _ zeroI ?_) | (refine wpList_store_row rfl 29 _ _ rfl w1.heap.size (iArr cf) rfl rfl 29 (iArr fun _ => 0) (Box.new w1 29 (iArr fun _ => 0)) (by rw [iArr_size]; kernel_rfl) (by first | (rw [iArr_size, iArr_size]) | rfl) (arr_one fun _ _ => rfl) ?_))
    have hb6 : Box ((w1.alloc (.cells (iArr fun _ => 0) 29)).setRow w1.heap.size (iArr cf)) w1.heap.size 29 (iArr cf) := (Box.new w1 29 (iArr fun _ => 0)).setRow_
    have hX6 : Below w.heap.size w ((w1.alloc (.cells (iArr fun _ => 0) 29)).setRow w1.heap.size (iArr cf)) := below_setRow (hE.tr (ext_alloc _ _)) hlt1 _
    generalize (w1.alloc (.cells (iArr fun _ => 0) 29)).setRow w1.heap.size (iArr cf) = w2 at *
    generalize w1.heap.size = g at *
    have HB := hide hb6
    have HX := hide hX6
    have hg6 : g < w2.heap.size := hb6.lt
    clear hct hX hE1 hE hb6 hX6 hu
    go_wp2_with fail
    go_loopw [9, 10] (fun l i wr => ∃ k : Nat, k ≤ bs.length ∧ i = .int .i64 (k : Int) ∧ Hid (OwnI wr (g + 1) 3 l ((bs.take k).map fun b => cf b.toNat)) ∧ Hid (Below w.heap.size w wr) ∧ Hid (Box wr g 29 (iArr cf))) (fun _ i _ => bs.length - (intOf i).toNat)
    case atStart => exact ⟨0, by omega, rfl, World.ownsRow_nil _ _ _ _, HX, HB⟩
    case round =>
      clear HX HB
      obtain ⟨k, hk, rfl, HO, HX, HB⟩ := hrel
      have hE : Ext w wr := HX.out
      have hgl := HB.out.lt
      obtain ⟨B1, c1, hlv⟩ := own_form HO.out
      subst hlv
      have hll : ((bs.take k).map fun b => cf b.toNat).length = k := by rw [List.length_map, List.length_take, Nat.min_eq_left hk]
      by_cases hlt : k < bs.length
      · obtain ⟨b, off, rfl, hb, hcell⟩ := hx (by omega)
        have hx3 := (hE.cell (p := ⟨b, off + k, none⟩) hb).trans (hcell k hlt)
        have hcc := HB.out.cell (bs[k].toNat) |>.trans (iArr_get cf (UInt8.toNat_lt bs[k]))
        have hyl := UInt8.toNat_lt bs[k]
        have Hn := hide (show (bs.take (k + 1)).map (fun b => cf b.toNat) = (bs.take k).map (fun b => cf b.toNat) ++ [cf bs[k].toNat] by rw [List.take_succ_eq_append_getElem hlt, List.map_append]; rfl)
        clear hx hcell
        generalize bs[k].toNat = y at *
        have hyl' : (y : Int) < 256 := by omega
        obtain ⟨ns, hns⟩ : ∃ ns, (bs.take k).map (fun b => cf b.toNat) = ns := ⟨_, rfl⟩
        rw [hns] at hll HO Hn ⊢
        clear hns
        have hXa : Ext wr (wr.alloc (.cells #[.int .i64 (cf y)] 3)) := ext_alloc _ _
        generalize cf y = z at *
        go_wp2_with (at_builtin; refine wpList_append_src rfl _ _ 25 rfl (g + 1) 3 i0 (.int .i64 0) 1 8 Try.underlying25 hi hz0 hz1 hz2 rfl (by omega) _ _ ns.length 1 (ns.map (.int .i64)) [.int .i64 z] rfl (own_st HO.out hXa) rfl rfl (Src.new _ _ _ _) (fun y hy => by rw [List.mem_singleton] at hy; subst hy; rfl) (by omega) (by simp; omega) ?_; intro v' w' hown hgrow hat)
        have hlo := own_ge HO.out
        have hE4 : Below w.heap.size w w' := below_ng hE hgrow (fun k hk => by have := hlo k hk; omega)
        have hb4 := (HB.out.ext hXa).grows hgrow (fun e => by have := hlo _ e; omega)
        refine ⟨⟨k + 1, by omega, by go_num, ?_, hE4, hb4⟩, by simp [intOf]; omega⟩
        show World.ownsRow _ _ _ _ _ _ _
        rw [Hn.out, List.length_append, List.map_append]
        exact hown
      · obtain rfl : k = bs.length := by omega
        rw [hll] at HO ⊢
        go_wp2
        exact bodyPost_ret (v := .tuple #[.slice B1 bs.length c1, .int .i64 0]) (by simp [results, Try.results12, go_sem]) rfl (Ret.mk hE (VTup.two (by have h := OwnI.ints HO.out; rwa [List.take_length] at h) rfl))
  · have hr : rightS f ws = false := by simpa using hr
    have e : rclsesO f ws bs = ([], 2) := by unfold rclsesO; rw [hr]; rfl
    have e2 : rclsO f ws = (fun _ => 0, 0, 2) := by unfold rclsO; rw [hr]; rfl
    rw [e2] at hct
    rw [e]
    clear e e2 hr hS0 hS1
    go_enter Try.func12, Try.ntmps12
    go_wp2_with fail
    refine hct.mono ?_
    rintro _ w1 ⟨u, rfl, hE1, hu⟩
    obtain ⟨u1, u2, u3, rfl, rfl, rfl, rfl⟩ := VTup.inv3 hu
    have hE : Ext w w1 := hX.tr hE1
    have hlt1 : w.heap.size ≤ w1.heap.size := hE.size
    go_upto_region 2 with (first | (refine wpList_allocZ rfl 29 rfl _ zeroI ?_) | (refine wpList_store_row rfl 29 _ _ rfl w1.heap.size (iArr (fun _ => 0)) rfl rfl 29 (iArr fun _ => 0) (Box.new w1 29 (iArr fun _ => 0)) (by rw [iArr_size]; kernel_rfl) (by first | (rw [iArr_size, iArr_size]) | rfl) (arr_one fun _ _ => rfl) ?_))
    have hb6 : Box ((w1.alloc (.cells (iArr fun _ => 0) 29)).setRow w1.heap.size (iArr (fun _ => 0))) w1.heap.size 29 (iArr (fun _ => 0)) := (Box.new w1 29 (iArr fun _ => 0)).setRow_
    have hX6 : Below w.heap.size w ((w1.alloc (.cells (iArr fun _ => 0) 29)).setRow w1.heap.size (iArr (fun _ => 0))) := below_setRow (hE.tr (ext_alloc _ _)) hlt1 _
    generalize (w1.alloc (.cells (iArr fun _ => 0) 29)).setRow w1.heap.size (iArr (fun _ => 0)) = w2 at *
    generalize w1.heap.size = g at *
    have HB := hide hb6
    have HX := hide hX6
    have hg6 : g < w2.heap.size := hb6.lt
    clear hct hX hE1 hE hb6 hX6 hu
    have hE : Ext w w2 := HX.out
    go_wp2
    go_loopw [9, 10] (fun l i wr => wr = w2 ∧ l = .slice none 0 0 ∧ i = .int .i64 0) (fun _ _ _ => 0)
    case atStart => exact ⟨rfl, rfl, rfl⟩
    case round =>
      obtain ⟨hwr, rfl, rfl⟩ := hrel
      by_cases h0 : 0 < bs.length
      · go_wp2
        subst hwr
        exact bodyPost_ret (v := .tuple #[.slice none 0 0, .int .i64 2]) (by simp [results, Try.results12, go_sem]) rfl (Ret.mk hE (VTup.two (nil_ints _) rfl))
      · go_wp2
        subst hwr
        exact bodyPost_ret (v := .tuple #[.slice none 0 0, .int .i64 2]) (by simp [results, Try.results12, go_sem]) rfl (Ret.mk hE (VTup.two (nil_ints _) rfl))
end Go.Proofs.Ytfbamdkalamliaa
