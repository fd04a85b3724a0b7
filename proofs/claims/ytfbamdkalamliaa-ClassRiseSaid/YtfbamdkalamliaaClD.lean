/- class.Classes, walked. -/
import Derived.Test.YtfbamdkalamliaaClC
namespace Go.Proofs.Ytfbamdkalamliaa
open Go.RowKit LetM SetM
theorem Try.infoI : (Try.prog.info? 3).map (fun i => (i.zero, i.size, i.bytes)) = some (some (.int .i64 0), 1, 8) := by kernel_rfl
/-- What Classes tells. -/
def clsesO (f : Bool) (ws : List (List UInt8)) (bs : List UInt8) : List Int × Int := if rightS f ws then (bs.map fun b => (cRun f (hasB f ws.flatten) 256).1 b.toNat, 0) else ([], 2)
theorem nil_ints (w : World) : VInts [] (.slice none 0 0) w := OwnI.ints (World.ownsRow_nil w 0 0 1)
set_option maxRecDepth 100000 in
set_option maxHeartbeats 2000000 in
theorem clClasses_any (f : Bool) (ws : List (List UInt8)) (bs : List UInt8) (u v : Value) (w : World) (hS : VSet f ws u w) (hB : VBytes bs v w) (hlen : ws.flatten.length ≤ 1000000) (hn : ws.length ≤ 1000000) (hbl : bs.length ≤ 1000000) : Calls Try.prog 11 #[u, v] w (Ret w (VTup [VInts (clsesO f ws bs).1, VEq (.int .i64 (clsesO f ws bs).2)])) := by
  obtain ⟨i0, hi, hz0, hz1, hz2⟩ := info_parts Try.infoI
  have hS0 := hS
  obtain ⟨sl, rfl, hP⟩ := hS
  obtain ⟨A, c, rfl, -⟩ := VParts.form hP
  obtain ⟨B, d, rfl, hd1, hd2, hx⟩ := VBytes.form hB
  unfold maxLen at hd2
  clear hP hB
  have hX := ext_alloc w (.cells #[.bool f, .slice A ws.length c] 24)
  have hS1 := VP.st _ _ _ _ hS0 hX
  by_cases hr : rightS f ws = true
  · have e : clsesO f ws bs = (bs.map fun b => (cRun f (hasB f ws.flatten) 256).1 b.toNat, 0) := by unfold clsesO; rw [if_pos hr]
    have hct := clcount_any f ws _ _ hS1 hlen hn hr
    rw [e]
    clear e hr hS0 hS1
    go_enter Try.func11, Try.ntmps11
    go_wp2_with fail
    refine hct.mono ?_
    rintro _ w1 ⟨g, rfl, hE1, hge, hbg⟩
    have HE := hide (hX.tr hE1)
    clear hct hE1 hX
    rw [World.size_alloc] at hge
    obtain ⟨cf, hcf⟩ : ∃ cf, (cRun f (hasB f ws.flatten) 256).1 = cf := ⟨_, rfl⟩
    rw [hcf] at hbg
    have Hcf := hide hcf
    clear hcf
    generalize (cRun f (hasB f ws.flatten) 256).2 = m at *
    have HB := hide hbg
    clear hbg
    go_wp2_with fail
    go_loopw [8, 20] (fun l i wr => ∃ k : Nat, k ≤ bs.length ∧ i = .int .i64 (k : Int) ∧ Hid (OwnI wr w1.heap.size 3 l ((bs.take k).map fun b => cf b.toNat)) ∧ Hid (Ext w1 wr)) (fun _ i _ => bs.length - (intOf i).toNat)
    case atStart => exact ⟨0, by omega, rfl, World.ownsRow_nil _ _ _ _, Ext.rf _⟩
    case round =>
      obtain ⟨k, hk, rfl, HO, HX⟩ := hrel
      obtain ⟨B1, c1, hlv⟩ := own_form HO.out
      subst hlv
      have hll : ((bs.take k).map fun b => cf b.toNat).length = k := by rw [List.length_map, List.length_take, Nat.min_eq_left hk]
      by_cases hlt : k < bs.length
      · obtain ⟨b, off, rfl, hb, hcell⟩ := hx (by omega)
        have hx3 := ((HE.out.tr HX.out).cell (p := ⟨b, off + k, none⟩) hb).trans (hcell k hlt)
        have hcc := (HB.out.ext HX.out).cell (bs[k].toNat) |>.trans (cArr_get cf m (UInt8.toNat_lt bs[k]))
        have hyl := UInt8.toNat_lt bs[k]
        have Hn := hide (show (bs.take (k + 1)).map (fun b => cf b.toNat) = (bs.take k).map (fun b => cf b.toNat) ++ [cf bs[k].toNat] by rw [List.take_succ_eq_append_getElem hlt, List.map_append]; rfl)
        clear hx hcell
        generalize bs[k].toNat = y at *
        have hyl' : (y : Int) < 256 := by omega
        have hci : ((y : Nat) : Int) < 256 := by omega
        obtain ⟨ns, hns⟩ : ∃ ns, (bs.take k).map (fun b => cf b.toNat) = ns := ⟨_, rfl⟩
        rw [hns] at hll HO Hn ⊢
        have Hns := hide hns
        clear hns
        have hX : Ext wr (wr.alloc (.cells #[.int .i64 (cf y)] 3)) := ext_alloc _ _
        generalize cf y = z at *
        go_wp2_with (at_builtin; refine wpList_append_src rfl _ _ 25 rfl w1.heap.size 3 i0 (.int .i64 0) 1 8 Try.underlying25 hi hz0 hz1 hz2 rfl (by omega) _ _ ns.length 1 (ns.map (.int .i64)) [.int .i64 z] rfl (own_st HO.out hX) rfl rfl (Src.new _ _ _ _) (fun y hy => by rw [List.mem_singleton] at hy; subst hy; rfl) (by omega) (by simp; have := HX.out.size; omega) ?_; intro v' w' hown hgrow hat)
        have hE4 : Ext w1 w' := below_ng HX.out hgrow (fun k hk => own_ge HO.out k hk)
        refine ⟨⟨k + 1, by omega, by go_num, ?_, hE4⟩, by simp [intOf]; omega⟩
        show World.ownsRow _ _ _ _ _ _ _
        rw [Hn.out, List.length_append, List.map_append]
        exact hown
      · obtain rfl : k = bs.length := by omega
        rw [hll] at HO ⊢
        go_wp2
        exact bodyPost_ret (v := .tuple #[.slice B1 bs.length c1, .int .i64 0]) (by simp [results, Try.results11, go_sem]) rfl (Ret.mk (HE.out.tr HX.out) (VTup.two (by rw [Hcf.out]; have h := OwnI.ints HO.out; rwa [List.take_length] at h) rfl))
  · have hr : rightS f ws = false := by simpa using hr
    have e : clsesO f ws bs = ([], 2) := by unfold clsesO; rw [hr]; rfl
    have hct := clcount_no f ws _ _ hS1 hlen hn hr
    rw [e]
    clear e hr hS0 hS1
    go_enter Try.func11, Try.ntmps11
    go_wp2_with fail
    refine hct.mono ?_
    rintro _ w1 ⟨u, rfl, hE1, rfl⟩
    go_wp2
    exact bodyPost_ret (v := .tuple #[.slice none 0 0, .int .i64 2]) (by simp [results, Try.results11, go_sem]) rfl (Ret.mk (hX.tr hE1) (VTup.two (nil_ints _) rfl))
end Go.Proofs.Ytfbamdkalamliaa
