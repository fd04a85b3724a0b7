/- ClassTells, walked. -/
import Derived.Test.YtfbamdkalamliaaClY
namespace Go.Proofs.Ytfbamdkalamliaa
open Go.RowKit LetM SetM
set_option maxRecDepth 100000 in
set_option maxHeartbeats 8000000 in
theorem classTells_any (f : Bool) (ws : List (List UInt8)) (n : Int) (ns : List Int) (bs : List UInt8) (u v2 v3 : Value) (w : World) (hS : VSet f ws u w) (hN : VInts ns v2 w) (hB : VBytes bs v3 w) : Calls Try.prog 3 #[u, .int .i64 n, v2, v3] w (Ret w (VEq (.bool true))) := by
  have hwk := wakes_any
  have hg1 := fun W hv => setgreat_any f ws u W hv
  unfold VGreat at hg1
  have hS0 := hS
  have hN0 := hN
  have hB0 := hB
  obtain ⟨sl, rfl, hP⟩ := hS
  obtain ⟨A, c, rfl, -⟩ := VParts.form hP
  obtain ⟨A2, c2, rfl, hc1, hc2, -⟩ := VInts.form hN
  obtain ⟨A3, c3, rfl, hc3, hc4, -⟩ := VBytes.form hB
  unfold maxLen at hc2 hc4
  clear hP hN hB
  have hX := ext_alloc w (.cells #[.bool f, .slice A ws.length c] 24)
  have hbx := Box.new w 24 #[.bool f, .slice A ws.length c]
  go_enter Try.func3, Try.ntmps3
  go_wp2_with fail
  refine (hg1 _ (VP.st _ _ _ _ hS0 hX)).mono ?_
  rintro e w1 ⟨u, rfl, hE, rfl⟩
  have hbx := hbx.ext hE
  have hE := hX.tr hE
  clear hX
  obtain ⟨g1, hq1⟩ : ∃ g, greatB ws = g := ⟨_, rfl⟩
  rw [hq1]
  clear hg1
  cases g1
  case true =>
    clear hS0 hN0 hB0 hq1 hbx
    go_wp2_with fail
    refine (hwk _).mono ?_
    rintro e w3 ⟨u, rfl, hE3, rfl⟩
    go_wp2
    go_ret
    exact Ret.mk (hE.tr hE3) rfl
  by_cases hln : ns.length ≤ 60
  case neg =>
    clear hS0 hN0 hB0 hq1 hbx
    go_wp2_with fail
    refine (hwk _).mono ?_
    rintro e w3 ⟨u, rfl, hE3, rfl⟩
    go_wp2
    go_ret
    exact Ret.mk (hE.tr hE3) rfl
  by_cases hlb : bs.length ≤ 300
  case neg =>
    clear hS0 hN0 hB0 hq1 hbx
    go_wp2_with fail
    refine (hwk _).mono ?_
    rintro e w3 ⟨u, rfl, hE3, rfl⟩
    go_wp2
    go_ret
    exact Ret.mk (hE.tr hE3) rfl
  obtain ⟨l1, l2⟩ := greatB_false hq1
  clear hq1
  have hl : ws.flatten.length ≤ 1000000 := by omega
  have hn : ws.length ≤ 1000000 := by omega
  have hd0 := hbx.at_ 0 rfl
  have hd1 := hbx.at_ 1 rfl
  have hS1 := VP.st _ _ _ _ hS0 hE
  have HS := hide hS1
  have hcl := clOf_any f ws _ w1 hS1 hl hn
  have hcr := fun W hS => rOf_any f ws (.agg #[.bool f, .slice A ws.length c]) W hS
  rw [rclsO_eq] at hcr
  obtain ⟨cf, hcf⟩ : ∃ cf, (clsO f ws).1 = cf := ⟨_, rfl⟩
  rw [hcf] at hcl hcr
  obtain ⟨m, hm⟩ : ∃ m, (clsO f ws).2.1 = m := ⟨_, rfl⟩
  rw [hm] at hcl hcr
  obtain ⟨e, he⟩ : ∃ e, (clsO f ws).2.2 = e := ⟨_, rfl⟩
  rw [he] at hcl hcr
  clear hcf hm he hS1
  have HB := hide hbx
  have HE := hide hE
  clear hbx hE
  go_wp2_with fail
  refine hcl.mono ?_
  rintro _ w2 ⟨u, rfl, hE2, hu⟩
  obtain ⟨_, _, _, rfl, rfl, rfl, rfl⟩ := VTup.inv3 hu
  clear hu hd0 hd1 hcl
  go_upto_region 4 with (first | (refine wpList_allocZ rfl 29 rfl _ zeroI ?_) | (refine wpList_store_row rfl 29 _ _ rfl w2.heap.size (iArr cf) rfl rfl 29 (iArr fun _ => 0) (Box.new w2 29 (iArr fun _ => 0)) (by rw [iArr_size]; kernel_rfl) (by rw [iArr_size, iArr_size]) (arr_one fun _ _ => rfl) ?_))
  have hX2 := hE2.tr (new_row (w2 := w2) (T := 29) (iArr fun _ => 0) (iArr cf))
  have hb9 : Box ((w2.alloc (.cells (iArr fun _ => 0) 29)).setRow w2.heap.size (iArr cf)) w2.heap.size 29 (iArr cf) := (Box.new w2 29 (iArr fun _ => 0)).setRow_
  generalize (w2.alloc (.cells (iArr fun _ => 0) 29)).setRow w2.heap.size (iArr cf) = w3 at *
  generalize w2.heap.size = g9 at *
  have HB := hide (HB.out.ext hX2)
  have HE := hide (HE.out.tr hX2)
  have HS := hide (VP.st _ _ _ _ HS.out hX2)
  clear hX2 hE2
  have hd0 := HB.out.at_ 0 rfl
  have hd1 := HB.out.at_ 1 rfl
  go_wp2_with fail
  refine (hcr _ HS.out).mono ?_
  rintro _ w4 ⟨u, rfl, hE2, hu⟩
  obtain ⟨_, _, _, rfl, rfl, rfl, rfl⟩ := VTup.inv3 hu
  clear hu hd0 hd1 hcr
  go_upto_region 5 with (first | (refine wpList_allocZ rfl 29 rfl _ zeroI ?_) | (refine wpList_store_row rfl 29 _ _ rfl w4.heap.size (iArr cf) rfl rfl 29 (iArr fun _ => 0) (Box.new w4 29 (iArr fun _ => 0)) (by rw [iArr_size]; kernel_rfl) (by rw [iArr_size, iArr_size]) (arr_one fun _ _ => rfl) ?_))
  have hX2 := hE2.tr (new_row (w2 := w4) (T := 29) (iArr fun _ => 0) (iArr cf))
  have hb12 : Box ((w4.alloc (.cells (iArr fun _ => 0) 29)).setRow w4.heap.size (iArr cf)) w4.heap.size 29 (iArr cf) := (Box.new w4 29 (iArr fun _ => 0)).setRow_
  generalize (w4.alloc (.cells (iArr fun _ => 0) 29)).setRow w4.heap.size (iArr cf) = w5 at *
  generalize w4.heap.size = g12 at *
  have HB := hide (HB.out.ext hX2)
  have HE := hide (HE.out.tr hX2)
  have HS := hide (VP.st _ _ _ _ HS.out hX2)
  have hb9 := hb9.ext hX2
  clear hX2 hE2
  have hd0 := HB.out.at_ 0 rfl
  have hd1 := HB.out.at_ 1 rfl
  have hcc := clClasses_any f ws bs _ _ w5 HS.out (VP.st _ _ _ _ hB0 HE.out) hl hn (by omega)
  have hrc := fun W hS hB => rClasses_any f ws bs (.agg #[.bool f, .slice A ws.length c]) (.slice A3 bs.length c3) W hS hB (by omega)
  rw [rclsesO_eq] at hrc
  obtain ⟨xs, hxs⟩ : ∃ xs, (clsesO f ws bs).1 = xs := ⟨_, rfl⟩
  rw [hxs] at hcc hrc
  obtain ⟨e2, he2⟩ : ∃ e, (clsesO f ws bs).2 = e := ⟨_, rfl⟩
  rw [he2] at hcc hrc
  clear hxs he2
  go_wp2_with fail
  refine hcc.mono ?_
  rintro _ w6 ⟨u, rfl, hE6, hu⟩
  obtain ⟨_, _, rfl, hi1, rfl⟩ := VTup.inv2 hu
  clear hu hd0 hd1 hcc
  have hi1' := hi1
  obtain ⟨A15, c15, rfl, -⟩ := VInts.form hi1'
  have HB := hide (HB.out.ext hE6)
  have HE := hide (HE.out.tr hE6)
  have HS := hide (VP.st _ _ _ _ HS.out hE6)
  have hb9 := hb9.ext hE6
  have hb12 := hb12.ext hE6
  clear hE6 hi1'
  have hd0 := HB.out.at_ 0 rfl
  have hd1 := HB.out.at_ 1 rfl
  go_wp2_with fail
  refine (hrc _ HS.out (VP.st _ _ _ _ hB0 HE.out)).mono ?_
  rintro _ w7 ⟨u, rfl, hE7, hu⟩
  obtain ⟨_, _, rfl, hi2, rfl⟩ := VTup.inv2 hu
  clear hu hd0 hd1 hrc
  have hi2' := hi2
  obtain ⟨A17, c17, rfl, -⟩ := VInts.form hi2'
  have HB := hide (HB.out.ext hE7)
  have HE := hide (HE.out.tr hE7)
  have HS := hide (VP.st _ _ _ _ HS.out hE7)
  have hb9 := hb9.ext hE7
  have hb12 := hb12.ext hE7
  have hi1 := VP.st _ _ _ _ hi1 hE7
  clear hE7 hi2'
  have hin := ints_any xs xs _ _ w7 hi1 hi2
  rw [decide_eq_true rfl] at hin
  clear hi1 hi2
  go_wp2_with (first | (refine wpList_load_box rfl 29 _ rfl g9 rfl _ hb9 Try.underlying29 rfl (by rw [iArr_size]; kernel_rfl) ?_) | (refine wpList_load_box rfl 29 _ rfl g12 rfl _ hb12 Try.underlying29 rfl (by rw [iArr_size]; kernel_rfl) ?_) | (refine wpList_neq_self rfl _ _ _ rfl cf rfl rfl ?_))
  refine hin.mono ?_
  rintro _ w8 ⟨u, rfl, hE8, rfl⟩
  have hbs := HB.out.ext hE8
  have hE := HE.out.tr hE8
  have hS8 := VP.st _ _ _ _ HS.out hE8
  have hn8 := VP.st _ _ _ _ hN0 hE
  clear hin HB HE HS hb9 hb12 hE8 hS0 hN0 hB0
  have hrb := fun W hS => rBytes_any f ws n (.agg #[.bool f, .slice A ws.length c]) W hS
  rw [rbytesO_eq] at hrb
  have hrl := fun W v hS hv => rLeast_any f ws ns (.agg #[.bool f, .slice A ws.length c]) v W hS hv (by omega)
  rw [rleastO_eq'] at hrl
  go_upto_region 9 with (fail)
  refine law_end (r := .bool true) (by assumption) 23 [] 8 102 _ (by kernel_rfl) (by kernel_rfl) (fun _ _ _ _ _ h => h) rfl rfl rfl rfl rfl (by kernel_rfl) rfl 22 rfl rfl ?_
  refine VWalk.loadBox 24 _ rfl (want_none rfl) (opd_frame 4 rfl (by kernel_rfl)) Try.underlying24 rfl (by kernel_rfl) hbs (ext_drew _) ?_
  refine VWalk.move _ rfl (want_none rfl) (opd_frame 1 rfl (by kernel_rfl)) ?_
  refine VWalk.call2 14 _ _ _ rfl (enters_of Try.func14 (by kernel_rfl) rfl) (want_none rfl) (opd_dep 0 80 1 rfl rfl rfl rfl) (opd_dep 1 81 0 rfl rfl rfl rfl) (fun a b W hX ha hb => by rw [show a = _ from ha, show b = _ from hb]; exact clBytes_any f ws n _ W (VP.st _ _ _ _ hS8 ((ext_drew _).tr hX)) hl hn) ?_
  refine VWalk.string 26 9 5 _ rfl Try.underlying26 Try.underlying5 Try.underlying9 (want_none rfl) (opd_dep 2 82 0 rfl rfl rfl rfl) ?_
  refine VWalk.loadBox 24 _ rfl (want_none rfl) (opd_frame 4 rfl (by kernel_rfl)) Try.underlying24 rfl (by kernel_rfl) hbs (ext_drew _) ?_
  refine VWalk.move _ rfl (want_none rfl) (opd_frame 1 rfl (by kernel_rfl)) ?_
  refine VWalk.call2 15 _ _ _ rfl (enters_of Try.func15 (by kernel_rfl) rfl) (want_none rfl) (opd_dep 4 84 1 rfl rfl rfl rfl) (opd_dep 5 85 0 rfl rfl rfl rfl) (fun a b W hX ha hb => by rw [show a = _ from ha, show b = _ from hb]; exact hrb W (VP.st _ _ _ _ hS8 ((ext_drew _).tr hX))) ?_
  refine VWalk.string 26 9 5 _ rfl Try.underlying26 Try.underlying5 Try.underlying9 (want_none rfl) (opd_dep 6 86 0 rfl rfl rfl rfl) ?_
  refine VWalk.eqTs _ _ _ _ rfl (want_none rfl) (opd_dep 3 83 4 rfl rfl rfl rfl) (opd_dep 7 87 0 rfl rfl rfl rfl) rfl ?_
  refine VWalk.move _ rfl (want_none rfl) (opd_dep 8 88 0 rfl rfl rfl rfl) ?_
  refine VWalk.loadBox 24 _ rfl (want_tt 9 89 0 rfl (by kernel_rfl) rfl rfl rfl rfl) (opd_frame 4 rfl (by kernel_rfl)) Try.underlying24 rfl (by kernel_rfl) hbs (ext_drew _) ?_
  refine VWalk.move _ rfl (want_tt 9 89 1 rfl (by kernel_rfl) rfl rfl rfl rfl) (opd_fr 2 rfl hn8 (ext_drew _) (by kernel_rfl)) ?_
  refine VWalk.call2 16 _ _ _ rfl (enters_of Try.func16 (by kernel_rfl) rfl) (want_tt 9 89 2 rfl (by kernel_rfl) rfl rfl rfl rfl) (opd_dep 10 90 1 rfl rfl rfl rfl) (opd_dep 11 91 0 rfl rfl rfl rfl) (fun a b W hX ha hb => by rw [show a = _ from ha]; exact clLeast_any f ws ns _ b W (VP.st _ _ _ _ hS8 ((ext_drew _).tr hX)) hb hl hn (by omega)) ?_
  refine VWalk.string 26 9 5 _ rfl Try.underlying26 Try.underlying5 Try.underlying9 (want_tt 9 89 3 rfl (by kernel_rfl) rfl rfl rfl rfl) (opd_dep 12 92 0 rfl rfl rfl rfl) ?_
  refine VWalk.loadBox 24 _ rfl (want_tt 9 89 4 rfl (by kernel_rfl) rfl rfl rfl rfl) (opd_frame 4 rfl (by kernel_rfl)) Try.underlying24 rfl (by kernel_rfl) hbs (ext_drew _) ?_
  refine VWalk.move _ rfl (want_tt 9 89 5 rfl (by kernel_rfl) rfl rfl rfl rfl) (opd_fr 2 rfl hn8 (ext_drew _) (by kernel_rfl)) ?_
  refine VWalk.call2 17 _ _ _ rfl (enters_of Try.func17 (by kernel_rfl) rfl) (want_tt 9 89 6 rfl (by kernel_rfl) rfl rfl rfl rfl) (opd_dep 14 94 1 rfl rfl rfl rfl) (opd_dep 15 95 0 rfl rfl rfl rfl) (fun a b W hX ha hb => by rw [show a = _ from ha]; exact hrl W b (VP.st _ _ _ _ hS8 ((ext_drew _).tr hX)) hb) ?_
  refine VWalk.string 26 9 5 _ rfl Try.underlying26 Try.underlying5 Try.underlying9 (want_tt 9 89 7 rfl (by kernel_rfl) rfl rfl rfl rfl) (opd_dep 16 96 0 rfl rfl rfl rfl) ?_
  refine VWalk.eqTs _ _ _ _ rfl (want_tt 9 89 8 rfl (by kernel_rfl) rfl rfl rfl rfl) (opd_dep 13 93 4 rfl rfl rfl rfl) (opd_dep 17 97 0 rfl rfl rfl rfl) rfl ?_
  refine VWalk.pickT _ _ _ rfl (want_none rfl) (opd_dep 9 89 9 rfl rfl rfl rfl) (opd_dep 18 98 0 rfl rfl rfl rfl) ?_
  refine VWalk.move _ rfl (want_none rfl) (opd_dep 19 99 0 rfl rfl rfl rfl) ?_
  refine VWalk.call0 8 _ rfl (enters_of Try.func8 (by kernel_rfl) rfl) (want_tt 20 100 0 rfl (by kernel_rfl) rfl rfl rfl rfl) (fun W _ => hwk W) ?_
  refine VWalk.pickT _ _ _ rfl (want_none rfl) (opd_dep 20 100 1 rfl rfl rfl rfl) (opd_dep 21 101 0 rfl rfl rfl rfl) ?_
  refine ⟨rfl, rfl, rfl, fun W9 hE9 => ?_⟩
  exact Ret.mk (hE.tr ((ext_drew _).tr hE9)) rfl
end Go.Proofs.Ytfbamdkalamliaa
