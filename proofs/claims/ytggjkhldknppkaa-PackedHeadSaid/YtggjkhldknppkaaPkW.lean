/- PackedHead, walked. -/
import Derived.Test.YtggjkhldknppkaaPkL
import Derived.Test.YtggjkhldknppkaaPkN
namespace Go.Proofs.Ytggjkhldknppkaa
open Go.RowKit PakM DigM
theorem box4 (w : World) (t : TypeId) (a b c d : UInt8) : VBytes [a, b, c, d] (.slice (some ⟨w.heap.size, 0, none⟩) 4 4) (w.alloc (.cells #[.int .u8 (a.toNat : Int), .int .u8 (b.toNat : Int), .int .u8 (c.toNat : Int), .int .u8 (d.toNat : Int)] t)) :=
  VBytes.of (bs := [a, b, c, d]) (Nat.le_refl _) (by decide) fun _ => ⟨_, 0, rfl, by simp, fun j hj => by
    have B := Box.new w t #[.int .u8 (a.toNat : Int), .int .u8 (b.toNat : Int), .int .u8 (c.toNat : Int), .int .u8 (d.toNat : Int)]
    match j, hj with
    | 0, _ => exact B.at_ 0 rfl
    | 1, _ => exact B.at_ 1 rfl
    | 2, _ => exact B.at_ 2 rfl
    | 3, _ => exact B.at_ 3 rfl⟩
set_option maxRecDepth 100000 in
set_option maxHeartbeats 8000000 in
theorem packedHead_any (a b c d f : UInt8) (t : List UInt8) (s : Int) (hs0 : 0 ≤ s) (hs1 : s < 4294967296) (vt : Value) (w : World) (hT : VBytes t vt w) : Calls Try.prog 7 #[.agg #[.int .u8 (a.toNat : Int), .int .u8 (b.toNat : Int), .int .u8 (c.toNat : Int), .int .u8 (d.toNat : Int)], .int .u8 (f.toNat : Int), vt, .int .u32 s] w (Ret w (VEq (.bool true))) := by
  have hwk := wakes_any
  obtain ⟨i0, hi, hz0, hz1, hz2⟩ := info_parts Dg.Try.infoB
  have hT0 := hT
  obtain ⟨A, cA, rfl, hc1, hc2, -⟩ := VBytes.form hT
  unfold maxLen at hc2
  clear hT
  by_cases ht : t.length ≤ 300
  case neg =>
    have ht' : (300 : Int) < (t.length : Int) := by omega
    clear hT0
    go_enter Try.func7, Try.ntmps7
    go_wp2_with fail
    refine (hwk _).mono ?_
    rintro _ w3 ⟨u, rfl, hE3, rfl⟩
    go_wp2
    go_ret
    exact Ret.mk ((ext_alloc _ _).tr hE3) rfl
  have ht' : ¬ (300 : Int) < (t.length : Int) := by omega
  go_enter Try.func7, Try.ntmps7
  go_upto_region 3 with (fail)
  have hq0 := box4 w 40 a b c d
  have hE := ext_alloc w (.cells #[.int .u8 (a.toNat : Int), .int .u8 (b.toNat : Int), .int .u8 (c.toNat : Int), .int .u8 (d.toNat : Int)] 40)
  have hT1 := VP.st _ _ _ _ hT0 hE
  generalize w.heap.size = g0 at hq0 ⊢
  obtain ⟨w1, hw1⟩ : ∃ W, w.alloc (.cells #[.int .u8 (a.toNat : Int), .int .u8 (b.toNat : Int), .int .u8 (c.toNat : Int), .int .u8 (d.toNat : Int)] 40) = W := ⟨_, rfl⟩
  rw [hw1] at hE hT1 hq0 ⊢
  clear hw1 hT0
  go_wp2_with (at_builtin; first | (refine wpList_append_bytes rfl _ _ 23 rfl w1.heap.size 5 i0 (.int .u8 0) Try.underlying23 hi hz0 hz1 hz2 rfl _ _ [] [a, b, c, d] rfl (OwnB.made w1 w1.heap.size 5 (Nat.le_refl _)) rfl (VP.st _ _ _ _ hq0 (ext_alloc _ _)) (by simp) (ext_alloc _ _).size ?_; intro v2 w2 hown2 hgrow2 hat2; rw [List.nil_append] at hown2; have hE2 : Ext w1 w2 := below_ng (Ext.rf w1) hgrow2 (fun k hk => by cases hk; exact Nat.le_refl _); have Hge2 := hide (OwnB.ge hown2); obtain ⟨A2, c2, e2⟩ := OwnB.form hown2; subst e2; have HO2 := hide hown2; clear hown2 hgrow2 hat2) | (refine wpList_append_bytes rfl _ _ 23 rfl w1.heap.size 5 i0 (.int .u8 0) Try.underlying23 hi hz0 hz1 hz2 rfl _ _ [a, b, c, d] [f] rfl (OwnB.st HO2.out (ext_alloc _ _)) rfl (one_byte _ _ rfl _ _) (by simp) (hE2.tr (ext_alloc _ _)).size ?_; intro v3 w3 hown3 hgrow3 hat3; have hE3 : Ext w1 w3 := (hE2.tr (ext_alloc _ _)).grown hgrow3 (hE2.tr (ext_alloc _ _)).size (fun j hj => by have := Hge2.out j hj; omega); have Hge3 := hide (OwnB.ge hown3); obtain ⟨A3, c3, e3⟩ := OwnB.form hown3; subst e3; have HO3 := hide hown3; clear hown3 hgrow3 hat3) | (refine wpList_append_bytes rfl _ _ 23 rfl w1.heap.size 5 i0 (.int .u8 0) Try.underlying23 hi hz0 hz1 hz2 rfl _ _ ([a, b, c, d] ++ [f]) t rfl HO3.out rfl (VP.st _ _ _ _ hT1 hE3) (by simp; omega) hE3.size ?_; intro v4 w4 hown4 hgrow4 hat4; have hE4 : Ext w1 w4 := hE3.grown hgrow4 hE3.size (fun j hj => by have := Hge3.out j hj; omega); obtain ⟨bo, hbo⟩ : ∃ x, [a, b, c, d] ++ [f] ++ t = x := ⟨_, rfl⟩; rw [hbo] at hown4; have Hbo := hide hbo; clear hbo; obtain ⟨A4, c4, e4⟩ := OwnB.form hown4; subst e4; have HO4 := hide hown4; clear hown4 hgrow4 hat4))
  have Hbl : Hid (bo.length = 5 + t.length) := by
    show bo.length = 5 + t.length
    rw [← Hbo.out]; simp; omega
  have hq4 := OwnB.bytes HO4.out
  have Hge4 := hide (OwnB.ge HO4.out)
  have hof := rof1_any bo _ _ (parts_new hq4 23)
  clear HO2 HO3 Hge2 Hge3 hE2 hE3
  go_wp2_with fail
  refine hof.mono ?_
  rintro _ w5 ⟨u, rfl, hE5, rfl⟩
  clear hof
  obtain ⟨o, ho⟩ : ∃ o, SumM.ofB bo = o := ⟨_, rfl⟩
  rw [ho]
  have Ho := hide ho
  clear ho
  obtain ⟨pb, hpb⟩ : ∃ x, SumM.putB s = x := ⟨_, rfl⟩
  have hput := fun W => Sm.rput_any s hs0 hs1 W
  rw [hpb] at hput
  have Hpl : Hid (pb.length = 4) := by
    show pb.length = 4
    rw [← hpb]; exact SumM.putB_length _
  have Hpb := hide hpb
  clear hpb
  go_wp2_with fail
  refine (hput _).mono ?_
  rintro _ w6 ⟨u, rfl, hE6, hq6⟩
  have hX6 := ((ext_alloc _ _).tr hE5).tr hE6
  have hO6 := OwnB.st HO4.out hX6
  have hE6' := hE4.tr hX6
  obtain ⟨A6, c6, rfl, -⟩ := VBytes.form hq6
  clear hput HO4 hE5 hE6 hq4 hX6
  go_wp2_with (at_builtin; refine wpList_append_bytes rfl _ _ 23 rfl w1.heap.size 5 i0 (.int .u8 0) Try.underlying23 hi hz0 hz1 hz2 rfl _ _ bo pb rfl hO6 rfl hq6 (by have := Hpl.out; have := Hbl.out; omega) hE6'.size ?_; intro v7 w7 hown7 hgrow7 hat7; have hE7 : Ext w1 w7 := hE6'.grown hgrow7 hE6'.size (fun j hj => by have := Hge4.out j hj; omega); have hq7 := OwnB.bytes hown7; obtain ⟨A7, c7, e7⟩ := OwnB.form hown7; subst e7; clear hown7 hgrow7 hat7)
  have hh : headP (bo ++ pb) = (if t.length = 0 then (false, 10) else if [a, b, c, d] ≠ magicB then (false, 40) else if 1 < f.toNat then (false, 41) else if s ≠ o then (false, 42) else (decide (f = 1), 0) : Bool × Int) := by
    have h4 : bo.take 4 = [a, b, c, d] := by rw [← Hbo.out]; rfl
    have h5 : bo.getD 4 0 = f := by rw [← Hbo.out]; rfl
    have h6 : (bo.length < 6) = (t.length = 0) := by have := Hbl.out; exact propext ⟨fun h => by omega, fun h => by omega⟩
    rw [← Hpb.out, head_sum bo s hs0 hs1, h4, h5, Ho.out]
    simp only [h6]
  have hpl : (bo ++ pb).length ≤ 1000000 := by have := Hpl.out; have := Hbl.out; rw [List.length_append]; omega
  have hhd := fun fl e h W v hv => c_phead (w0 := W) (bo ++ pb) fl e h hpl v W (Ext.rf W) hv
  rw [List.length_append] at hq7
  have hq0 := VP.st _ _ _ _ hq0 hE7
  have hE := hE.tr hE7
  clear hE4 hE6' hO6 hE7 hT1 hq6 hpl
  by_cases ht0 : t.length = 0
  · rw [if_pos ht0] at hh
    have htz : (t.length : Int) = 0 := by omega
    have htb : ((t.length : Int) == 0) = true := by rw [htz]; rfl
    have hhd := hhd _ _ hh _ _ hq7
    clear hh hq7
    go_wp2_with fail
    refine hhd.mono ?_
    rintro _ w8 ⟨u, rfl, hE8, hu⟩
    obtain ⟨_, _, rfl, rfl, rfl⟩ := VTup.inv2 hu
    have hE9 := hE.tr hE8
    clear hhd hu hE8
    go_wp2_with fail
    refine (hwk _).mono ?_
    rintro _ w9 ⟨u, rfl, hE9', rfl⟩
    go_wp2
    go_ret
    exact Ret.mk (hE9.tr hE9') rfl
  rw [if_neg ht0] at hh
  have htz : ¬ (t.length : Int) = 0 := by omega
  have htb : ((t.length : Int) == 0) = false := by rw [beq_eq_false_iff_ne]; exact htz
  obtain ⟨⟨fl, e⟩, hfe⟩ : ∃ p, headP (bo ++ pb) = p := ⟨_, rfl⟩
  have hhd := hhd _ _ hfe _ _ hq7
  rw [hfe] at hh
  clear hq7 hfe
  by_cases hm : [a, b, c, d] ≠ magicB
  · rw [if_pos hm] at hh
    obtain ⟨rfl, rfl⟩ := Prod.mk.inj hh
    unfold magicB at hm
    clear hh
    go_wp2_with fail
    refine hhd.mono ?_
    rintro _ w8 ⟨u, rfl, hE8, hu⟩
    obtain ⟨_, _, rfl, rfl, rfl⟩ := VTup.inv2 hu
    have hq0 := VP.st _ _ _ _ hq0 hE8
    have hE := hE.tr hE8
    clear hhd hu hE8
    go_upto_region 10 with (fail)
    have hcv := run_string_of (dst := 9) Try.underlying23 Try.underlying5 Try.underlying9 hq0
    go_wp2_with fail
    all_goals first | (refine (hwk _).mono ?_; rintro _ w9 ⟨u, rfl, hE9, rfl⟩; go_wp2; go_ret; exact Ret.mk (hE.tr hE9) rfl) | (exfalso; rename_i hx; exact hx hfl) | (exfalso; simp_all; done)
  rw [if_neg hm] at hh
  have hm' : [a, b, c, d] = [84, 83, 76, 49] := Decidable.not_not.1 hm
  simp only [List.cons.injEq, and_true] at hm'
  obtain ⟨rfl, rfl, rfl, rfl⟩ := hm'
  clear hm
  by_cases hf : 1 < f.toNat
  · rw [if_pos hf] at hh
    obtain ⟨rfl, rfl⟩ := Prod.mk.inj hh
    have hf' : (1 : Int) < (f.toNat : Int) := by omega
    clear hh
    go_wp2_with fail
    refine hhd.mono ?_
    rintro _ w8 ⟨u, rfl, hE8, hu⟩
    obtain ⟨_, _, rfl, rfl, rfl⟩ := VTup.inv2 hu
    have hq0 := VP.st _ _ _ _ hq0 hE8
    have hE := hE.tr hE8
    clear hhd hu hE8
    go_upto_region 10 with (fail)
    have hcv := run_string_of (dst := 9) Try.underlying23 Try.underlying5 Try.underlying9 hq0
    go_wp2_with fail
    all_goals first | (refine (hwk _).mono ?_; rintro _ w9 ⟨u, rfl, hE9, rfl⟩; go_wp2; go_ret; exact Ret.mk (hE.tr hE9) rfl) | (exfalso; rename_i hx; exact hx hfl) | (exfalso; simp_all; done)
  rw [if_neg hf] at hh
  have hf' : ¬ (1 : Int) < (f.toNat : Int) := by omega
  by_cases hso : s ≠ o
  · rw [if_pos hso] at hh
    obtain ⟨rfl, rfl⟩ := Prod.mk.inj hh
    have hos : (o == s) = false := by rw [beq_eq_false_iff_ne]; exact fun h => hso h.symm
    rw [hos]
    clear hh
    go_wp2_with fail
    refine hhd.mono ?_
    rintro _ w8 ⟨u, rfl, hE8, hu⟩
    obtain ⟨_, _, rfl, rfl, rfl⟩ := VTup.inv2 hu
    have hq0 := VP.st _ _ _ _ hq0 hE8
    have hE := hE.tr hE8
    clear hhd hu hE8
    go_upto_region 10 with (fail)
    have hcv := run_string_of (dst := 9) Try.underlying23 Try.underlying5 Try.underlying9 hq0
    go_wp2_with fail
    all_goals first | (refine (hwk _).mono ?_; rintro _ w9 ⟨u, rfl, hE9, rfl⟩; go_wp2; go_ret; exact Ret.mk (hE.tr hE9) rfl) | (exfalso; rename_i hx; exact hx hfl) | (exfalso; simp_all; done)
  · rw [if_neg hso] at hh
    obtain ⟨rfl, rfl⟩ := Prod.mk.inj hh
    have hos : (o == s) = true := by rw [beq_iff_eq]; exact (Decidable.not_not.1 hso).symm
    rw [hos]
    clear hh
    have hfl : decide (f = 1) = ((f.toNat : Int) == 1) := by
      by_cases h : f = 1
      · rw [h]; rfl
      · have h1 : ¬ (f.toNat : Int) = 1 := fun h2 => h (UInt8.toNat.inj (show f.toNat = 1 by omega))
        rw [decide_eq_false h, beq_eq_false_iff_ne.2 h1]
    go_wp2_with fail
    refine hhd.mono ?_
    rintro _ w8 ⟨u, rfl, hE8, hu⟩
    obtain ⟨_, _, rfl, rfl, rfl⟩ := VTup.inv2 hu
    have hq0 := VP.st _ _ _ _ hq0 hE8
    have hE := hE.tr hE8
    clear hhd hu hE8
    go_upto_region 10 with (fail)
    have hcv := run_string_of (dst := 9) Try.underlying23 Try.underlying5 Try.underlying9 hq0
    go_wp2_with fail
    all_goals first | (refine (hwk _).mono ?_; rintro _ w9 ⟨u, rfl, hE9, rfl⟩; go_wp2; go_ret; exact Ret.mk (hE.tr hE9) rfl) | (exfalso; rename_i hx; exact hx hfl) | (exfalso; simp_all; done)
end Go.Proofs.Ytggjkhldknppkaa
