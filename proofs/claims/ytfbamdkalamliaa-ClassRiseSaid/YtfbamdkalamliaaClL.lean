/- The document's Least, walked. -/
import Derived.Test.YtfbamdkalamliaaClK
namespace Go.Proofs.Ytfbamdkalamliaa
open Go.RowKit LetM SetM
set_option maxRecDepth 100000 in
set_option maxHeartbeats 2000000 in
theorem rLeast_any (f : Bool) (ws : List (List UInt8)) (ns : List Int) (u v : Value) (w : World) (hS : VSet f ws u w) (hN : VInts ns v w) (hnl : ns.length ≤ 1000000) : Calls Try.prog 17 #[u, v] w (Ret w (VBytes (rleastO f ws ns))) := by
  obtain ⟨i0, hi, hz0, hz1, hz2⟩ := info_parts Try.infoB
  have hS0 := hS
  have hN0 := hN
  obtain ⟨sl, rfl, hP⟩ := hS
  obtain ⟨A, c, rfl, -⟩ := VParts.form hP
  obtain ⟨B, d, rfl, hd1, hd2, -⟩ := VInts.form hN
  unfold maxLen at hd2
  clear hP hN
  rw [rleastO_eq]
  have HX : Hid (Below w.heap.size w (w.alloc (.cells #[.bool f, .slice A ws.length c] 24))) := hide (ext_alloc _ _)
  have HB := hide (Box.new w 24 #[.bool f, .slice A ws.length c])
  obtain ⟨F, hF⟩ : ∃ F, (fun cl => (rbytesO f ws cl).take 1) = F := ⟨_, rfl⟩
  rw [hF]
  have hFl : ∀ l : List Int, (l.flatMap F).length ≤ l.length := by
    intro l
    induction l with
    | nil => simp
    | cons a l ih => rw [List.flatMap_cons, List.length_append, List.length_cons]; have : (F a).length ≤ 1 := by rw [← hF]; simp only [List.length_take]; omega
                     omega
  have HF := hide hF
  clear hF
  go_enter Try.func17, Try.ntmps17
  go_wp2
  go_loopw [5, 6] (fun l i wr => ∃ k : Nat, k ≤ ns.length ∧ i = .int .i64 (k : Int) ∧ Hid (OwnB wr (w.heap.size + 1) 5 l ((ns.take k).flatMap F)) ∧ Hid (Below w.heap.size w wr) ∧ Hid (Box wr w.heap.size 24 #[.bool f, .slice A ws.length c])) (fun _ i _ => ns.length - (intOf i).toNat)
  case atStart => exact ⟨0, by omega, rfl, World.ownsRow_nil _ _ _ _, HX, HB⟩
  case round =>
    clear HX HB
    obtain ⟨k, hk, rfl, HO, HX, HB⟩ := hrel
    have hE : Ext w wr := HX.out
    have hll := hFl (ns.take k)
    rw [List.length_take] at hll
    by_cases hlt : k < ns.length
    · have hN := VP.st _ _ _ _ hN0 hE
      have hSr := VP.st _ _ _ _ hS0 hE
      have hbs := HB.out
      have Hsn : Hid ((ns.take (k + 1)).flatMap F = (ns.take k).flatMap F ++ (rbytesO f ws ns[k]).take 1) := by
        show _ = _
        rw [List.take_succ_eq_append_getElem hlt, List.flatMap_append, ← HF.out]; simp
      have hcb := fun W hX => rBytes_any f ws ns[k] _ W (VP.st _ _ _ _ hSr hX)
      go_upto_region 5 with (fail)
      go_upto_region 5 with (fail)
      refine vregion 6 [] (by kernel_rfl) (by kernel_rfl) (fun _ _ _ _ _ h => h) ?_
      refine VWalk.loadBox 24 _ rfl (want_none rfl) (opd_frame 2 rfl (by kernel_rfl)) Try.underlying24 rfl (by kernel_rfl) hbs (ext_drew _) ?_
      refine VWalk.move _ rfl (want_none rfl) (opd_fr 1 rfl hN (ext_drew _) (by kernel_rfl)) ?_
      refine VWalk.move _ rfl (want_none rfl) (opd_frame 6 rfl (by kernel_rfl)) ?_
      refine VWalk.indexI 25 3 _ _ .i64 k rfl Try.underlying25 (by kernel_rfl) (want_none rfl) (opd_dep 1 15 1 rfl rfl rfl rfl) (opd_dep 2 16 0 rfl rfl rfl rfl) hlt ?_
      refine VWalk.loadP 3 _ rfl (want_none rfl) (opd_dep 3 17 0 rfl rfl rfl rfl) (fun _ => by kernel_rfl) ?_
      refine VWalk.call2 15 _ _ _ rfl (enters_of Try.func15 (by kernel_rfl) rfl) (want_none rfl) (opd_dep 0 14 4 rfl rfl rfl rfl) (opd_dep 4 18 0 rfl rfl rfl rfl) (fun a b W hX ha hb => by rw [show a = _ from ha, show b = _ from hb]; exact hcb W ((ext_drew _).tr hX)) ?_
      refine ⟨rfl, fun W5 hE5 => ?_⟩
      refine VFin.eq ?_  -- 0
      refine VFin.any fun v5_1 hv5_1 => ?_
      refine VFin.eq ?_  -- 2
      refine VFin.any fun v5_3 hv5_3 => ?_
      refine VFin.eq ?_  -- 4
      refine VFin.any fun v5_5 hv5_5 => ?_
      refine VFin.nil ?_
      simp only [Act.put, List.setIfInBounds_toArray, List.set_cons_zero, List.set_cons_succ]
      clear hv5_1 hv5_3
      have hN := VP.st _ _ _ _ hN ((ext_drew _).tr hE5)
      have hbs := hbs.drew.ext hE5
      have hE := hE.tr ((ext_drew _).tr hE5)
      have hX5 : Ext wr W5 := (ext_drew _).tr hE5
      have HO5 : Hid (OwnB W5 (w.heap.size + 1) 5 u5 ((ns.take k).flatMap F)) := hide (own_st HO.out hX5)
      obtain ⟨B1, c1, hlv⟩ := OwnB.form HO5.out
      subst hlv
      obtain ⟨A5, c5, rfl, hq1, hq2, hq3⟩ := VBytes.form hv5_5
      unfold maxLen at hq2
      have HX5 := hide hE
      have HB5 := hide hbs
      have hgl : w.heap.size < W5.heap.size := hbs.lt
      generalize (ns.take k).flatMap F = acc at *
      generalize rbytesO f ws ns[k] = bl at *
      clear hN hbs hE hv5_5 hcb HO HX HB
      by_cases h0 : 0 < bl.length
      · obtain ⟨b, off, rfl, hbl, hcell⟩ := hq3 h0
        have hx3 := hcell 0 h0
        have Hn : Hid ((ns.take (k + 1)).flatMap F = acc ++ [bl[0]]) := by
          show _ = _
          rw [Hsn.out, List.take_succ_eq_append_getElem (i := 0) h0]; rfl
        rw [Nat.add_zero] at hx3
        have hXa : Ext W5 (W5.alloc (.cells #[.int .u8 (bl[0].toNat : Int)] 5)) := ext_alloc _ _
        have HO6 := hide (own_st HO5.out hXa)
        clear hcell hq3
        generalize bl[0] = y at *
        go_wp2_with (at_builtin; refine wpList_append_src rfl _ _ 26 rfl (w.heap.size + 1) 5 i0 (.int .u8 0) 1 1 Try.underlying26 hi hz0 hz1 hz2 rfl (by omega) _ _ acc.length 1 (acc.map byteV) [.int .u8 (y.toNat : Int)] rfl HO6.out rfl rfl (Src.new _ _ _ _) (fun y hy => by rw [List.mem_singleton] at hy; subst hy; rfl) (by omega) (by simp; omega) ?_; intro v' w' hown hgrow hat)
        have hlo := own_ge HO5.out
        have hE4 : Below w.heap.size w w' := below_ng HX5.out hgrow (fun k hk => by have := hlo k hk; omega)
        have hb4 := (HB5.out.ext hXa).grows hgrow (fun e => by have := hlo _ e; omega)
        refine ⟨⟨k + 1, by omega, by go_num, ?_, hE4, hb4⟩, by simp [intOf]; omega⟩
        show World.ownsRow _ _ _ _ _ _ _
        rw [Hn.out, List.length_append, List.map_append]
        exact hown
      · have Hn : Hid ((ns.take (k + 1)).flatMap F = acc) := by
          show _ = _
          rw [Hsn.out, List.eq_nil_of_length_eq_zero (by omega : bl.length = 0)]; simp
        clear hq3
        go_wp2
        exact ⟨⟨k + 1, by omega, by go_num, by rw [Hn.out]; exact HO5, HX5, HB5⟩, by simp [intOf]; omega⟩
    · obtain rfl : k = ns.length := by omega
      rw [List.take_length] at HO
      obtain ⟨B1, c1, hlv⟩ := OwnB.form HO.out
      subst hlv
      go_wp2
      exact bodyPost_ret (v := .slice B1 (ns.flatMap F).length c1) (by simp [results, Try.results17, go_sem]) rfl (Ret.mk hE (OwnB.bytes HO.out))
end Go.Proofs.Ytfbamdkalamliaa
