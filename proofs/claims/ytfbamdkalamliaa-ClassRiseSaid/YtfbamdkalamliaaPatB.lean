/- The iterator over the beginnings of words. -/
import Derived.Test.YtfbamdkalamliaaRK
import Derived.Test.YtfbamdkalamliaaLD
import Derived.Test.YtfbamdkalamliaaPatA
namespace Go.Proofs.Ytfbamdkalamliaa
open Go.RowKit Go.Shelf LetM SetM
attribute [local go_sem] Oper.semAt_some
theorem grownBy_ext {w w' : World} (h : Ext w w') : w.grownBy w' none := ⟨h.os, h.tape, h.output, h.size, fun k hk _ => h.block k hk⟩
def begV (x : Bool × UInt8) : Array Value := #[.bool x.1, .int .u8 (x.2.toNat : Int)]
set_option maxRecDepth 100000 in
set_option maxHeartbeats 4000000 in
theorem beg1_in (n : Nat) (hn : 1 ≤ n) (l Bw Bf : Nat) (K : Nat → Prop) (hKf : K Bf) (fold : Bool) (ps : List (List UInt8)) (v : Value) (w₀ : World) (hP : PartsK K ps v w₀) (J Jx : List (Bool × UInt8) → World → Prop)
    (hY : ∀ pre x W, J pre W → pre.length < (begs fold ps).length → YieldAt Fence.wide (n - 1) Try.prog l (begV x) W fun e W' =>
      (e = .returned (.bool true) ∧ J (pre ++ [x]) W' ∧ KeepK K W W') ∨ (e = .returned (.bool false) ∧ Jx (pre ++ [x]) W'))
    (hJE : ∀ pre W W', J pre W → Ext W W' → J pre W') (hK : ∀ k, K k → k < w₀.heap.size)
    (W : World) (hW : KeepK K w₀ W) (hBw : W.cell? ⟨Bw, 0, none⟩ = some v) (hBf : w₀.cell? ⟨Bf, 0, none⟩ = some (.bool fold)) (h0 : J [] W) :
    CallsIn Fence.wide n Try.prog 64 #[.func (.yield l) #[] #[], .pointer (some ⟨Bw, 0, none⟩), .pointer (some ⟨Bf, 0, none⟩)] W fun e W' => (∃ v, e = .returned v) ∧
      ((∃ ys, ys = begs fold ps ∧ J ys W') ∨ (∃ pre, pre <+: begs fold ps ∧ Jx pre W')) := by
  obtain ⟨A, c, rfl, hc1, hc2, hx⟩ := hP
  unfold maxLen at hc2
  refine callsIn_of_wp Try.func64 rfl trivial ?_ rfl
  simp only [Try.ntmps64, List.size_toArray, List.length_cons, List.length_nil, Nat.reduceAdd, Nat.reduceSub, Array.replicate_succ, Array.replicate_zero, List.push_toArray, List.append_toArray, List.nil_append, List.cons_append]
  obtain ⟨bw, hbw⟩ : ∃ bw, ps.map (begsW fold) = bw := ⟨_, rfl⟩
  have hbl : bw.length = ps.length := by rw [← hbw]; simp
  have Hbg : Hid (begs fold ps = bw.flatten) := by show _ = _; unfold begs; rw [hbw]
  have Hbw := hide hbw
  clear hbw
  rw [Hbg.out] at hY
  gi_wp2
  gi_loopw [10] (fun i wr => ∃ k : Nat, k ≤ ps.length ∧ i = .int .i64 k ∧ J (bw.take k).flatten wr ∧ KeepK K W wr)
    (fun i _ => ps.length - (intOf i).toNat)
  case atStart => exact ⟨0, Nat.zero_le _, rfl, by simpa using h0, KeepK.rf _ _⟩
  case round =>
    obtain ⟨k, hk, rfl, hJs, hnx⟩ := hrel
    by_cases hlt : k < ps.length
    · obtain ⟨b, off, rfl, hb, hcell⟩ := hx (by omega)
      obtain ⟨A2, c2, hx1, hd1, hd2, hy2⟩ := hcell k hlt
      unfold maxLen at hd2
      have hx3 := (KeepK.cell (hW.t hnx) hb (off + k)).trans hx1
      clear hcell hx hx1
      have hkb : k < bw.length := by omega
      have hJ2 : J ((bw.take k).flatten ++ bw[k].take 0) wr := by simpa using hJs
      have hpre := fun j => flatF_prefix bw k j hkb
      have hfl := takeF_succ bw k hkb
      have hwk : bw[k] = begsW fold ps[k] := by simp only [← Hbw.out, List.getElem_map]
      clear hJs
      generalize hpk : ps[k] = bs at *
      generalize bw[k] = bq at *
      subst hwk
      have Hpre := hide hpre
      have Hfl := hide hfl
      clear hpk hpre hfl
      gi_wp2
      obtain ⟨wo, rfl⟩ : ∃ wo : World, wo = wr := ⟨_, rfl⟩
      gi_loopw [16] (fun i wr => ∃ j : Nat, j ≤ bs.length ∧ i = .int .i64 j ∧ J ((bw.take k).flatten ++ (begsW fold bs).take j) wr ∧ KeepK K W wr)
        (fun i _ => bs.length - (intOf i).toNat)
      case atStart => exact ⟨0, Nat.zero_le _, rfl, hJ2, hnx⟩
      case round =>
        obtain ⟨j, hj, rfl, hJs, hnx2⟩ := hrel
        by_cases hjt : j < bs.length
        · obtain ⟨b2, off2, rfl, hb2, hcell2⟩ := hy2 (by omega)
          have hc2 := (KeepK.cell (hW.t hnx2) hb2 (off2 + j)).trans (hcell2 j hjt)
          have hcf := (KeepK.cell (hW.t hnx2) hKf 0).trans hBf
          have hjb : j < (begsW fold bs).length := by rw [begsW_length]; exact hjt
          have hts := takeF_snoc (begsW fold bs) j hjb
          rw [begsW_get fold bs j hjb hjt] at hts
          have hlen : ((bw.take k).flatten ++ (begsW fold bs).take j).length < bw.flatten.length := by
            have h1 := (Hpre.out (j + 1)).length_le
            rw [hts] at h1
            simp only [List.length_append, List.length_singleton] at h1 ⊢
            omega
          have Hts := hide hts
          clear hts hcell2 hJ2 hx3 hjb
          have hYY := fun W2 hE => hY _ (j == 0, foldF fold bs[j]) W2 (hJE _ _ W2 hJs hE) hlen
          have HK := hide (fun W2 (hE : Ext wr W2) => KeepK.of_ext (K := K) hE (fun k hk => Nat.lt_of_lt_of_le (hK k hk) (hW.t hnx2).1))
          generalize bs[j] = y at *
          clear hJs hlen
          have ej : (j == 0) = ((j : Int) == 0) := by rw [Bool.eq_iff_iff]; simp
          rw [ej] at hYY Hts
          clear ej
          cases fold
          · have e1 : foldF false y = y := rfl
            rw [e1] at hYY Hts
            obtain ⟨fn, tmps, assign, body, hy, hR⟩ := hYY wr (Ext.rf wr)
            have hk2 := HK.out wr (Ext.rf wr)
            unfold begV at hy
            dsimp only at hy
            gi_wp2
            refine hR.mono ?_
            rintro e W3 (⟨rfl, hJ3, hk3⟩ | ⟨rfl, hJx3⟩)
            · gi_wp2
              go_roundw
              case rel => exact ⟨j + 1, by omega, by go_num, by rw [Hts.out, ← List.append_assoc]; exact hJ3, (hnx2.t hk2).t hk3⟩
              case measure => simp [intOf]; omega
            · gi_wp2
              refine bodyPost_ret (results_none rfl _ _ _) rfl ?_
              refine ⟨⟨_, rfl⟩, .inr ⟨_, ?_, hJx3⟩⟩
              rw [Hbg.out]
              have h1 := Hpre.out (j + 1)
              rwa [Hts.out, ← List.append_assoc] at h1
          · have e1 : foldF true y = foldC y := rfl
            rw [e1] at hYY Hts
            gi_wp2_with (refine ⟨trivial, ?_⟩; gi_at_call 60; refine (callsIn_wide.2 (fold_any _ _)).mono ?_; rintro e w2 ⟨u, rfl, hE2, rfl⟩; obtain ⟨fn, tmps, assign, body, hy, hR⟩ := hYY w2 hE2; have hk2 := HK.out w2 hE2; unfold begV at hy; dsimp only at hy; unfold byteV)
            refine hR.mono ?_
            rintro e W3 (⟨rfl, hJ3, hk3⟩ | ⟨rfl, hJx3⟩)
            · gi_wp2
              go_roundw
              case rel => exact ⟨j + 1, by omega, by go_num, by rw [Hts.out, ← List.append_assoc]; exact hJ3, (hnx2.t hk2).t hk3⟩
              case measure => simp [intOf]; omega
            · gi_wp2
              refine bodyPost_ret (results_none rfl _ _ _) rfl ?_
              refine ⟨⟨_, rfl⟩, .inr ⟨_, ?_, hJx3⟩⟩
              rw [Hbg.out]
              have h1 := Hpre.out (j + 1)
              rwa [Hts.out, ← List.append_assoc] at h1
        · obtain rfl : j = bs.length := by omega
          gi_wp2
          go_roundw
          case rel => exact ⟨k + 1, by omega, by go_num, by rw [Hfl.out]; rw [show (begsW fold bs).take bs.length = begsW fold bs from List.take_of_length_le (by rw [begsW_length]; exact Nat.le_refl _)] at hJs; exact hJs, hnx2⟩
          case measure => simp [intOf]; omega
    · obtain rfl : k = ps.length := by omega
      gi_wp2
      go_end0
      exact ⟨⟨_, rfl⟩, .inl ⟨_, Hbg.out.symm, by rw [List.take_of_length_le (by omega)] at hJs; exact hJs⟩⟩
theorem beg_stops (n : Nat) (hn : 1 ≤ n) (Bw Bf : Nat) (K : Nat → Prop) (hKf : K Bf) (fold : Bool) (ps : List (List UInt8)) (v : Value) (w : World) (hP : PartsK K ps v w) (hc : w.cell? ⟨Bw, 0, none⟩ = some v) (hf : w.cell? ⟨Bf, 0, none⟩ = some (.bool fold)) (hK : ∀ k, K k → k < w.heap.size) :
    SeqStopsK Fence.wide n Try.prog 64 #[.pointer (some ⟨Bw, 0, none⟩), .pointer (some ⟨Bf, 0, none⟩)] begV (KeepK K) (fun ys => ys = begs fold ps) (fun pre => pre <+: begs fold ps) (begs fold ps).length w := fun l J Jx W hW hJ _ hY h0 =>
  beg1_in n hn l Bw Bf K hKf fold ps v w hP J Jx hY (fun pre A B h hE => hJ pre A B none h (grownBy_ext hE) (fun r e => by cases e)) hK W (KeepK.of_ext hW hK) ((hW.cell (World.block_lt_of_cell? w _ hc)).trans hc) hf h0
theorem beginnings_any (fold : Bool) (A : Option Addr) (n c : Nat) (w : World) : Calls Try.prog 61 #[.bool fold, .slice A n c] w fun e w' => e = .returned (.func (.func 64) #[] #[.pointer (some ⟨w.heap.size + 1, 0, none⟩), .pointer (some ⟨w.heap.size, 0, none⟩)]) ∧ w' = (w.alloc (.cells #[.bool fold] 4)).alloc (.cells #[.slice A n c] 22) := by
  go_enter Try.func61, Try.ntmps61
  go_wp2
  go_ret
  exact ⟨rfl, rfl⟩
end Go.Proofs.Ytfbamdkalamliaa
