/- The iterator over a class's bytes. -/
import Derived.Test.YtfbamdkalamliaaClD
import Derived.RangeFuncNested
import Derived.RangeFuncBound
import Derived.RangeFuncCalls
import Derived.RangeFuncLeaves
import Derived.RangeFuncBox
import Derived.Shelf.RegionOpen
import Derived.OwnWalkIn
import Derived.TacticsInMore
import Derived.LoopNIn
import Derived.LoopIn
import Derived.Sort.CutIn
namespace Go.Proofs.Ytfbamdkalamliaa
open Go.RowKit Go.Shelf LetM SetM
attribute [local go_sem] Oper.semAt_some
section
variable {F : Fence} {n : Nat} {P : Program} {ops : Array Oper} {rest : List Oper} {o : Oper} {a : Act} {w : World} {Q : Exit → Act → World → Prop}
theorem wpListIn_value (hgd : o.guard = none) (hd : ∀ c, o.op ≠ .defer c) (hab : o.about P w a.eval = none) (v : Value) (hrun : (execOp a.eval o).run P w = .ok (.value v) w)
    (h : wpListIn F n P ops Q rest (a.put o.dst v) w) : wpListIn F n P ops Q (o :: rest) a w := by
  refine wpListIn_plain hgd fun K hK => ?_
  unfold Oper.wpIn
  refine ⟨fun f hf => (by rw [hab] at hf; cases hf), ?_⟩
  rw [Oper.semAt_plain F _ _ hd, hrun]
  simp only [Oper.uponIn_value]
  exact hK _ _ h
theorem wpListIn_load_at (hgd : o.guard = none) (ty : TypeId) (x : Operand) (ho : o.op = .load ty x)
    (g off : Nat) (hx : a.eval x = .pointer (some ⟨g, off, none⟩)) (cs : Array Value) {d : TypeDesc} (hc : ∀ j v, cs[j]? = some v → w.cell? ⟨g, off + j, none⟩ = some v)
    (hu : P.underlying ty = some d) (hd : (match d with | .struct _ | .array _ _ => true | _ => false) = true) (hi : (P.info? ty).map (·.size) = some cs.size)
    (h : wpListIn F n P ops Q rest (a.put o.dst (.agg cs)) w) : wpListIn F n P ops Q (o :: rest) a w :=
  wpListIn_value hgd (by rw [ho]; intro c hc'; cases hc') (by simp [Oper.about, ho]) _ (by
    unfold execOp
    simp only [ho, hx, Instr.loadAt, Instr.sureAddr, Sem.run_bind, Sem.run_pure, Result.andThen_ok, run_loadVar_at hc hu hd hi]) h
theorem wpListIn_index_arr (hgd : o.guard = none) (t : TypeId) (x y : Operand) (ho : o.op = .index t x y)
    {e : TypeId} {m : Nat} {cs : Array Value} {k : IntKind} {i : Nat} {v : Value} (hx : a.eval x = .agg cs) (hy : a.eval y = .int k (i : Int)) (hu : P.underlying t = some (.array m e)) (hi : i < m) (hv : cs[i]? = some v) (hs : (P.info? e).map (·.size) = some 1) (ha : ∀ w, (isAgg e).run P w = .ok false w)
    (h : wpListIn F n P ops Q rest (a.put o.dst v) w) : wpListIn F n P ops Q (o :: rest) a w :=
  wpListIn_value hgd (by rw [ho]; intro c hc'; cases hc') (by simp [Oper.about, ho]) _ (by
    unfold execOp
    simp only [ho, hx, hy, run_index_arr hu hi hv hs ha, Sem.run_bind, Sem.run_pure, Result.andThen_ok]) h
end
/-- The bytes of a class, rising. -/
def clsL (f : Nat → Int) (cl : Int) (n : Nat) : List UInt8 := ((List.range n).filter fun i => f i == cl).map UInt8.ofNat
theorem clsL_yes {f : Nat → Int} {cl : Int} {n : Nat} (h : f n = cl) : clsL f cl (n + 1) = clsL f cl n ++ [UInt8.ofNat n] := by
  unfold clsL; rw [List.range_succ, List.filter_append, List.map_append]; simp [h]
theorem clsL_no {f : Nat → Int} {cl : Int} {n : Nat} (h : f n ≠ cl) : clsL f cl (n + 1) = clsL f cl n := by
  unfold clsL; rw [List.range_succ, List.filter_append, List.map_append]; simp [h]
theorem clsL_prefix (f : Nat → Int) (cl : Int) (n : Nat) : ∀ m, n ≤ m → clsL f cl n <+: clsL f cl m
  | 0, h => by obtain rfl : n = 0 := by omega
               exact List.prefix_rfl
  | m + 1, h => by
    by_cases e : n = m + 1
    · subst e; exact List.prefix_rfl
    · refine (clsL_prefix f cl n m (by omega)).trans ?_
      by_cases h : f m = cl
      · rw [clsL_yes h]; exact List.prefix_append _ _
      · rw [clsL_no h]; exact List.prefix_rfl
theorem clsL_room {f : Nat → Int} {cl : Int} {n m : Nat} (h : f n = cl) (hn : n < m) : (clsL f cl n).length < (clsL f cl m).length := by
  have := (clsL_prefix f cl (n + 1) m hn).length_le
  rw [clsL_yes h, List.length_append] at this
  exact this
theorem clsL_len (f : Nat → Int) (cl : Int) (n : Nat) : (clsL f cl n).length ≤ n := by
  unfold clsL; rw [List.length_map]; exact Nat.le_trans (List.length_filter_le _ _) (by simp)
theorem byte_toNat {k : Nat} (h : k < 256) : (UInt8.ofNat k).toNat = k := by rw [UInt8.toNat_ofNat']; omega
set_option maxRecDepth 100000 in
set_option maxHeartbeats 2000000 in
theorem of1_in (F : Fence) (n : Nat) (hF : F.fn 35) (hro : F.round = none) (hn : 1 ≤ n) (l Bt Bc g : Nat) (f : Nat → Int) (m : Int) (cl : Int) (J Jx : List UInt8 → World → Prop)
    (hY : ∀ pre (p : UInt8) W, J pre W → pre.length < (clsL f cl 256).length → YieldAt F (n - 1) Try.prog l #[.int .u8 (p.toNat : Int)] W fun e W' =>
      (e = .returned (.bool true) ∧ J (pre ++ [p]) W' ∧ KeepK (· = Bc) W W') ∨ (e = .returned (.bool false) ∧ Jx (pre ++ [p]) W'))
    (W : World) (hBt : W.cell? ⟨Bt, 0, none⟩ = some (.pointer (some ⟨g, 0, none⟩))) (hg : Box W g 53 (cArr f m)) (hBc : W.cell? ⟨Bc, 0, none⟩ = some (.int .i64 cl)) (h0 : J [] W) :
    CallsIn F n Try.prog 35 #[.func (.yield l) #[] #[], .pointer (some ⟨Bt, 0, none⟩), .pointer (some ⟨Bc, 0, none⟩)] W fun e W' => (∃ v, e = .returned v) ∧
      ((∃ zs, zs = clsL f cl 256 ∧ J zs W') ∨ (∃ pre, pre <+: clsL f cl 256 ∧ Jx pre W')) := by
  refine callsIn_of_wp Try.func35 rfl hF ?_ hro
  simp only [Try.ntmps35, List.size_toArray, List.length_cons, List.length_nil, Nat.reduceAdd, Nat.reduceSub, Array.replicate_succ, Array.replicate_zero, List.push_toArray, List.append_toArray, List.nil_append, List.cons_append]
  gi_upto_region 1 with (refine wpListIn_load_at rfl 29 _ rfl g 0 rfl (iArr f) (fun j v h => by rw [Nat.zero_add, hg.cell j]; exact cArr_iArr _ _ h) Try.underlying29 rfl (by rw [iArr_size]; kernel_rfl) ?_)
  gi_wp2
  gi_loopw [10] (fun i wr => ∃ k : Nat, k ≤ 256 ∧ i = .int .i64 k ∧ J (clsL f cl k) wr ∧ KeepK (· = Bc) W wr)
    (fun i _ => 256 - (intOf i).toNat)
  case atStart => exact ⟨0, by omega, rfl, h0, KeepK.rf _ _⟩
  case round =>
    obtain ⟨k, hk, rfl, hJs, hnx⟩ := hrel
    by_cases hlt : k < 256
    · have hbc := (hnx.cell rfl 0).trans hBc
      have hlt' : (k : Int) < 256 := by omega
      have hcv : IntKind.u8.wrap (k : Int) = (k : Int) := IntWalk.u8_in _ (by omega)
      by_cases he : f k = cl
      · have hpre := clsL_prefix f cl (k + 1) 256 hlt
        have hyes := clsL_yes he
        have hR := hY _ (UInt8.ofNat k) wr hJs (clsL_room he hlt)
        rw [byte_toNat hlt] at hR
        obtain ⟨fn, tmps, assign, body, hyl, hR⟩ := hR
        have Hpre := hide hpre
        have Hyes := hide hyes
        clear hpre hyes
        gi_upto_region 3 with (refine wpListIn_index_arr rfl 29 _ _ rfl rfl rfl Try.underlying29 hlt (iArr_get f hlt) (by kernel_rfl) (fun _ => by kernel_rfl) ?_; rw [he])
        gi_wp2
        refine hR.mono ?_
        rintro e W3 (⟨rfl, hJ3, hk3⟩ | ⟨rfl, hJx3⟩)
        · gi_wp2
          go_roundw
          case rel => exact ⟨k + 1, by omega, by go_num, by rw [Hyes.out]; exact hJ3, hnx.t hk3⟩
          case measure => simp [intOf]; omega
        · gi_wp2
          refine bodyPost_ret (results_none rfl _ _ _) rfl ?_
          refine ⟨⟨_, rfl⟩, .inr ⟨_, ?_, hJx3⟩⟩
          have h1 := Hpre.out
          rwa [Hyes.out] at h1
      · have Hno := hide (clsL_no he)
        gi_upto_region 3 with (refine wpListIn_index_arr rfl 29 _ _ rfl rfl rfl Try.underlying29 hlt (iArr_get f hlt) (by kernel_rfl) (fun _ => by kernel_rfl) ?_)
        generalize f k = z at *
        gi_wp2
        refine ⟨fun _ hf => (by cases hf), ?_⟩
        gi_wp2
        go_roundw
        case rel => exact ⟨k + 1, by omega, by go_num, by rw [Hno.out]; exact hJs, hnx⟩
        case measure => simp [intOf]; omega
    · obtain rfl : k = 256 := by omega
      gi_wp2
      go_end0
      exact ⟨⟨_, rfl⟩, .inl ⟨_, rfl, hJs⟩⟩
/-- of: the iterator, as a value. -/
theorem clof_any (g : Nat) (cl : Int) (w : World) : Calls Try.prog 25 #[.pointer (some ⟨g, 0, none⟩), .int .i64 cl] w fun e w' => e = .returned (.func (.func 35) #[] #[.pointer (some ⟨w.heap.size, 0, none⟩), .pointer (some ⟨w.heap.size + 1, 0, none⟩)]) ∧ w' = (w.alloc (.cells #[.pointer (some ⟨g, 0, none⟩)] 67)).alloc (.cells #[.int .i64 cl] 3) := by
  go_enter Try.func25, Try.ntmps25
  go_wp2
  go_ret
  exact ⟨rfl, rfl⟩
theorem of_stops (F : Fence) (n : Nat) (hF : F.fn 35) (hro : F.round = none) (hn : 1 ≤ n) (Bt Bc g : Nat) (f : Nat → Int) (m cl : Int) (w₀ : World) (hBt : w₀.cell? ⟨Bt, 0, none⟩ = some (.pointer (some ⟨g, 0, none⟩))) (hg : Box w₀ g 53 (cArr f m)) (hBc : w₀.cell? ⟨Bc, 0, none⟩ = some (.int .i64 cl)) :
    SeqStopsK F n Try.prog 35 #[.pointer (some ⟨Bt, 0, none⟩), .pointer (some ⟨Bc, 0, none⟩)] (fun p : UInt8 => #[Value.int .u8 (p.toNat : Int)]) (KeepK (· = Bc)) (fun zs => zs = clsL f cl 256) (fun pre => pre <+: clsL f cl 256) (clsL f cl 256).length w₀ := fun l J Jx W hW _ _ hY h0 =>
  of1_in F n hF hro hn l Bt Bc g f m cl J Jx hY W ((hW.cell (World.block_lt_of_cell? w₀ _ hBt)).trans hBt) (hg.ext hW) ((hW.cell (p := ⟨Bc, 0, none⟩) (World.block_lt_of_cell? w₀ _ hBc)).trans hBc) h0
end Go.Proofs.Ytfbamdkalamliaa
