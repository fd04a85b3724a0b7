/- Puts, Put, Size; and the document's own. -/
import Derived.Test.YtggjkhldknppkaaKDA
namespace Go.Proofs.Ytggjkhldknppkaa.Dg
open Go.RowKit DigM

theorem puts_no {ns : List Int} {k : Nat} (h : k < ns.length) (hk : mayB ns[k] = false) : puts ns = ([], 2) := by
  unfold puts
  rw [if_neg]
  intro hall
  rw [List.all_eq_true] at hall
  have := hall _ (List.getElem_mem h)
  rw [hk] at this; cases this
theorem putsF_take (ns : List Int) (k : Nat) (h : k < ns.length) : putsF (ns.take (k + 1)) = putsF (ns.take k) ++ putN ns[k].toNat := by
  rw [List.take_succ_eq_append_getElem h, putsF_append]
  show _ ++ (putN _ ++ []) = _
  rw [List.append_nil]
theorem all_take {p : Int → Bool} (ns : List Int) (k : Nat) (h : k < ns.length) : (ns.take (k + 1)).all p = ((ns.take k).all p && p ns[k]) := by
  rw [List.take_succ_eq_append_getElem h, List.all_append]; simp
theorem tup_two {F G : VP} {u v : Value} {w w' : World} (h : Ext w w') (h1 : F u w') (h2 : G v w') : Ret w (VTup [F, G]) (.returned (.tuple #[u, v])) w' := Ret.mk h (VTup.two h1 h2)
set_option maxRecDepth 100000 in
set_option maxHeartbeats 1000000 in
theorem puts_any (ns : List Int) (v : Value) (w : World) (hN : VInts ns v w) (hlen : ns.length ≤ 100000) : Calls Try.prog 54 #[v] w (Ret w (VTup [VBytes (puts ns).1, VEq (.int .i64 (puts ns).2)])) := by
  obtain ⟨A, c, rfl, hc1, hc2, hx⟩ := VInts.form hN
  clear hN
  unfold maxLen at hc2
  go_enter Try.func54, Try.ntmps54
  go_wp2
  go_loopw [4, 9] (fun l i wr => ∃ k : Nat, k ≤ ns.length ∧ i = .int .i64 k ∧ Hid (OwnB wr w.heap.size 5 l (putsF (ns.take k))) ∧ Hid ((ns.take k).all mayB = true) ∧ Below w.heap.size w wr)
    (fun _ i _ => ns.length - (intOf i).toNat)
  case atStart => exact ⟨0, by omega, rfl, OwnB.nil _ _ _, rfl, Below.refl _ _⟩
  case round =>
    obtain ⟨k, hk, rfl, Ho, Ha, hE⟩ := hrel
    by_cases hlt : k < ns.length
    · obtain ⟨b, off, rfl, hb, hcell⟩ := hx (by omega)
      have hx3 := (hE.cell (p := ⟨b, off + k, none⟩) hb).trans (hcell k hlt)
      have Hno := hide (@puts_no ns k hlt)
      have Hpt := hide (putsF_take ns k hlt)
      have Hat := hide (all_take (p := mayB) ns k hlt)
      have hfl := putsF_len _ Ha.out
      rw [List.length_take] at hfl
      clear hcell hx
      generalize ns[k] = x at *
      go_wp2_with fail
      refine (may_any x wr).mono ?_
      rintro e w2 ⟨u, rfl, hE2, rfl⟩
      have hE3 := hE.trans (hE2.mono hE.size)
      cases hq : mayB x
      · have h1 := hide (Hno.out hq)
        clear hq
        go_wp2
        go_ret2
        rw [h1.out]
        exact tup_two hE3 (nil_bytes _) rfl
      · have hm := mayB_iff.1 hq
        rw [hq, Bool.and_true] at Hat
        clear hq
        obtain ⟨m, rfl⟩ : ∃ m : Nat, x = (m : Int) := ⟨x.toNat, by omega⟩
        rw [Int.toNat_natCast] at Hpt
        go_wp2_with fail
        refine (write_any w.heap.size _ m (by unfold most; omega) _ w2 (OwnB.st Ho.out hE2) (Nat.le_trans hE.size hE2.size) (by omega)).mono ?_
        rintro e w3 ⟨v', rfl, hO, hg⟩
        have HO := hide hO
        clear hO
        go_wp2
        refine ⟨⟨k + 1, by omega, by go_num, ?_, ?_, hE3.grown hg hE3.size (fun j hj => OwnB.ge Ho.out j hj)⟩, by simp [intOf]; omega⟩
        · show OwnB _ _ _ _ _; rw [Hpt.out]; exact HO.out
        · show _ = _; rw [Hat.out]; exact Ha.out
    · obtain rfl : k = ns.length := by omega
      have Hp : Hid (puts ns = (putsF ns, 0)) := by
        have := Ha.out
        rw [List.take_length] at this
        show _ = _
        unfold puts; rw [if_pos this]
      go_wp2
      go_ret2
      rw [Hp.out]
      have := Ho.out
      rw [List.take_length] at this
      exact tup_two hE this.bytes rfl
end Go.Proofs.Ytggjkhldknppkaa.Dg
