/- Bits of numbers that are not below nothing, as those of naturals. -/
import Derived.Test.YtfbamdkalamliaaY
import Derived.Laws.Bits64
import Derived.IntWalk
namespace Go.Proofs.Ytfbamdkalamliaa
open Go.RowKit

theorem ofInt64 (a : Nat) (h : a < 9223372036854775808) : (BitVec.ofInt IntKind.i64.bits (a : Int)).toNat = a := by
  show (BitVec.ofInt 64 (a : Int)).toNat = a
  rw [BitVec.toNat_ofInt]; omega
theorem ofInt8 (a : Nat) (h : a < 256) : (BitVec.ofInt IntKind.u8.bits (a : Int)).toNat = a := by
  show (BitVec.ofInt 8 (a : Int)).toNat = a
  rw [BitVec.toNat_ofInt]; omega
theorem bits_and_i64 (a b : Nat) (ha : a < 9223372036854775808) (hb : b < 9223372036854775808) : bits .and .i64 (a : Int) (b : Int) = ((a &&& b : Nat) : Int) := by
  unfold bits
  simp only []
  rw [BitVec.toNat_and, ofInt64 a ha, ofInt64 b hb]
  have : a &&& b ≤ a := Nat.and_le_left
  exact IntWalk.i64_in _ ⟨by omega, by omega⟩
theorem bits_or_i64 (a b : Nat) (ha : a < 4611686018427387904) (hb : b < 4611686018427387904) : bits .or .i64 (a : Int) (b : Int) = ((a ||| b : Nat) : Int) := by
  unfold bits
  simp only []
  rw [BitVec.toNat_or, ofInt64 a (by omega), ofInt64 b (by omega)]
  have : a ||| b < 2 ^ 62 := Nat.or_lt_two_pow (by omega) (by omega)
  exact IntWalk.i64_in _ ⟨by omega, by omega⟩
theorem bits_and_u8 (a b : Nat) (ha : a < 256) (hb : b < 256) : bits .and .u8 (a : Int) (b : Int) = ((a &&& b : Nat) : Int) := by
  unfold bits
  simp only []
  rw [BitVec.toNat_and, ofInt8 a ha, ofInt8 b hb]
  have : a &&& b ≤ a := Nat.and_le_left
  exact IntWalk.u8_in _ (by omega)
theorem and_127 (q : Nat) : q &&& 127 = q % 128 := Nat.and_two_pow_sub_one_eq_mod q 7
set_option maxRecDepth 100000 in
theorem and_128 (c : Nat) (h : c < 256) : c &&& 128 = if 128 ≤ c then 128 else 0 := by
  have : ∀ c : Fin 256, c.val &&& 128 = if 128 ≤ c.val then 128 else 0 := by decide
  exact this ⟨c, h⟩
set_option maxRecDepth 100000 in
theorem or_128 (m : Nat) (h : m < 128) : m ||| 128 = m + 128 := by
  have : ∀ m : Fin 128, m.val ||| 128 = m.val + 128 := by decide
  exact this ⟨m, h⟩
theorem or_add (a b i : Nat) (h : a < 2 ^ i) : a ||| b * 2 ^ i = a + b * 2 ^ i := by
  have := Nat.two_pow_add_eq_or_of_lt h b
  rw [Nat.mul_comm b, Nat.or_comm, ← this, Nat.add_comm]
theorem bits_xor_u8 (x y : UInt8) : bits .xor .u8 (x.toNat : Int) (y.toNat : Int) = ((x ^^^ y).toNat : Int) := by
  unfold bits
  simp only []
  rw [BitVec.toNat_xor, ofInt8 _ x.toNat_lt, ofInt8 _ y.toNat_lt, ← UInt8.toNat_xor x y]
  have := (x ^^^ y).toNat_lt
  exact IntWalk.u8_in _ (by omega)
/-- A row of one byte. -/
theorem one_byte (x : UInt8) (z : Int) (h : z = (x.toNat : Int)) (t : TypeId) (w : World) : VBytes [x] (.slice (some ⟨w.heap.size, 0, none⟩) 1 1) (w.alloc (.cells #[.int .u8 z] t)) := by
  subst h
  exact VBytes.of (bs := [x]) (Nat.le_refl _) (by decide) fun _ => ⟨_, 0, rfl, by simp, fun j hj => by
    have hj0 : j = 0 := by simpa using hj
    subst hj0
    exact (Box.new w t #[.int .u8 (x.toNat : Int)]).at_ 0 rfl⟩
theorem hi_byte (q : Nat) (h : q < 4611686018427387904) : bits .or .i64 (bits .and .i64 (q : Int) 127) 128 % 256 = ((UInt8.ofNat (128 + q % 128)).toNat : Int) := by
  have h1 := bits_and_i64 q 127 (by omega) (by omega)
  rw [and_127] at h1
  rw [show (127 : Int) = ((127 : Nat) : Int) from rfl, h1]
  have h2 := bits_or_i64 (q % 128) 128 (by omega) (by omega)
  rw [or_128 _ (by omega)] at h2
  rw [show (128 : Int) = ((128 : Nat) : Int) from rfl, h2, UInt8.toNat_ofNat']
  omega
end Go.Proofs.Ytfbamdkalamliaa
