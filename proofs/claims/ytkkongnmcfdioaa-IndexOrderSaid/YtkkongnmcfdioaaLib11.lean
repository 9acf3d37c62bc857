/- Small laws for walks, the eleventh part: numbers in bytes. -/
import Derived.Test.YtkkongnmcfdioaaLib10
namespace Go.Gx
open Go.RowKit
theorem shr_nat {m j b : Nat} {s : Int} (hs : s = (j : Int)) (hj : j ≤ b) : (m : Int).fdiv (2 ^ (min s.toNat b)) = ((m / 2 ^ j : Nat) : Int) := by
  subst hs
  rw [Int.toNat_natCast, Nat.min_eq_left hj, Int.fdiv_eq_ediv_of_nonneg _ (Int.pow_nonneg (by decide))]
  simp [Int.natCast_ediv]
theorem conv_u8 {m : Nat} : IntKind.u8.wrap (m : Int) = ((UInt8.ofNat m).toNat : Int) := by
  simp only [IntKind.wrap, IntKind.bits, IntKind.signed, UInt8.toNat_ofNat']
  simp
theorem rem_256 {m : Nat} : (m : Int).tmod 256 = ((m % 256 : Nat) : Int) := by
  rw [Int.tmod_eq_emod_of_nonneg (by omega)]; simp
/-- eight bytes, the greatest first -/
def be8 (m : Nat) : List UInt8 := (List.range 8).map fun i => UInt8.ofNat (m / 2 ^ (56 - 8 * i))
/-- what bytes say, the greatest first -/
def ofBe (l : List UInt8) : Nat := l.foldl (fun x c => x * 256 + c.toNat) 0
theorem ofBe_snoc (l : List UInt8) (c : UInt8) : ofBe (l ++ [c]) = ofBe l * 256 + c.toNat := by simp [ofBe]
theorem ofBe_lt' : ∀ (l : List UInt8) (x : Nat), l.foldl (fun x c => x * 256 + c.toNat) x < (x + 1) * 256 ^ l.length
  | [], x => by simp
  | c :: l, x => by
    have h := ofBe_lt' l (x * 256 + c.toNat)
    have hc := c.toNat_lt
    rw [List.foldl_cons, List.length_cons, Nat.pow_succ]
    have h2 : (x * 256 + c.toNat + 1) * 256 ^ l.length ≤ ((x + 1) * 256) * 256 ^ l.length := Nat.mul_le_mul_right _ (by omega)
    have h3 : ((x + 1) * 256) * 256 ^ l.length = (x + 1) * (256 ^ l.length * 256) := by rw [Nat.mul_assoc, Nat.mul_comm 256]
    omega
theorem ofBe_lt (l : List UInt8) : ofBe l < 256 ^ l.length := by have := ofBe_lt' l 0; simpa [ofBe] using this
theorem shl8 {x : Int} (h : 0 ≤ x ∧ x < 72057594037927936) : IntKind.u64.wrap (x * 2 ^ (min (8 : Int).toNat (IntKind.bits .u64))) = x * 256 := by
  have : (min (8 : Int).toNat (IntKind.bits .u64)) = 8 := by decide
  rw [this]
  exact wrap_u64 (by omega)
theorem or_low {x c : Nat} (hx : x < 72057594037927936) (hc : c < 256) : bits .or .u64 ((x : Int) * 256) (c : Int) = (x : Int) * 256 + c := by
  have e1 : BitVec.ofInt 64 ((x : Int) * 256) = BitVec.ofNat 64 (x * 256) := by
    rw [show ((x : Int) * 256) = ((x * 256 : Nat) : Int) from by simp]; exact BitVec.ofInt_natCast ..
  have e2 : BitVec.ofInt 64 (c : Int) = BitVec.ofNat 64 c := BitVec.ofInt_natCast ..
  have h : (BitVec.ofNat 64 (x * 256) ||| BitVec.ofNat 64 c).toNat = x * 256 + c := by
    rw [BitVec.toNat_or, BitVec.toNat_ofNat, BitVec.toNat_ofNat, Nat.mod_eq_of_lt (by omega), Nat.mod_eq_of_lt (by omega), show x * 256 = 2 ^ 8 * x by omega, ← Nat.two_pow_add_eq_or_of_lt (by omega)]
  show IntKind.u64.wrap ((BitVec.ofInt 64 ((x : Int) * 256) ||| BitVec.ofInt 64 (c : Int)).toNat : Int) = _
  rw [e1, e2, h]
  exact (wrap_u64 (by omega)).trans (by simp)
theorem xor_top {m : Nat} (h : m < 2 ^ 64) : m ^^^ 9223372036854775808 = if m < 9223372036854775808 then m + 9223372036854775808 else m - 9223372036854775808 := by
  have h2 : (9223372036854775808 : Nat) = 2 ^ 63 := by decide
  split
  · rename_i hm
    rw [Nat.xor_comm, h2, ← Nat.xor_comm]
    have : m ^^^ 2 ^ 63 = 2 ^ 63 + m := by
      apply Nat.eq_of_testBit_eq
      intro i
      rw [Nat.testBit_xor, Nat.testBit_two_pow]
      by_cases hi : i = 63
      · subst hi
        have : m.testBit 63 = false := Nat.testBit_lt_two_pow (by omega)
        rw [this, Nat.testBit_two_pow_add_eq, this]; simp
      · have hne : ¬ 63 = i := fun h => hi h.symm
        by_cases hl : i < 63
        · rw [Nat.testBit_two_pow_add_gt hl]; simp [hne]
        · have a1 : m.testBit i = false := Nat.testBit_lt_two_pow (Nat.lt_of_lt_of_le (by omega : m < 2 ^ 63) (Nat.pow_le_pow_right (by decide) (by omega)))
          have a2 : (2 ^ 63 + m).testBit i = false := Nat.testBit_lt_two_pow (Nat.lt_of_lt_of_le (by omega : 2 ^ 63 + m < 2 ^ 64) (Nat.pow_le_pow_right (by decide) (by omega)))
          rw [a1, a2]; simp [hne]
    omega
  · rename_i hm
    obtain ⟨q, rfl⟩ : ∃ q, m = 2 ^ 63 + q := ⟨m - 2 ^ 63, by omega⟩
    have hq : q < 2 ^ 63 := by omega
    rw [h2]
    apply Nat.eq_of_testBit_eq
    intro i
    rw [Nat.testBit_xor, Nat.testBit_two_pow, Nat.add_sub_cancel_left]
    by_cases hi : i = 63
    · subst hi
      have : q.testBit 63 = false := Nat.testBit_lt_two_pow hq
      rw [Nat.testBit_two_pow_add_eq, this]; simp
    · have hne : ¬ 63 = i := fun h => hi h.symm
      by_cases hl : i < 63
      · rw [Nat.testBit_two_pow_add_gt hl]; simp [hne]
      · have a1 : q.testBit i = false := Nat.testBit_lt_two_pow (Nat.lt_of_lt_of_le hq (Nat.pow_le_pow_right (by decide) (by omega)))
        have a2 : (2 ^ 63 + q).testBit i = false := Nat.testBit_lt_two_pow (Nat.lt_of_lt_of_le (by omega : 2 ^ 63 + q < 2 ^ 64) (Nat.pow_le_pow_right (by decide) (by omega)))
        rw [a1, a2]; simp [hne]
theorem xor_high {m : Nat} (h : m < 18446744073709551616) : bits .xor .u64 (m : Int) 9223372036854775808 = if m < 9223372036854775808 then (m : Int) + 9223372036854775808 else (m : Int) - 9223372036854775808 := by
  have e1 : BitVec.ofInt 64 (m : Int) = BitVec.ofNat 64 m := BitVec.ofInt_natCast ..
  have e2 : BitVec.ofInt 64 9223372036854775808 = BitVec.ofNat 64 9223372036854775808 := by rfl
  show IntKind.u64.wrap ((BitVec.ofInt 64 (m : Int) ^^^ BitVec.ofInt 64 9223372036854775808).toNat : Int) = _
  rw [e1, e2, BitVec.toNat_xor, BitVec.toNat_ofNat, BitVec.toNat_ofNat, Nat.mod_eq_of_lt (by omega), Nat.mod_eq_of_lt (by omega), xor_top (by omega)]
  split
  · exact (wrap_u64 (by omega)).trans (by omega)
  · exact (wrap_u64 (by omega)).trans (by omega)
theorem u64_of_i64 {n : Int} (h : -9223372036854775808 ≤ n ∧ n ≤ 9223372036854775807) : IntKind.u64.wrap n = ((if n < 0 then (n + 18446744073709551616).toNat else n.toNat : Nat) : Int) := by
  have e : IntKind.u64.wrap n = n % 18446744073709551616 := by simp [IntKind.wrap, IntKind.bits, IntKind.signed]
  rw [e]
  split <;> omega
/-- a number, from 0 on -/
def upN (n : Int) : Nat := (n + 9223372036854775808).toNat
theorem xor_up {n : Int} (h : -9223372036854775808 ≤ n ∧ n ≤ 9223372036854775807) : bits .xor .u64 ((if n < 0 then (n + 18446744073709551616).toNat else n.toNat : Nat) : Int) 9223372036854775808 = (upN n : Int) := by
  rw [xor_high (by split <;> omega)]
  unfold upN
  (repeat' split) <;> omega
theorem i64_down {m : Nat} (h : m < 18446744073709551616) : IntKind.i64.wrap (if m < 9223372036854775808 then (m : Int) + 9223372036854775808 else (m : Int) - 9223372036854775808) = (m : Int) - 9223372036854775808 := by
  rw [IntKind.wrap_i64]
  split <;> omega
theorem xor128 (c : UInt8) : bits .xor .u8 (c.toNat : Int) 128 = ((c ^^^ 128).toNat : Int) := by
  have e1 : BitVec.ofInt 8 (c.toNat : Int) = c.toBitVec := by
    rw [BitVec.ofInt_natCast]; exact BitVec.ofNat_toNat 8 c.toBitVec
  have e2 : BitVec.ofInt 8 128 = 128#8 := by rfl
  show IntKind.u8.wrap ((BitVec.ofInt 8 (c.toNat : Int) ^^^ BitVec.ofInt 8 128).toNat : Int) = _
  rw [e1, e2]
  have h : (c.toBitVec ^^^ 128#8).toNat = (c ^^^ 128).toNat := rfl
  rw [h]
  have := (c ^^^ 128).toNat_lt
  exact wrap_u8 (by omega)
theorem be8_take {m i : Nat} (hi : i < 8) : (be8 m).take (i + 1) = (be8 m).take i ++ [UInt8.ofNat (m / 2 ^ (56 - 8 * i))] := by
  unfold be8
  rw [List.take_succ_eq_append_getElem (by simpa using hi)]
  simp
theorem be8_len (m : Nat) : (be8 m).length = 8 := by simp [be8]
end Go.Gx
