/- Small laws, the fifteenth part: numbers of two bytes, and bytes of numbers. -/
import Derived.Test.YtkkongnmcfdioaaLib14
namespace Go.Gx
open Go.RowKit
def u16v (c : UInt16) : Value := .int .u16 (c.toNat : Int)
theorem conv_u16 {m : Nat} : IntKind.u16.wrap (m : Int) = ((UInt16.ofNat m).toNat : Int) := by
  simp only [IntKind.wrap, IntKind.bits, IntKind.signed, UInt16.toNat_ofNat']
  simp
theorem quo_256 {m : Nat} : IntKind.u16.wrap ((m : Int).tdiv 256) = IntKind.u16.wrap ((m / 256 : Nat) : Int) := by
  rw [Int.tdiv_eq_ediv_of_nonneg (by omega)]; simp
theorem quo16 {c : UInt16} : IntKind.u16.wrap ((c.toNat : Int).tdiv 256) = ((c.toNat / 256 : Nat) : Int) := by
  rw [quo_256]; have := c.toNat_lt; exact wrap_u16 (by omega)
theorem shr16 {m : Nat} : (m : Int).fdiv (2 ^ (min (8 : Int).toNat (IntKind.bits .u16))) = ((m / 256 : Nat) : Int) := by
  have := shr_nat (m := m) (j := 8) (b := IntKind.bits .u16) (s := 8) rfl (by decide)
  simpa using this
theorem shl16 {c : UInt8} : IntKind.u16.wrap ((c.toNat : Int) * 2 ^ (min (8 : Int).toNat (IntKind.bits .u16))) = ((c.toNat * 256 : Nat) : Int) := by
  have : (min (8 : Int).toNat (IntKind.bits .u16)) = 8 := by decide
  rw [this]
  have := c.toNat_lt
  rw [show (c.toNat : Int) * 2 ^ 8 = ((c.toNat * 256 : Nat) : Int) from by simp]
  exact wrap_u16 (by omega)
theorem or16 {x c : UInt8} : bits .or .u16 ((x.toNat * 256 : Nat) : Int) (c.toNat : Int) = ((x.toNat * 256 + c.toNat : Nat) : Int) := by
  have hx := x.toNat_lt; have hc := c.toNat_lt
  have e1 : BitVec.ofInt 16 ((x.toNat * 256 : Nat) : Int) = BitVec.ofNat 16 (x.toNat * 256) := BitVec.ofInt_natCast ..
  have e2 : BitVec.ofInt 16 (c.toNat : Int) = BitVec.ofNat 16 c.toNat := BitVec.ofInt_natCast ..
  have h : (BitVec.ofNat 16 (x.toNat * 256) ||| BitVec.ofNat 16 c.toNat).toNat = x.toNat * 256 + c.toNat := by
    rw [BitVec.toNat_or, BitVec.toNat_ofNat, BitVec.toNat_ofNat, Nat.mod_eq_of_lt (by omega), Nat.mod_eq_of_lt (by omega), show x.toNat * 256 = 2 ^ 8 * x.toNat by omega, ← Nat.two_pow_add_eq_or_of_lt (by omega)]
  show IntKind.u16.wrap ((BitVec.ofInt 16 ((x.toNat * 256 : Nat) : Int) ||| BitVec.ofInt 16 (c.toNat : Int)).toNat : Int) = _
  rw [e1, e2, h]
  exact wrap_u16 (by omega)
theorem of16 {x c : UInt8} : ((x.toNat * 256 + c.toNat : Nat) : Int) = ((UInt16.ofNat (x.toNat * 256 + c.toNat)).toNat : Int) := by
  have hx := x.toNat_lt; have hc := c.toNat_lt
  rw [UInt16.toNat_ofNat']; omega
theorem or16' {x c : UInt8} : bits .or .u16 ((x.toNat * 256 : Nat) : Int) (c.toNat : Int) = ((UInt16.ofNat (x.toNat * 256 + c.toNat)).toNat : Int) := or16.trans of16
theorem mul16 {c : UInt8} : IntKind.u16.wrap ((c.toNat : Int) * 256) = ((c.toNat * 256 : Nat) : Int) := by
  have := c.toNat_lt
  rw [show (c.toNat : Int) * 256 = ((c.toNat * 256 : Nat) : Int) from by simp]
  exact wrap_u16 (by omega)
theorem add16 {x c : UInt8} : IntKind.u16.wrap (((x.toNat * 256 : Nat) : Int) + (c.toNat : Int)) = ((UInt16.ofNat (x.toNat * 256 + c.toNat)).toNat : Int) := by
  have hx := x.toNat_lt; have hc := c.toNat_lt
  rw [← of16, show (((x.toNat * 256 : Nat) : Int) + (c.toNat : Int)) = ((x.toNat * 256 + c.toNat : Nat) : Int) from by simp]
  exact wrap_u16 (by omega)
theorem ofNat_mod {m : Nat} : UInt8.ofNat (m % 256) = UInt8.ofNat m := by
  apply UInt8.toNat_inj.1; simp [UInt8.toNat_ofNat']
theorem conv_u8m {m : Nat} : IntKind.u8.wrap ((m % 256 : Nat) : Int) = ((UInt8.ofNat m).toNat : Int) := by rw [conv_u8, ofNat_mod]
theorem Dec.u16 {H : Type} {enc : TypeId × Value → H} {P : Program} {w : World} {base : Nat} {spare : Nat → Bool} {held : Bool} {t : TypeId} (ht : P.underlying t = some (.int .u16)) : Dec enc P w base spare held t (fun c => [u16v c]) (fun _ => True) :=
  (Dec.int ht).map fun n hn => by
    simp only [Lit.wf, Bool.and_eq_true, decide_eq_true_eq] at hn
    have h1 : 0 ≤ n ∧ n ≤ 65535 := hn
    refine ⟨UInt16.ofNat n.toNat, ?_, trivial⟩
    have : (UInt16.ofNat n.toNat).toNat = n.toNat := by rw [UInt16.toNat_ofNat']; omega
    simp [u16v, this]; omega
theorem Dec.u64 {H : Type} {enc : TypeId × Value → H} {P : Program} {w : World} {base : Nat} {spare : Nat → Bool} {held : Bool} {t : TypeId} (ht : P.underlying t = some (.int .u64)) : Dec enc P w base spare held t (fun c : UInt64 => [.int .u64 (c.toNat : Int)]) (fun _ => True) :=
  (Dec.int ht).map fun n hn => by
    simp only [Lit.wf, Bool.and_eq_true, decide_eq_true_eq] at hn
    have h1 : 0 ≤ n ∧ n ≤ 18446744073709551615 := hn
    refine ⟨UInt64.ofNat n.toNat, ?_, trivial⟩
    have : (UInt64.ofNat n.toNat).toNat = n.toNat := by rw [UInt64.toNat_ofNat']; omega
    simp [this]; omega
theorem el_u16 {l : List UInt16} {e : Int} {i : Nat} (he : e = (i : Int)) (h : i < l.length) : (l.map u16v)[e.toNat * 1 + 0]? = some (Value.int .u16 ((l.getD i 0).toNat : Int)) := by
  subst he
  simp [h, u16v, List.getD_eq_getElem?_getD]
theorem one_u8 (l : List UInt8) : (l.map u8v).all Value.oneCell' = true := by simp [Value.oneCell', u8v]
theorem one_u16 (l : List UInt16) : (l.map u16v).all Value.oneCell' = true := by simp [Value.oneCell', u16v]
end Go.Gx
