/-
  Go's operations on bits, at numbers that are not negative and small.
-/
import Derived.Test.YtjhedhpippppeaaV3
import Derived.Test.YtjhedhpippppeaaCore
namespace Go.Proofs.Ytjhedhpippppeaa.Gw
open Go Go.RowKit Go.Proofs.YtjhedhpippppeaaW.PrintWords Go.Proofs.YtjhedhpippppeaaW.PrintMore

theorem wrap_id {x : Int} (h0 : -9223372036854775808 ≤ x) (h1 : x < 9223372036854775808) : wrap64 x = x := by unfold wrap64; omega
theorem wrap_ik {x : Int} (h0 : -9223372036854775808 ≤ x) (h1 : x < 9223372036854775808) : IntKind.i64.wrap x = x := by rw [IntKind.wrap_i64]; omega
theorem ofInt_toNat {a : Nat} (h : a < 2 ^ 62) : (BitVec.ofInt 64 (a : Int)).toNat = a := by
  rw [BitVec.ofInt_natCast, BitVec.toNat_ofNat]; exact Nat.mod_eq_of_lt (by omega)
theorem and_nat {a b : Nat} (ha : a < 2 ^ 62) (hb : b < 2 ^ 62) : Go.bits .and .i64 (a : Int) (b : Int) = ((a &&& b : Nat) : Int) := by
  show IntKind.i64.wrap ((BitVec.ofInt 64 (a : Int) &&& BitVec.ofInt 64 (b : Int)).toNat : Int) = _
  rw [BitVec.toNat_and, ofInt_toNat ha, ofInt_toNat hb]
  have := Nat.and_lt_two_pow a hb
  exact wrap_ik (by omega) (by omega)
theorem or_nat {a b : Nat} (ha : a < 2 ^ 62) (hb : b < 2 ^ 62) : Go.bits .or .i64 (a : Int) (b : Int) = ((a ||| b : Nat) : Int) := by
  show IntKind.i64.wrap ((BitVec.ofInt 64 (a : Int) ||| BitVec.ofInt 64 (b : Int)).toNat : Int) = _
  rw [BitVec.toNat_or, ofInt_toNat ha, ofInt_toNat hb]
  have := Nat.or_lt_two_pow ha hb
  exact wrap_ik (by omega) (by omega)
theorem xor_nat {a b : Nat} (ha : a < 2 ^ 62) (hb : b < 2 ^ 62) : Go.bits .xor .i64 (a : Int) (b : Int) = ((a ^^^ b : Nat) : Int) := by
  show IntKind.i64.wrap ((BitVec.ofInt 64 (a : Int) ^^^ BitVec.ofInt 64 (b : Int)).toNat : Int) = _
  rw [BitVec.toNat_xor, ofInt_toNat ha, ofInt_toNat hb]
  have := Nat.xor_lt_two_pow ha hb
  exact wrap_ik (by omega) (by omega)
theorem andn_nat {a b : Nat} (ha : a < 2 ^ 62) (hb : b < 2 ^ 62) : Go.bits .andNot .i64 (a : Int) (b : Int) = ((andn a b : Nat) : Int) := by
  show IntKind.i64.wrap ((BitVec.ofInt 64 (a : Int) &&& ~~~ BitVec.ofInt 64 (b : Int)).toNat : Int) = _
  have h : (BitVec.ofInt 64 (a : Int) &&& ~~~ BitVec.ofInt 64 (b : Int)).toNat = andn a b := by
    apply Nat.eq_of_testBit_eq; intro i
    rw [andn_bit, ← ofInt_toNat ha, ← ofInt_toNat hb, BitVec.testBit_toNat, BitVec.testBit_toNat, BitVec.testBit_toNat, BitVec.getLsbD_and, BitVec.getLsbD_not]
    rw [ofInt_toNat ha, ofInt_toNat hb]
    by_cases hi : i < 64
    · simp [hi]
    · have := BitVec.getLsbD_of_ge (BitVec.ofInt 64 (a : Int)) i (by omega)
      rw [this]; simp
  rw [h]
  have := andn_lt (b := b) ha
  exact wrap_ik (by omega) (by omega)
theorem shl_nat {v : Nat} (hv : v ≤ 61) : shl .i64 1 (v : Int) = ((2 ^ v : Nat) : Int) := by
  unfold shl
  have h : (min (v : Int).toNat IntKind.i64.bits) = v := by simp only [IntKind.bits, Int.toNat_natCast]; omega
  rw [h, Int.one_mul]
  have h2 : 2 ^ v ≤ 2 ^ 61 := Nat.pow_le_pow_right (by omega) hv
  have h3 : ((2 : Int) ^ v) = ((2 ^ v : Nat) : Int) := by simp
  rw [h3]
  generalize 2 ^ v = p at h2
  exact wrap_ik (by omega) (by omega)
theorem shr_nat (s : Nat) {v : Nat} (hv : v ≤ 64) : shr .i64 (s : Int) (v : Int) = ((s >>> v : Nat) : Int) := by
  unfold shr
  have h : (min (v : Int).toNat IntKind.i64.bits) = v := by simp only [IntKind.bits, Int.toNat_natCast]; omega
  rw [h, Nat.shiftRight_eq_div_pow]; simp
theorem shift_lt {s v : Nat} (h : s < 2 ^ 62) : s >>> v < 2 ^ 62 := by
  rw [Nat.shiftRight_eq_div_pow]; exact Nat.lt_of_le_of_lt (Nat.div_le_self _ _) h
theorem bit_nat {s v : Nat} (hs : s < 2 ^ 62) (hv : v ≤ 64) : Go.bits .and .i64 (shr .i64 (s : Int) (v : Int)) 1 = (((s.testBit v).toNat : Nat) : Int) := by
  rw [shr_nat s hv, show (1 : Int) = ((1 : Nat) : Int) from rfl, and_nat (shift_lt hs) (by omega)]
  congr 1
  rw [Nat.testBit_eq_decide_div_mod_eq, Nat.shiftRight_eq_div_pow, Nat.and_one_is_mod]
  have := Nat.mod_two_eq_zero_or_one (s / 2 ^ v)
  rcases this with h | h <;> simp [h]
theorem bit_one {s v : Nat} (hs : s < 2 ^ 62) (hv : v ≤ 64) : Go.bits .and .i64 (shr .i64 (s : Int) (v : Int)) 1 = 1 ↔ s.testBit v = true := by
  rw [bit_nat hs hv]; cases s.testBit v <;> simp
theorem bit_zero {s v : Nat} (hs : s < 2 ^ 62) (hv : v ≤ 64) : Go.bits .and .i64 (shr .i64 (s : Int) (v : Int)) 1 = 0 ↔ s.testBit v = false := by
  rw [bit_nat hs hv]; cases s.testBit v <;> simp
/-- lists of numbers as Go's -/
def toI (l : List Nat) : List Int := l.map fun x : Nat => (x : Int)
theorem toI_length (l : List Nat) : (toI l).length = l.length := by simp [toI]
theorem rd_toI (l : List Nat) (i : Nat) : rd (toI l) (i : Int) = ((l.getD i 0 : Nat) : Int) := by
  simp [rd, toI, List.getD_eq_getElem?_getD]; cases l[i]? <;> simp
theorem set_toI (l : List Nat) (i x : Nat) : (toI l).set i (x : Int) = toI (l.set i x) := by simp [toI, List.map_set]
theorem repl_toI (n : Nat) : List.replicate n (0 : Int) = toI (List.replicate n 0) := by simp [toI]
theorem toI_snoc (l : List Nat) (x : Nat) : toI l ++ [(x : Int)] = toI (l ++ [x]) := by simp [toI]
theorem small {n x : Nat} (hn : n ≤ 61) (h : x < 2 ^ n) : x < 2 ^ 62 := Nat.lt_of_lt_of_le h (Nat.pow_le_pow_right (by omega) (by omega))
end Go.Proofs.Ytjhedhpippppeaa.Gw
