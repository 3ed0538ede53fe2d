/-
  Plain arithmetic of the layer muldiv: what the operations tell, over whole numbers.
-/
import Derived.WalkKit
namespace Go.Proofs.Ytbklmhpbaddbkaa
open Go.RowKit

/-- of 64 bits, without a sign -/
def uw (x : Int) : Int := IntKind.u64.wrap x
def hiV (a b : Int) : Int := a * b / 18446744073709551616
def sgnV (a b : Int) (c : Bool) : Int :=
  if c = true ∧ wrap64 b < 0 then uw ((if wrap64 a < 0 then uw (hiV a b - b) else hiV a b) - a)
  else (if wrap64 a < 0 then uw (hiV a b - b) else hiV a b)
def divV (a b : Int) : Int := if b = 0 then 18446744073709551615 else if wrap64 b = -1 then uw (-a) else uw (wrap64 ((wrap64 a).tdiv (wrap64 b)))
def remV (a b : Int) : Int := if b = 0 then a else if wrap64 b = -1 then 0 else uw ((wrap64 a).tmod (wrap64 b))
def divuV (a b : Int) : Int := if b = 0 then 18446744073709551615 else a / b
def remuV (a b : Int) : Int := if b = 0 then a else a % b
def wideV (fn a b : Int) : Int :=
  if fn = 0 then uw (a * b) else if fn = 1 then sgnV a b true else if fn = 2 then sgnV a b false else if fn = 3 then hiV a b
  else if fn = 4 then divV a b else if fn = 5 then divuV a b else if fn = 6 then remV a b else remuV a b
def isWide (fn : Int) : Bool := decide (0 ≤ fn ∧ fn ≤ 7)
def isWord (fn : Int) : Bool := decide (fn = 0 ∨ (4 ≤ fn ∧ fn ≤ 7))
def s32 (v : Int) : Int := uw (wrap64 (wrap32 v))
def l32 (v : Int) : Int := v % 4294967296
def wordV (fn a b : Int) : Int :=
  if fn = 0 then s32 (uw (a * b)) else if fn = 4 then s32 (divV (s32 a) (s32 b)) else if fn = 5 then s32 (divuV (l32 a) (l32 b))
  else if fn = 6 then s32 (remV (s32 a) (s32 b)) else s32 (remuV (l32 a) (l32 b))
def doV (fn : Int) (word : Bool) (a b : Int) : Int :=
  if word then (if isWord fn then wordV fn a b else 0) else (if isWide fn then wideV fn a b else 0)
def doB (fn : Int) (word : Bool) : Bool := if word then isWord fn else isWide fn

theorem uw_eq (x : Int) : uw x = x % 18446744073709551616 := by
  unfold uw; simp [IntKind.wrap_u64]
theorem uw_nonneg (x : Int) : 0 ≤ uw x := by rw [uw_eq]; omega
theorem uw_lt (x : Int) : uw x < 18446744073709551616 := by rw [uw_eq]; omega
theorem uw_id {x : Int} (h0 : 0 ≤ x) (h1 : x < 18446744073709551616) : uw x = x := by rw [uw_eq]; omega
theorem hiV_nonneg {a b : Int} (ha : 0 ≤ a) (hb : 0 ≤ b) : 0 ≤ hiV a b := by
  unfold hiV; exact Int.ediv_nonneg (Int.mul_nonneg ha hb) (by omega)
theorem hiV_lt {a b : Int} (ha : 0 ≤ a) (hb : 0 ≤ b) (ha' : a < 18446744073709551616) (hb' : b < 18446744073709551616) : hiV a b < 18446744073709551616 := by
  unfold hiV
  apply Int.ediv_lt_of_lt_mul (by omega)
  calc a * b ≤ a * 18446744073709551616 := Int.mul_le_mul_of_nonneg_left (by omega) ha
    _ < 18446744073709551616 * 18446744073709551616 := by omega
theorem u_tdiv {a b : Int} (ha : 0 ≤ a) (hb : 0 ≤ b) (ha' : a < 18446744073709551616) : IntKind.u64.wrap (a.tdiv b) = a / b := by
  rw [Int.tdiv_eq_ediv_of_nonneg ha]
  have h1 : 0 ≤ a / b := Int.ediv_nonneg ha hb
  have h2 : a / b ≤ a := Int.ediv_le_self b ha
  exact uw_id h1 (by omega)
theorem s32_nonneg (a : Int) : 0 ≤ s32 a := uw_nonneg _
theorem s32_lt (a : Int) : s32 a < 18446744073709551616 := uw_lt _
theorem l32_nonneg (a : Int) : 0 ≤ l32 a := by unfold l32; omega
theorem l32_lt (a : Int) : l32 a < 18446744073709551616 := by unfold l32; omega
theorem and_l32 {a : Int} (ha : 0 ≤ a) (ha' : a < 18446744073709551616) : bits .and .u64 a 4294967295 = l32 a := by
  obtain ⟨n, rfl⟩ := Int.eq_ofNat_of_zero_le ha
  have := bits_and_u64_nat n 4294967295 (by omega) (by omega)
  rw [show ((4294967295 : Nat) : Int) = 4294967295 from rfl] at this
  rw [this, l32, show n &&& 4294967295 = n % 2 ^ 32 from Nat.and_two_pow_sub_one_eq_mod n 32]
  omega
end Go.Proofs.Ytbklmhpbaddbkaa
