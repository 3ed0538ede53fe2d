/-
  Plain arithmetic of the layer muldiv: what atomic operations leave.
-/
import Derived.Test.YtbklmhpbaddbkaaM4
namespace Go.Proofs.Ytbklmhpbaddbkaa
open Go.RowKit

theorem and_add_or_nat (a : Nat) : ∀ b : Nat, (a &&& b) + (a ||| b) = a + b := by
  induction a using Nat.strongRecOn with
  | _ a ih =>
    intro b
    by_cases h : a = 0
    · subst h; simp
    · have hi := ih (a / 2) (by omega) (b / 2)
      rw [← Nat.and_div_two, ← Nat.or_div_two] at hi
      have h1 := @Nat.and_mod_two_eq_one a b
      have h2 := @Nat.or_mod_two_eq_one a b
      omega
theorem and_add_xor_nat (a : Nat) : ∀ b : Nat, (a &&& b) + (a ^^^ b) = (a ||| b) := by
  induction a using Nat.strongRecOn with
  | _ a ih =>
    intro b
    by_cases h : a = 0
    · subst h; simp
    · have hi := ih (a / 2) (by omega) (b / 2)
      rw [← Nat.and_div_two, ← Nat.or_div_two, ← Nat.xor_div_two] at hi
      have h1 := @Nat.and_mod_two_eq_one a b
      have h2 := @Nat.or_mod_two_eq_one a b
      have h3 := @Nat.xor_mod_two_eq_one a b
      omega
theorem either_bits {a b : Int} (ha : 0 ≤ a) (hb : 0 ≤ b) (ha' : a < 18446744073709551616) (hb' : b < 18446744073709551616) :
    bits .xor .u64 (bits .xor .u64 a b) b = a ∧ IntKind.u64.wrap (bits .and .u64 a b + bits .or .u64 a b) = uw (a + b) ∧ IntKind.u64.wrap (bits .and .u64 a b + bits .xor .u64 a b) = bits .or .u64 a b := by
  obtain ⟨x, rfl⟩ := Int.eq_ofNat_of_zero_le ha
  obtain ⟨y, rfl⟩ := Int.eq_ofNat_of_zero_le hb
  have hx : x < 2 ^ 64 := by omega
  have hy : y < 2 ^ 64 := by omega
  have h1 := Nat.xor_lt_two_pow hx hy
  have h2 := Nat.or_lt_two_pow hx hy
  rw [bits_xor_u64_nat x y (by omega) (by omega), bits_xor_u64_nat _ y (by omega) (by omega), bits_and_u64_nat x y (by omega) (by omega), bits_or_u64_nat x y (by omega) (by omega)]
  have h3 := and_add_or_nat x y
  have h4 := and_add_xor_nat x y
  refine ⟨?_, ?_, ?_⟩
  · rw [Nat.xor_assoc, Nat.xor_self, Nat.xor_zero]
  · unfold uw; rw [show ((x &&& y : Nat) : Int) + ((x ||| y : Nat) : Int) = (x : Int) + (y : Int) by omega]
  · rw [show ((x &&& y : Nat) : Int) + ((x ^^^ y : Nat) : Int) = ((x ||| y : Nat) : Int) by omega]
    simp only [IntKind.wrap_u64]; omega
theorem either_s {a b : Int} (ha : 0 ≤ a) (hb : 0 ≤ b) (ha' : a < 18446744073709551616) (hb' : b < 18446744073709551616) (hne : a ≠ b) :
    (amoV 16 8 a b = a ∧ amoV 20 8 a b = b ∧ wrap64 a < wrap64 b) ∨ (amoV 16 8 a b = b ∧ amoV 20 8 a b = a ∧ wrap64 b < wrap64 a) := by
  rw [show amoV 16 8 a b = if wrap64 b < wrap64 a then uw (wrap64 b) else uw (wrap64 a) from rfl, show amoV 20 8 a b = if wrap64 a < wrap64 b then uw (wrap64 b) else uw (wrap64 a) from rfl, uw_wrap ha ha', uw_wrap hb hb']
  have e : wrap64 a = wrap64 b → a = b := by unfold wrap64; omega
  by_cases h : wrap64 a < wrap64 b
  · left; rw [if_neg (by omega), if_pos h]; exact ⟨rfl, rfl, h⟩
  · right; rw [if_pos (by omega), if_neg h]; exact ⟨rfl, rfl, by omega⟩
theorem either_u {a b : Int} (hne : a ≠ b) :
    (amoV 24 8 a b = a ∧ amoV 28 8 a b = b ∧ a < b) ∨ (amoV 24 8 a b = b ∧ amoV 28 8 a b = a ∧ b < a) := by
  rw [show amoV 24 8 a b = if b < a then b else a from rfl, show amoV 28 8 a b = if a < b then b else a from rfl]
  by_cases h : a < b
  · left; rw [if_neg (by omega), if_pos h]; exact ⟨rfl, rfl, h⟩
  · right; rw [if_pos (by omega), if_neg h]; exact ⟨rfl, rfl, by omega⟩
theorem either_eq {a : Int} (ha : 0 ≤ a) (ha' : a < 18446744073709551616) : amoV 16 8 a a = a ∧ amoV 20 8 a a = a ∧ amoV 24 8 a a = a ∧ amoV 28 8 a a = a := by
  rw [show amoV 16 8 a a = if wrap64 a < wrap64 a then uw (wrap64 a) else uw (wrap64 a) from rfl, show amoV 20 8 a a = if wrap64 a < wrap64 a then uw (wrap64 a) else uw (wrap64 a) from rfl, uw_wrap ha ha',
    show amoV 24 8 a a = if a < a then a else a from rfl, show amoV 28 8 a a = if a < a then a else a from rfl]
  simp
end Go.Proofs.Ytbklmhpbaddbkaa
