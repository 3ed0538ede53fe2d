/-
  Contracts of the program's functions of the layer muldiv.
-/
import Derived.Test.YtbklmhpbaddbkaaRows
import Derived.Test.YtbklmhpbaddbkaaM
import Derived.Test.YtbklmhpbaddbkaaShelf
import Derived.WalkKit
import Derived.WalkSpells
import Derived.WalkLawsBesides
import Derived.Lib.Hide
set_option linter.unusedVariables false
set_option linter.unusedSimpArgs false
namespace Go.Proofs.Ytbklmhpbaddbkaa
open Go.RowKit

theorem ret_u64 {a b : Int} (h : a = b) : Ending.returned (.int .u64 a) = .returned (.int .u64 b) := by rw [h]
theorem ret_bool {a b : Bool} (h : a = b) : Ending.returned (.bool a) = .returned (.bool b) := by rw [h]
theorem ret_u64b {a b : Int} {c d : Bool} (h : a = b) (h2 : c = d) : Ending.returned (.tuple #[.int .u64 a, .bool c]) = .returned (.tuple #[.int .u64 b, .bool d]) := by rw [h, h2]

set_option maxHeartbeats 400000 in
theorem mul64_any (a b : Int) (ha : 0 ≤ a) (hb : 0 ≤ b) (ha' : a < 18446744073709551616) (hb' : b < 18446744073709551616) (w : World) : Calls Try.prog 33 #[.int .u64 a, .int .u64 b] w fun e w' => e = .returned (.tuple #[.int .u64 (hiV a b), .int .u64 (a * b % 18446744073709551616)]) ∧ w = w' := by
  obtain ⟨x, rfl⟩ := Int.eq_ofNat_of_zero_le ha
  obtain ⟨y, rfl⟩ := Int.eq_ofNat_of_zero_le hb
  refine (Try.bits_Mul64 x y (by omega) (by omega) w).mono ?_
  rintro e w' ⟨rfl, rfl⟩
  refine ⟨?_, rfl⟩
  simp [hiV]

set_option maxHeartbeats 400000 in
theorem signed_any (a b : Int) (c : Bool) (ha : 0 ≤ a) (hb : 0 ≤ b) (ha' : a < 18446744073709551616) (hb' : b < 18446744073709551616) (w : World) :
    Calls Try.prog 30 #[.int .u64 a, .int .u64 b, .bool c] w fun e w' => e = .returned (.int .u64 (sgnV a b c)) ∧ w = w' := by
  have Hc := Lib.hid (mul64_any a b ha hb ha' hb')
  clear ha' hb'
  go_enter Try.func30, Try.ntmps30
  go_wp2_with (go_at_call 33; refine (Hc.out _).mono ?_; rintro e w' ⟨rfl, rfl⟩)
  all_goals go_ret
  all_goals (refine ⟨ret_u64 ?_, rfl⟩; unfold sgnV uw; (repeat' split) <;> first | rfl | omega | (simp_all; done) | (simp_all; omega))

set_option maxHeartbeats 400000 in
theorem c28 (a b : Int) (ha : 0 ≤ a) (hb : 0 ≤ b) (ha' : a < 18446744073709551616) (hb' : b < 18446744073709551616) (w : World) :
    Calls Try.prog 28 #[.int .u64 a, .int .u64 b] w fun e w' => e = .returned (.int .u64 (uw (a * b))) ∧ w = w' := by
  clear ha ha' hb hb'
  go_enter Try.func28, Try.ntmps28
  go_wp2
  all_goals go_ret
  all_goals (refine ⟨ret_u64 ?_, rfl⟩; rfl)

set_option maxHeartbeats 400000 in
theorem c29 (a b : Int) (ha : 0 ≤ a) (hb : 0 ≤ b) (ha' : a < 18446744073709551616) (hb' : b < 18446744073709551616) (w : World) :
    Calls Try.prog 29 #[.int .u64 a, .int .u64 b] w fun e w' => e = .returned (.int .u64 (sgnV a b true)) ∧ w = w' := by
  have Hc := Lib.hid (signed_any a b true ha hb ha' hb')
  clear ha ha' hb hb'
  go_enter Try.func29, Try.ntmps29
  go_wp2_with (go_at_call 30; refine (Hc.out _).mono ?_; rintro e w' ⟨rfl, rfl⟩)
  all_goals go_ret
  all_goals (refine ⟨ret_u64 ?_, rfl⟩; rfl)

set_option maxHeartbeats 400000 in
theorem c31 (a b : Int) (ha : 0 ≤ a) (hb : 0 ≤ b) (ha' : a < 18446744073709551616) (hb' : b < 18446744073709551616) (w : World) :
    Calls Try.prog 31 #[.int .u64 a, .int .u64 b] w fun e w' => e = .returned (.int .u64 (sgnV a b false)) ∧ w = w' := by
  have Hc := Lib.hid (signed_any a b false ha hb ha' hb')
  clear ha ha' hb hb'
  go_enter Try.func31, Try.ntmps31
  go_wp2_with (go_at_call 30; refine (Hc.out _).mono ?_; rintro e w' ⟨rfl, rfl⟩)
  all_goals go_ret
  all_goals (refine ⟨ret_u64 ?_, rfl⟩; rfl)

set_option maxHeartbeats 400000 in
theorem c32 (a b : Int) (ha : 0 ≤ a) (hb : 0 ≤ b) (ha' : a < 18446744073709551616) (hb' : b < 18446744073709551616) (w : World) :
    Calls Try.prog 32 #[.int .u64 a, .int .u64 b] w fun e w' => e = .returned (.int .u64 (hiV a b)) ∧ w = w' := by
  have Hc := Lib.hid (mul64_any a b ha hb ha' hb')
  clear ha ha' hb hb'
  go_enter Try.func32, Try.ntmps32
  go_wp2_with (go_at_call 33; refine (Hc.out _).mono ?_; rintro e w' ⟨rfl, rfl⟩)
  all_goals go_ret
  all_goals (refine ⟨ret_u64 ?_, rfl⟩; rfl)

set_option maxHeartbeats 400000 in
theorem c34 (a b : Int) (ha : 0 ≤ a) (hb : 0 ≤ b) (ha' : a < 18446744073709551616) (hb' : b < 18446744073709551616) (w : World) :
    Calls Try.prog 34 #[.int .u64 a, .int .u64 b] w fun e w' => e = .returned (.int .u64 (divV a b)) ∧ w = w' := by
  by_cases h0 : b = 0
  · subst h0
    clear ha ha' hb hb'
    go_enter Try.func34, Try.ntmps34
    go_wp2
    go_ret
    exact ⟨rfl, rfl⟩
  · have hw : ¬ wrap64 b = 0 := by unfold wrap64; omega
    have h0' : (b == 0) = false := by simpa using h0
    clear ha' hb'
    by_cases h1 : wrap64 b = -1
    · have h1' : (wrap64 b == -1) = true := by simpa using h1
      clear h1
      go_enter Try.func34, Try.ntmps34
      go_wp2
      go_ret
      refine ⟨ret_u64 ?_, rfl⟩
      unfold divV; rw [if_neg h0, if_pos (by simpa using h1')]; all_goals first | rfl | simp [uw]
    · have h1' : (wrap64 b == -1) = false := by simpa using h1
      clear h1
      go_enter Try.func34, Try.ntmps34
      go_wp2
      go_ret
      refine ⟨ret_u64 ?_, rfl⟩
      unfold divV; rw [if_neg h0, if_neg (by simpa using h1')]; all_goals first | rfl | simp [uw]

set_option maxHeartbeats 400000 in
theorem c36 (a b : Int) (ha : 0 ≤ a) (hb : 0 ≤ b) (ha' : a < 18446744073709551616) (hb' : b < 18446744073709551616) (w : World) :
    Calls Try.prog 36 #[.int .u64 a, .int .u64 b] w fun e w' => e = .returned (.int .u64 (remV a b)) ∧ w = w' := by
  by_cases h0 : b = 0
  · subst h0
    clear ha ha' hb hb'
    go_enter Try.func36, Try.ntmps36
    go_wp2
    go_ret
    exact ⟨rfl, rfl⟩
  · have hw : ¬ wrap64 b = 0 := by unfold wrap64; omega
    have h0' : (b == 0) = false := by simpa using h0
    clear ha' hb'
    by_cases h1 : wrap64 b = -1
    · have h1' : (wrap64 b == -1) = true := by simpa using h1
      clear h1
      go_enter Try.func36, Try.ntmps36
      go_wp2
      go_ret
      refine ⟨ret_u64 ?_, rfl⟩
      unfold remV; rw [if_neg h0, if_pos (by simpa using h1')]; all_goals first | rfl | simp [uw]
    · have h1' : (wrap64 b == -1) = false := by simpa using h1
      clear h1
      go_enter Try.func36, Try.ntmps36
      go_wp2
      go_ret
      refine ⟨ret_u64 ?_, rfl⟩
      unfold remV; rw [if_neg h0, if_neg (by simpa using h1')]; all_goals first | rfl | simp [uw]

set_option maxHeartbeats 400000 in
theorem c35 (a b : Int) (ha : 0 ≤ a) (hb : 0 ≤ b) (ha' : a < 18446744073709551616) (hb' : b < 18446744073709551616) (w : World) :
    Calls Try.prog 35 #[.int .u64 a, .int .u64 b] w fun e w' => e = .returned (.int .u64 (divuV a b)) ∧ w = w' := by
  by_cases h0 : b = 0
  · subst h0
    clear ha ha' hb hb'
    go_enter Try.func35, Try.ntmps35
    go_wp2
    go_ret
    exact ⟨rfl, rfl⟩
  · have h0' : (b == 0) = false := by simpa using h0
    have hq := u_tdiv ha hb ha'
    have Hq := Lib.hid hq; clear hq
    clear ha' hb'
    go_enter Try.func35, Try.ntmps35
    go_wp2
    go_ret
    refine ⟨ret_u64 ?_, rfl⟩
    unfold divuV; rw [if_neg h0]; all_goals exact Hq.out

set_option maxHeartbeats 400000 in
theorem c37 (a b : Int) (ha : 0 ≤ a) (hb : 0 ≤ b) (ha' : a < 18446744073709551616) (hb' : b < 18446744073709551616) (w : World) :
    Calls Try.prog 37 #[.int .u64 a, .int .u64 b] w fun e w' => e = .returned (.int .u64 (remuV a b)) ∧ w = w' := by
  by_cases h0 : b = 0
  · subst h0
    clear ha ha' hb hb'
    go_enter Try.func37, Try.ntmps37
    go_wp2
    go_ret
    exact ⟨rfl, rfl⟩
  · have h0' : (b == 0) = false := by simpa using h0
    have hq := u_tdiv ha hb ha'
    have Hq := Lib.hid hq; clear hq
    clear ha' hb'
    go_enter Try.func37, Try.ntmps37
    go_wp2
    go_ret
    refine ⟨ret_u64 ?_, rfl⟩
    unfold remuV; rw [if_neg h0]; all_goals exact Hq.out
end Go.Proofs.Ytbklmhpbaddbkaa
