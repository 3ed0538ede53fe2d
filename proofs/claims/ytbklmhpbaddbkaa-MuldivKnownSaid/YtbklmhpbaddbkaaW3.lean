/-
  Contracts of the program's functions of the layer muldiv.
-/
import Derived.Test.YtbklmhpbaddbkaaRows
import Derived.Test.YtbklmhpbaddbkaaW2
import Derived.Test.YtbklmhpbaddbkaaM2
import Derived.WalkKit
import Derived.WalkSpells
import Derived.WalkLawsBesides
import Derived.Lib.Hide
set_option linter.unusedVariables false
set_option linter.unusedSimpArgs false
namespace Go.Proofs.Ytbklmhpbaddbkaa
open Go.RowKit

set_option maxHeartbeats 400000 in
theorem c46 (a b : Int) (w : World) :
    Calls Try.prog 46 #[.int .u64 a, .int .u64 b] w fun e w' => e = .returned (.int .u64 (opV 0 a b)) ∧ w = w' := by
  go_enter Try.func46, Try.ntmps46
  go_wp2
  all_goals go_ret
  all_goals (exact ⟨rfl, rfl⟩)
set_option maxHeartbeats 400000 in
theorem c47 (a b : Int) (w : World) :
    Calls Try.prog 47 #[.int .u64 a, .int .u64 b] w fun e w' => e = .returned (.int .u64 (opV 1 a b)) ∧ w = w' := by
  go_enter Try.func47, Try.ntmps47
  go_wp2
  all_goals go_ret
  all_goals (exact ⟨rfl, rfl⟩)
set_option maxHeartbeats 400000 in
theorem c48 (a b : Int) (w : World) :
    Calls Try.prog 48 #[.int .u64 a, .int .u64 b] w fun e w' => e = .returned (.int .u64 (opV 4 a b)) ∧ w = w' := by
  go_enter Try.func48, Try.ntmps48
  go_wp2
  all_goals go_ret
  all_goals (exact ⟨rfl, rfl⟩)
set_option maxHeartbeats 400000 in
theorem c49 (a b : Int) (w : World) :
    Calls Try.prog 49 #[.int .u64 a, .int .u64 b] w fun e w' => e = .returned (.int .u64 (opV 8 a b)) ∧ w = w' := by
  go_enter Try.func49, Try.ntmps49
  go_wp2
  all_goals go_ret
  all_goals (exact ⟨rfl, rfl⟩)
set_option maxHeartbeats 400000 in
theorem c50 (a b : Int) (w : World) :
    Calls Try.prog 50 #[.int .u64 a, .int .u64 b] w fun e w' => e = .returned (.int .u64 (opV 12 a b)) ∧ w = w' := by
  go_enter Try.func50, Try.ntmps50
  go_wp2
  all_goals go_ret
  all_goals (exact ⟨rfl, rfl⟩)
set_option maxHeartbeats 400000 in
theorem c51 (a b : Int) (w : World) :
    Calls Try.prog 51 #[.int .u64 a, .int .u64 b] w fun e w' => e = .returned (.int .u64 (opV 16 a b)) ∧ w = w' := by
  go_enter Try.func51, Try.ntmps51
  go_wp2_with (split)
  all_goals go_wp2
  all_goals go_ret
  all_goals (refine ⟨ret_u64 ?_, rfl⟩; simp [opV, uw]; (try (repeat' split)) <;> first | rfl | omega)
set_option maxHeartbeats 400000 in
theorem c52 (a b : Int) (w : World) :
    Calls Try.prog 52 #[.int .u64 a, .int .u64 b] w fun e w' => e = .returned (.int .u64 (opV 20 a b)) ∧ w = w' := by
  go_enter Try.func52, Try.ntmps52
  go_wp2_with (split)
  all_goals go_wp2
  all_goals go_ret
  all_goals (refine ⟨ret_u64 ?_, rfl⟩; simp [opV, uw]; (try (repeat' split)) <;> first | rfl | omega)
set_option maxHeartbeats 400000 in
theorem c53 (a b : Int) (w : World) :
    Calls Try.prog 53 #[.int .u64 a, .int .u64 b] w fun e w' => e = .returned (.int .u64 (opV 24 a b)) ∧ w = w' := by
  go_enter Try.func53, Try.ntmps53
  go_wp2_with (split)
  all_goals go_wp2
  all_goals go_ret
  all_goals (refine ⟨ret_u64 ?_, rfl⟩; simp [opV, uw]; (try (repeat' split)) <;> first | rfl | omega)
set_option maxHeartbeats 400000 in
theorem c54 (a b : Int) (w : World) :
    Calls Try.prog 54 #[.int .u64 a, .int .u64 b] w fun e w' => e = .returned (.int .u64 (opV 28 a b)) ∧ w = w' := by
  go_enter Try.func54, Try.ntmps54
  go_wp2_with (split)
  all_goals go_wp2
  all_goals go_ret
  all_goals (refine ⟨ret_u64 ?_, rfl⟩; simp [opV, uw]; (try (repeat' split)) <;> first | rfl | omega)
set_option maxHeartbeats 400000 in
theorem amo_0_8 (a b : Int) (ha : 0 ≤ a) (hb : 0 ≤ b) (ha' : a < 18446744073709551616) (hb' : b < 18446744073709551616) (w : World) :
    Calls Try.prog 14 #[.int .i64 0, .int .i64 8, .int .u64 a, .int .u64 b] w fun e w' => e = .returned (.tuple #[.int .u64 (amoV 0 8 a b), .bool true]) ∧ w = w' := by
  clear ha ha' hb hb'
  go_enter Try.func14, Try.ntmps14
  go_wp2_with fail
  refine (atomic_0 _).mono ?_; rintro e w' ⟨rfl, rfl⟩
  go_wp2_with fail
  refine (c46 _ _ _).mono ?_; rintro e w' ⟨rfl, rfl⟩
  go_wp2
  go_ret2
  exact ⟨rfl, rfl⟩
set_option maxHeartbeats 400000 in
theorem amo_0_4 (a b : Int) (ha : 0 ≤ a) (hb : 0 ≤ b) (ha' : a < 18446744073709551616) (hb' : b < 18446744073709551616) (w : World) :
    Calls Try.prog 14 #[.int .i64 0, .int .i64 4, .int .u64 a, .int .u64 b] w fun e w' => e = .returned (.tuple #[.int .u64 (amoV 0 4 a b), .bool true]) ∧ w = w' := by
  have Hl := Lib.hid (low_any (opV 0 (s32 a) (s32 b)) (opV_nonneg _ (s32_nonneg a) (s32_nonneg b)) (opV_lt _ (s32_lt a) (s32_lt b)))
  clear ha ha' hb hb'
  go_enter Try.func14, Try.ntmps14
  go_wp2_with fail
  refine (atomic_0 _).mono ?_; rintro e w' ⟨rfl, rfl⟩
  go_wp2_with fail
  refine (sign_any _ _).mono ?_; rintro e w' ⟨rfl, rfl⟩
  go_wp2_with fail
  refine (sign_any _ _).mono ?_; rintro e w' ⟨rfl, rfl⟩
  go_wp2_with fail
  refine (c46 _ _ _).mono ?_; rintro e w' ⟨rfl, rfl⟩
  go_wp2_with fail
  refine (Hl.out _).mono ?_; rintro e w' ⟨rfl, rfl⟩
  go_wp2
  go_ret2
  exact ⟨rfl, rfl⟩
set_option maxHeartbeats 400000 in
theorem amo_0_no (size a b : Int) (h4 : size ≠ 4) (h8 : size ≠ 8) (w : World) :
    Calls Try.prog 14 #[.int .i64 0, .int .i64 size, .int .u64 a, .int .u64 b] w fun e w' => e = .returned (.tuple #[.int .u64 0, .bool false]) ∧ w = w' := by
  go_enter Try.func14, Try.ntmps14
  go_wp2_with fail
  refine (atomic_0 _).mono ?_; rintro e w' ⟨rfl, rfl⟩
  go_wp2
  go_ret2
  exact ⟨rfl, rfl⟩
set_option maxHeartbeats 400000 in
theorem amo_1_8 (a b : Int) (ha : 0 ≤ a) (hb : 0 ≤ b) (ha' : a < 18446744073709551616) (hb' : b < 18446744073709551616) (w : World) :
    Calls Try.prog 14 #[.int .i64 1, .int .i64 8, .int .u64 a, .int .u64 b] w fun e w' => e = .returned (.tuple #[.int .u64 (amoV 1 8 a b), .bool true]) ∧ w = w' := by
  clear ha ha' hb hb'
  go_enter Try.func14, Try.ntmps14
  go_wp2_with fail
  refine (atomic_1 _).mono ?_; rintro e w' ⟨rfl, rfl⟩
  go_wp2_with fail
  refine (c47 _ _ _).mono ?_; rintro e w' ⟨rfl, rfl⟩
  go_wp2
  go_ret2
  exact ⟨rfl, rfl⟩
set_option maxHeartbeats 400000 in
theorem amo_1_4 (a b : Int) (ha : 0 ≤ a) (hb : 0 ≤ b) (ha' : a < 18446744073709551616) (hb' : b < 18446744073709551616) (w : World) :
    Calls Try.prog 14 #[.int .i64 1, .int .i64 4, .int .u64 a, .int .u64 b] w fun e w' => e = .returned (.tuple #[.int .u64 (amoV 1 4 a b), .bool true]) ∧ w = w' := by
  have Hl := Lib.hid (low_any (opV 1 (s32 a) (s32 b)) (opV_nonneg _ (s32_nonneg a) (s32_nonneg b)) (opV_lt _ (s32_lt a) (s32_lt b)))
  clear ha ha' hb hb'
  go_enter Try.func14, Try.ntmps14
  go_wp2_with fail
  refine (atomic_1 _).mono ?_; rintro e w' ⟨rfl, rfl⟩
  go_wp2_with fail
  refine (sign_any _ _).mono ?_; rintro e w' ⟨rfl, rfl⟩
  go_wp2_with fail
  refine (sign_any _ _).mono ?_; rintro e w' ⟨rfl, rfl⟩
  go_wp2_with fail
  refine (c47 _ _ _).mono ?_; rintro e w' ⟨rfl, rfl⟩
  go_wp2_with fail
  refine (Hl.out _).mono ?_; rintro e w' ⟨rfl, rfl⟩
  go_wp2
  go_ret2
  exact ⟨rfl, rfl⟩
set_option maxHeartbeats 400000 in
theorem amo_1_no (size a b : Int) (h4 : size ≠ 4) (h8 : size ≠ 8) (w : World) :
    Calls Try.prog 14 #[.int .i64 1, .int .i64 size, .int .u64 a, .int .u64 b] w fun e w' => e = .returned (.tuple #[.int .u64 0, .bool false]) ∧ w = w' := by
  go_enter Try.func14, Try.ntmps14
  go_wp2_with fail
  refine (atomic_1 _).mono ?_; rintro e w' ⟨rfl, rfl⟩
  go_wp2
  go_ret2
  exact ⟨rfl, rfl⟩
set_option maxHeartbeats 400000 in
theorem amo_4_8 (a b : Int) (ha : 0 ≤ a) (hb : 0 ≤ b) (ha' : a < 18446744073709551616) (hb' : b < 18446744073709551616) (w : World) :
    Calls Try.prog 14 #[.int .i64 4, .int .i64 8, .int .u64 a, .int .u64 b] w fun e w' => e = .returned (.tuple #[.int .u64 (amoV 4 8 a b), .bool true]) ∧ w = w' := by
  clear ha ha' hb hb'
  go_enter Try.func14, Try.ntmps14
  go_wp2_with fail
  refine (atomic_4 _).mono ?_; rintro e w' ⟨rfl, rfl⟩
  go_wp2_with fail
  refine (c48 _ _ _).mono ?_; rintro e w' ⟨rfl, rfl⟩
  go_wp2
  go_ret2
  exact ⟨rfl, rfl⟩
set_option maxHeartbeats 400000 in
theorem amo_4_4 (a b : Int) (ha : 0 ≤ a) (hb : 0 ≤ b) (ha' : a < 18446744073709551616) (hb' : b < 18446744073709551616) (w : World) :
    Calls Try.prog 14 #[.int .i64 4, .int .i64 4, .int .u64 a, .int .u64 b] w fun e w' => e = .returned (.tuple #[.int .u64 (amoV 4 4 a b), .bool true]) ∧ w = w' := by
  have Hl := Lib.hid (low_any (opV 4 (s32 a) (s32 b)) (opV_nonneg _ (s32_nonneg a) (s32_nonneg b)) (opV_lt _ (s32_lt a) (s32_lt b)))
  clear ha ha' hb hb'
  go_enter Try.func14, Try.ntmps14
  go_wp2_with fail
  refine (atomic_4 _).mono ?_; rintro e w' ⟨rfl, rfl⟩
  go_wp2_with fail
  refine (sign_any _ _).mono ?_; rintro e w' ⟨rfl, rfl⟩
  go_wp2_with fail
  refine (sign_any _ _).mono ?_; rintro e w' ⟨rfl, rfl⟩
  go_wp2_with fail
  refine (c48 _ _ _).mono ?_; rintro e w' ⟨rfl, rfl⟩
  go_wp2_with fail
  refine (Hl.out _).mono ?_; rintro e w' ⟨rfl, rfl⟩
  go_wp2
  go_ret2
  exact ⟨rfl, rfl⟩
set_option maxHeartbeats 400000 in
theorem amo_4_no (size a b : Int) (h4 : size ≠ 4) (h8 : size ≠ 8) (w : World) :
    Calls Try.prog 14 #[.int .i64 4, .int .i64 size, .int .u64 a, .int .u64 b] w fun e w' => e = .returned (.tuple #[.int .u64 0, .bool false]) ∧ w = w' := by
  go_enter Try.func14, Try.ntmps14
  go_wp2_with fail
  refine (atomic_4 _).mono ?_; rintro e w' ⟨rfl, rfl⟩
  go_wp2
  go_ret2
  exact ⟨rfl, rfl⟩
set_option maxHeartbeats 400000 in
theorem amo_8_8 (a b : Int) (ha : 0 ≤ a) (hb : 0 ≤ b) (ha' : a < 18446744073709551616) (hb' : b < 18446744073709551616) (w : World) :
    Calls Try.prog 14 #[.int .i64 8, .int .i64 8, .int .u64 a, .int .u64 b] w fun e w' => e = .returned (.tuple #[.int .u64 (amoV 8 8 a b), .bool true]) ∧ w = w' := by
  clear ha ha' hb hb'
  go_enter Try.func14, Try.ntmps14
  go_wp2_with fail
  refine (atomic_8 _).mono ?_; rintro e w' ⟨rfl, rfl⟩
  go_wp2_with fail
  refine (c49 _ _ _).mono ?_; rintro e w' ⟨rfl, rfl⟩
  go_wp2
  go_ret2
  exact ⟨rfl, rfl⟩
set_option maxHeartbeats 400000 in
theorem amo_8_4 (a b : Int) (ha : 0 ≤ a) (hb : 0 ≤ b) (ha' : a < 18446744073709551616) (hb' : b < 18446744073709551616) (w : World) :
    Calls Try.prog 14 #[.int .i64 8, .int .i64 4, .int .u64 a, .int .u64 b] w fun e w' => e = .returned (.tuple #[.int .u64 (amoV 8 4 a b), .bool true]) ∧ w = w' := by
  have Hl := Lib.hid (low_any (opV 8 (s32 a) (s32 b)) (opV_nonneg _ (s32_nonneg a) (s32_nonneg b)) (opV_lt _ (s32_lt a) (s32_lt b)))
  clear ha ha' hb hb'
  go_enter Try.func14, Try.ntmps14
  go_wp2_with fail
  refine (atomic_8 _).mono ?_; rintro e w' ⟨rfl, rfl⟩
  go_wp2_with fail
  refine (sign_any _ _).mono ?_; rintro e w' ⟨rfl, rfl⟩
  go_wp2_with fail
  refine (sign_any _ _).mono ?_; rintro e w' ⟨rfl, rfl⟩
  go_wp2_with fail
  refine (c49 _ _ _).mono ?_; rintro e w' ⟨rfl, rfl⟩
  go_wp2_with fail
  refine (Hl.out _).mono ?_; rintro e w' ⟨rfl, rfl⟩
  go_wp2
  go_ret2
  exact ⟨rfl, rfl⟩
set_option maxHeartbeats 400000 in
theorem amo_8_no (size a b : Int) (h4 : size ≠ 4) (h8 : size ≠ 8) (w : World) :
    Calls Try.prog 14 #[.int .i64 8, .int .i64 size, .int .u64 a, .int .u64 b] w fun e w' => e = .returned (.tuple #[.int .u64 0, .bool false]) ∧ w = w' := by
  go_enter Try.func14, Try.ntmps14
  go_wp2_with fail
  refine (atomic_8 _).mono ?_; rintro e w' ⟨rfl, rfl⟩
  go_wp2
  go_ret2
  exact ⟨rfl, rfl⟩
set_option maxHeartbeats 400000 in
theorem amo_12_8 (a b : Int) (ha : 0 ≤ a) (hb : 0 ≤ b) (ha' : a < 18446744073709551616) (hb' : b < 18446744073709551616) (w : World) :
    Calls Try.prog 14 #[.int .i64 12, .int .i64 8, .int .u64 a, .int .u64 b] w fun e w' => e = .returned (.tuple #[.int .u64 (amoV 12 8 a b), .bool true]) ∧ w = w' := by
  clear ha ha' hb hb'
  go_enter Try.func14, Try.ntmps14
  go_wp2_with fail
  refine (atomic_12 _).mono ?_; rintro e w' ⟨rfl, rfl⟩
  go_wp2_with fail
  refine (c50 _ _ _).mono ?_; rintro e w' ⟨rfl, rfl⟩
  go_wp2
  go_ret2
  exact ⟨rfl, rfl⟩
set_option maxHeartbeats 400000 in
theorem amo_12_4 (a b : Int) (ha : 0 ≤ a) (hb : 0 ≤ b) (ha' : a < 18446744073709551616) (hb' : b < 18446744073709551616) (w : World) :
    Calls Try.prog 14 #[.int .i64 12, .int .i64 4, .int .u64 a, .int .u64 b] w fun e w' => e = .returned (.tuple #[.int .u64 (amoV 12 4 a b), .bool true]) ∧ w = w' := by
  have Hl := Lib.hid (low_any (opV 12 (s32 a) (s32 b)) (opV_nonneg _ (s32_nonneg a) (s32_nonneg b)) (opV_lt _ (s32_lt a) (s32_lt b)))
  clear ha ha' hb hb'
  go_enter Try.func14, Try.ntmps14
  go_wp2_with fail
  refine (atomic_12 _).mono ?_; rintro e w' ⟨rfl, rfl⟩
  go_wp2_with fail
  refine (sign_any _ _).mono ?_; rintro e w' ⟨rfl, rfl⟩
  go_wp2_with fail
  refine (sign_any _ _).mono ?_; rintro e w' ⟨rfl, rfl⟩
  go_wp2_with fail
  refine (c50 _ _ _).mono ?_; rintro e w' ⟨rfl, rfl⟩
  go_wp2_with fail
  refine (Hl.out _).mono ?_; rintro e w' ⟨rfl, rfl⟩
  go_wp2
  go_ret2
  exact ⟨rfl, rfl⟩
set_option maxHeartbeats 400000 in
theorem amo_12_no (size a b : Int) (h4 : size ≠ 4) (h8 : size ≠ 8) (w : World) :
    Calls Try.prog 14 #[.int .i64 12, .int .i64 size, .int .u64 a, .int .u64 b] w fun e w' => e = .returned (.tuple #[.int .u64 0, .bool false]) ∧ w = w' := by
  go_enter Try.func14, Try.ntmps14
  go_wp2_with fail
  refine (atomic_12 _).mono ?_; rintro e w' ⟨rfl, rfl⟩
  go_wp2
  go_ret2
  exact ⟨rfl, rfl⟩
set_option maxHeartbeats 400000 in
theorem amo_16_8 (a b : Int) (ha : 0 ≤ a) (hb : 0 ≤ b) (ha' : a < 18446744073709551616) (hb' : b < 18446744073709551616) (w : World) :
    Calls Try.prog 14 #[.int .i64 16, .int .i64 8, .int .u64 a, .int .u64 b] w fun e w' => e = .returned (.tuple #[.int .u64 (amoV 16 8 a b), .bool true]) ∧ w = w' := by
  clear ha ha' hb hb'
  go_enter Try.func14, Try.ntmps14
  go_wp2_with fail
  refine (atomic_16 _).mono ?_; rintro e w' ⟨rfl, rfl⟩
  go_wp2_with fail
  refine (c51 _ _ _).mono ?_; rintro e w' ⟨rfl, rfl⟩
  go_wp2
  go_ret2
  exact ⟨rfl, rfl⟩
set_option maxHeartbeats 400000 in
theorem amo_16_4 (a b : Int) (ha : 0 ≤ a) (hb : 0 ≤ b) (ha' : a < 18446744073709551616) (hb' : b < 18446744073709551616) (w : World) :
    Calls Try.prog 14 #[.int .i64 16, .int .i64 4, .int .u64 a, .int .u64 b] w fun e w' => e = .returned (.tuple #[.int .u64 (amoV 16 4 a b), .bool true]) ∧ w = w' := by
  have Hl := Lib.hid (low_any (opV 16 (s32 a) (s32 b)) (opV_nonneg _ (s32_nonneg a) (s32_nonneg b)) (opV_lt _ (s32_lt a) (s32_lt b)))
  clear ha ha' hb hb'
  go_enter Try.func14, Try.ntmps14
  go_wp2_with fail
  refine (atomic_16 _).mono ?_; rintro e w' ⟨rfl, rfl⟩
  go_wp2_with fail
  refine (sign_any _ _).mono ?_; rintro e w' ⟨rfl, rfl⟩
  go_wp2_with fail
  refine (sign_any _ _).mono ?_; rintro e w' ⟨rfl, rfl⟩
  go_wp2_with fail
  refine (c51 _ _ _).mono ?_; rintro e w' ⟨rfl, rfl⟩
  go_wp2_with fail
  refine (Hl.out _).mono ?_; rintro e w' ⟨rfl, rfl⟩
  go_wp2
  go_ret2
  exact ⟨rfl, rfl⟩
set_option maxHeartbeats 400000 in
theorem amo_16_no (size a b : Int) (h4 : size ≠ 4) (h8 : size ≠ 8) (w : World) :
    Calls Try.prog 14 #[.int .i64 16, .int .i64 size, .int .u64 a, .int .u64 b] w fun e w' => e = .returned (.tuple #[.int .u64 0, .bool false]) ∧ w = w' := by
  go_enter Try.func14, Try.ntmps14
  go_wp2_with fail
  refine (atomic_16 _).mono ?_; rintro e w' ⟨rfl, rfl⟩
  go_wp2
  go_ret2
  exact ⟨rfl, rfl⟩
set_option maxHeartbeats 400000 in
theorem amo_20_8 (a b : Int) (ha : 0 ≤ a) (hb : 0 ≤ b) (ha' : a < 18446744073709551616) (hb' : b < 18446744073709551616) (w : World) :
    Calls Try.prog 14 #[.int .i64 20, .int .i64 8, .int .u64 a, .int .u64 b] w fun e w' => e = .returned (.tuple #[.int .u64 (amoV 20 8 a b), .bool true]) ∧ w = w' := by
  clear ha ha' hb hb'
  go_enter Try.func14, Try.ntmps14
  go_wp2_with fail
  refine (atomic_20 _).mono ?_; rintro e w' ⟨rfl, rfl⟩
  go_wp2_with fail
  refine (c52 _ _ _).mono ?_; rintro e w' ⟨rfl, rfl⟩
  go_wp2
  go_ret2
  exact ⟨rfl, rfl⟩
set_option maxHeartbeats 400000 in
theorem amo_20_4 (a b : Int) (ha : 0 ≤ a) (hb : 0 ≤ b) (ha' : a < 18446744073709551616) (hb' : b < 18446744073709551616) (w : World) :
    Calls Try.prog 14 #[.int .i64 20, .int .i64 4, .int .u64 a, .int .u64 b] w fun e w' => e = .returned (.tuple #[.int .u64 (amoV 20 4 a b), .bool true]) ∧ w = w' := by
  have Hl := Lib.hid (low_any (opV 20 (s32 a) (s32 b)) (opV_nonneg _ (s32_nonneg a) (s32_nonneg b)) (opV_lt _ (s32_lt a) (s32_lt b)))
  clear ha ha' hb hb'
  go_enter Try.func14, Try.ntmps14
  go_wp2_with fail
  refine (atomic_20 _).mono ?_; rintro e w' ⟨rfl, rfl⟩
  go_wp2_with fail
  refine (sign_any _ _).mono ?_; rintro e w' ⟨rfl, rfl⟩
  go_wp2_with fail
  refine (sign_any _ _).mono ?_; rintro e w' ⟨rfl, rfl⟩
  go_wp2_with fail
  refine (c52 _ _ _).mono ?_; rintro e w' ⟨rfl, rfl⟩
  go_wp2_with fail
  refine (Hl.out _).mono ?_; rintro e w' ⟨rfl, rfl⟩
  go_wp2
  go_ret2
  exact ⟨rfl, rfl⟩
set_option maxHeartbeats 400000 in
theorem amo_20_no (size a b : Int) (h4 : size ≠ 4) (h8 : size ≠ 8) (w : World) :
    Calls Try.prog 14 #[.int .i64 20, .int .i64 size, .int .u64 a, .int .u64 b] w fun e w' => e = .returned (.tuple #[.int .u64 0, .bool false]) ∧ w = w' := by
  go_enter Try.func14, Try.ntmps14
  go_wp2_with fail
  refine (atomic_20 _).mono ?_; rintro e w' ⟨rfl, rfl⟩
  go_wp2
  go_ret2
  exact ⟨rfl, rfl⟩
set_option maxHeartbeats 400000 in
theorem amo_24_8 (a b : Int) (ha : 0 ≤ a) (hb : 0 ≤ b) (ha' : a < 18446744073709551616) (hb' : b < 18446744073709551616) (w : World) :
    Calls Try.prog 14 #[.int .i64 24, .int .i64 8, .int .u64 a, .int .u64 b] w fun e w' => e = .returned (.tuple #[.int .u64 (amoV 24 8 a b), .bool true]) ∧ w = w' := by
  clear ha ha' hb hb'
  go_enter Try.func14, Try.ntmps14
  go_wp2_with fail
  refine (atomic_24 _).mono ?_; rintro e w' ⟨rfl, rfl⟩
  go_wp2_with fail
  refine (c53 _ _ _).mono ?_; rintro e w' ⟨rfl, rfl⟩
  go_wp2
  go_ret2
  exact ⟨rfl, rfl⟩
set_option maxHeartbeats 400000 in
theorem amo_24_4 (a b : Int) (ha : 0 ≤ a) (hb : 0 ≤ b) (ha' : a < 18446744073709551616) (hb' : b < 18446744073709551616) (w : World) :
    Calls Try.prog 14 #[.int .i64 24, .int .i64 4, .int .u64 a, .int .u64 b] w fun e w' => e = .returned (.tuple #[.int .u64 (amoV 24 4 a b), .bool true]) ∧ w = w' := by
  have Hl := Lib.hid (low_any (opV 24 (s32 a) (s32 b)) (opV_nonneg _ (s32_nonneg a) (s32_nonneg b)) (opV_lt _ (s32_lt a) (s32_lt b)))
  clear ha ha' hb hb'
  go_enter Try.func14, Try.ntmps14
  go_wp2_with fail
  refine (atomic_24 _).mono ?_; rintro e w' ⟨rfl, rfl⟩
  go_wp2_with fail
  refine (sign_any _ _).mono ?_; rintro e w' ⟨rfl, rfl⟩
  go_wp2_with fail
  refine (sign_any _ _).mono ?_; rintro e w' ⟨rfl, rfl⟩
  go_wp2_with fail
  refine (c53 _ _ _).mono ?_; rintro e w' ⟨rfl, rfl⟩
  go_wp2_with fail
  refine (Hl.out _).mono ?_; rintro e w' ⟨rfl, rfl⟩
  go_wp2
  go_ret2
  exact ⟨rfl, rfl⟩
set_option maxHeartbeats 400000 in
theorem amo_24_no (size a b : Int) (h4 : size ≠ 4) (h8 : size ≠ 8) (w : World) :
    Calls Try.prog 14 #[.int .i64 24, .int .i64 size, .int .u64 a, .int .u64 b] w fun e w' => e = .returned (.tuple #[.int .u64 0, .bool false]) ∧ w = w' := by
  go_enter Try.func14, Try.ntmps14
  go_wp2_with fail
  refine (atomic_24 _).mono ?_; rintro e w' ⟨rfl, rfl⟩
  go_wp2
  go_ret2
  exact ⟨rfl, rfl⟩
set_option maxHeartbeats 400000 in
theorem amo_28_8 (a b : Int) (ha : 0 ≤ a) (hb : 0 ≤ b) (ha' : a < 18446744073709551616) (hb' : b < 18446744073709551616) (w : World) :
    Calls Try.prog 14 #[.int .i64 28, .int .i64 8, .int .u64 a, .int .u64 b] w fun e w' => e = .returned (.tuple #[.int .u64 (amoV 28 8 a b), .bool true]) ∧ w = w' := by
  clear ha ha' hb hb'
  go_enter Try.func14, Try.ntmps14
  go_wp2_with fail
  refine (atomic_28 _).mono ?_; rintro e w' ⟨rfl, rfl⟩
  go_wp2_with fail
  refine (c54 _ _ _).mono ?_; rintro e w' ⟨rfl, rfl⟩
  go_wp2
  go_ret2
  exact ⟨rfl, rfl⟩
set_option maxHeartbeats 400000 in
theorem amo_28_4 (a b : Int) (ha : 0 ≤ a) (hb : 0 ≤ b) (ha' : a < 18446744073709551616) (hb' : b < 18446744073709551616) (w : World) :
    Calls Try.prog 14 #[.int .i64 28, .int .i64 4, .int .u64 a, .int .u64 b] w fun e w' => e = .returned (.tuple #[.int .u64 (amoV 28 4 a b), .bool true]) ∧ w = w' := by
  have Hl := Lib.hid (low_any (opV 28 (s32 a) (s32 b)) (opV_nonneg _ (s32_nonneg a) (s32_nonneg b)) (opV_lt _ (s32_lt a) (s32_lt b)))
  clear ha ha' hb hb'
  go_enter Try.func14, Try.ntmps14
  go_wp2_with fail
  refine (atomic_28 _).mono ?_; rintro e w' ⟨rfl, rfl⟩
  go_wp2_with fail
  refine (sign_any _ _).mono ?_; rintro e w' ⟨rfl, rfl⟩
  go_wp2_with fail
  refine (sign_any _ _).mono ?_; rintro e w' ⟨rfl, rfl⟩
  go_wp2_with fail
  refine (c54 _ _ _).mono ?_; rintro e w' ⟨rfl, rfl⟩
  go_wp2_with fail
  refine (Hl.out _).mono ?_; rintro e w' ⟨rfl, rfl⟩
  go_wp2
  go_ret2
  exact ⟨rfl, rfl⟩
set_option maxHeartbeats 400000 in
theorem amo_28_no (size a b : Int) (h4 : size ≠ 4) (h8 : size ≠ 8) (w : World) :
    Calls Try.prog 14 #[.int .i64 28, .int .i64 size, .int .u64 a, .int .u64 b] w fun e w' => e = .returned (.tuple #[.int .u64 0, .bool false]) ∧ w = w' := by
  go_enter Try.func14, Try.ntmps14
  go_wp2_with fail
  refine (atomic_28 _).mono ?_; rintro e w' ⟨rfl, rfl⟩
  go_wp2
  go_ret2
  exact ⟨rfl, rfl⟩
set_option maxHeartbeats 400000 in
theorem amo_no (fn size a b : Int) (h0 : fn ≠ 0) (h1 : fn ≠ 1) (h4 : fn ≠ 4) (h8 : fn ≠ 8) (h12 : fn ≠ 12) (h16 : fn ≠ 16) (h20 : fn ≠ 20) (h24 : fn ≠ 24) (h28 : fn ≠ 28) (w : World) :
    Calls Try.prog 14 #[.int .i64 fn, .int .i64 size, .int .u64 a, .int .u64 b] w fun e w' => e = .returned (.tuple #[.int .u64 0, .bool false]) ∧ w = w' := by
  have Hn := Lib.hid (atomic_no fn h0 h1 h4 h8 h12 h16 h20 h24 h28)
  clear h0 h1 h4 h8 h12 h16 h20 h24 h28
  go_enter Try.func14, Try.ntmps14
  go_wp2_with fail
  refine (Hn.out _).mono ?_; rintro e w' ⟨rfl, rfl⟩
  go_wp2
  go_ret2
  exact ⟨rfl, rfl⟩

theorem amo_any (fn size a b : Int) (ha : 0 ≤ a) (hb : 0 ≤ b) (ha' : a < 18446744073709551616) (hb' : b < 18446744073709551616) (w : World) :
    Calls Try.prog 14 #[.int .i64 fn, .int .i64 size, .int .u64 a, .int .u64 b] w fun e w' => e = .returned (.tuple #[.int .u64 (amoV fn size a b), .bool (amoB fn size)]) ∧ w = w' := by
  by_cases hd : fn = 0 ∨ fn = 1 ∨ fn = 4 ∨ fn = 8 ∨ fn = 12 ∨ fn = 16 ∨ fn = 20 ∨ fn = 24 ∨ fn = 28
  · by_cases h8 : size = 8
    · subst h8
      rcases hd with rfl | rfl | rfl | rfl | rfl | rfl | rfl | rfl | rfl
      · exact amo_0_8 a b ha hb ha' hb' w
      · exact amo_1_8 a b ha hb ha' hb' w
      · exact amo_4_8 a b ha hb ha' hb' w
      · exact amo_8_8 a b ha hb ha' hb' w
      · exact amo_12_8 a b ha hb ha' hb' w
      · exact amo_16_8 a b ha hb ha' hb' w
      · exact amo_20_8 a b ha hb ha' hb' w
      · exact amo_24_8 a b ha hb ha' hb' w
      · exact amo_28_8 a b ha hb ha' hb' w
    · by_cases h4 : size = 4
      · subst h4
        rcases hd with rfl | rfl | rfl | rfl | rfl | rfl | rfl | rfl | rfl
        · exact amo_0_4 a b ha hb ha' hb' w
        · exact amo_1_4 a b ha hb ha' hb' w
        · exact amo_4_4 a b ha hb ha' hb' w
        · exact amo_8_4 a b ha hb ha' hb' w
        · exact amo_12_4 a b ha hb ha' hb' w
        · exact amo_16_4 a b ha hb ha' hb' w
        · exact amo_20_4 a b ha hb ha' hb' w
        · exact amo_24_4 a b ha hb ha' hb' w
        · exact amo_28_4 a b ha hb ha' hb' w
      · have h1 : amoV fn size a b = 0 := by simp [amoV, h4, h8]
        have h2 : amoB fn size = false := by simp [amoB, h4, h8]
        rw [h1, h2]
        rcases hd with rfl | rfl | rfl | rfl | rfl | rfl | rfl | rfl | rfl
        · exact amo_0_no size a b h4 h8 w
        · exact amo_1_no size a b h4 h8 w
        · exact amo_4_no size a b h4 h8 w
        · exact amo_8_no size a b h4 h8 w
        · exact amo_12_no size a b h4 h8 w
        · exact amo_16_no size a b h4 h8 w
        · exact amo_20_no size a b h4 h8 w
        · exact amo_24_no size a b h4 h8 w
        · exact amo_28_no size a b h4 h8 w
  · have h1 : amoV fn size a b = 0 := by unfold amoV; rw [if_neg]; simp [isAt]; omega
    have h2 : amoB fn size = false := by simp [amoB, isAt]; omega
    rw [h1, h2]
    exact amo_no fn size a b (by omega) (by omega) (by omega) (by omega) (by omega) (by omega) (by omega) (by omega) (by omega) w
end Go.Proofs.Ytbklmhpbaddbkaa
