/-
  Contracts of the document's functions of the layer muldiv: Amo.
-/
import Derived.Test.YtbklmhpbaddbkaaRows
import Derived.Test.YtbklmhpbaddbkaaW6
import Derived.Deep.QuietTactic
import Derived.BigQuiet
import Derived.WalkKit
import Derived.WalkSpells
import Derived.WalkLawsBesides
import Derived.Lib.Hide
set_option linter.unusedVariables false
set_option linter.unusedSimpArgs false
namespace Go.Proofs.Ytbklmhpbaddbkaa
open Go.RowKit

set_option maxHeartbeats 400000 in
theorem refamo_0_8 (a b : Int) (ha : 0 ≤ a) (hb : 0 ≤ b) (ha' : a < 18446744073709551616) (hb' : b < 18446744073709551616) (w : World) :
    Calls Try.prog 15 #[.int .i64 0, .int .i64 8, .int .u64 a, .int .u64 b] w fun e w' => e = .returned (.tuple #[.int .u64 (amoV 0 8 a b), .bool true]) ∧ w = w' := by
  have Hn := Lib.hid (opV_nonneg 0 ha hb)
  have hx := ha
  have hy := hb
  have hx' := ha'
  have hy' := hb'
  have Hv := Lib.hid (show opV 0 a b = opV 0 a b from rfl)
  clear ha ha' hb hb' hx hx' hy hy'
  go_enter Try.func15, Try.ntmps15
  go_wp2_with fail
  go_ret2
  refine ⟨?_, rfl⟩
  refine ret_u64b (?_ : _ = opV 0 a b) rfl
  rfl
set_option maxHeartbeats 400000 in
theorem refamo_0_4 (a b : Int) (ha : 0 ≤ a) (hb : 0 ≤ b) (ha' : a < 18446744073709551616) (hb' : b < 18446744073709551616) (w : World) :
    Calls Try.prog 15 #[.int .i64 0, .int .i64 4, .int .u64 a, .int .u64 b] w fun e w' => e = .returned (.tuple #[.int .u64 (amoV 0 4 a b), .bool true]) ∧ w = w' := by
  have Ha := Lib.hid (Sign_any a ha)
  have Hb := Lib.hid (Sign_any b hb)
  have xa := Lib.hid (s32_nonneg a)
  have xb := Lib.hid (s32_nonneg b)
  have Hn := Lib.hid (opV_nonneg 0 (s32_nonneg a) (s32_nonneg b))
  have hx := s32_nonneg a
  have hy := s32_nonneg b
  have hx' := s32_lt a
  have hy' := s32_lt b
  have Hv := Lib.hid (show opV 0 (s32 a) (s32 b) = opV 0 (s32 a) (s32 b) from rfl)
  clear ha ha' hb hb' hx hx' hy hy'
  go_enter Try.func15, Try.ntmps15
  go_wp2_with fail
  refine (Ha.out _).mono ?_; rintro e w' ⟨rfl, rfl⟩
  go_wp2_with fail
  refine (Hb.out _).mono ?_; rintro e w' ⟨rfl, rfl⟩
  go_wp2_with fail
  refine (half_any _).mono ?_; rintro e w' ⟨rfl, rfl⟩
  go_wp2_with fail
  go_ret2
  refine ⟨?_, rfl⟩
  refine ret_u64b (?_ : _ = l32 (opV 0 (s32 a) (s32 b))) rfl
  exact Int.tmod_eq_emod_of_nonneg Hn.out
set_option maxHeartbeats 400000 in
theorem refamo_1_8 (a b : Int) (ha : 0 ≤ a) (hb : 0 ≤ b) (ha' : a < 18446744073709551616) (hb' : b < 18446744073709551616) (w : World) :
    Calls Try.prog 15 #[.int .i64 1, .int .i64 8, .int .u64 a, .int .u64 b] w fun e w' => e = .returned (.tuple #[.int .u64 (amoV 1 8 a b), .bool true]) ∧ w = w' := by
  have Hn := Lib.hid (opV_nonneg 1 ha hb)
  have hx := ha
  have hy := hb
  have hx' := ha'
  have hy' := hb'
  have Hv := Lib.hid (show opV 1 a b = opV 1 a b from rfl)
  clear ha ha' hb hb' hx hx' hy hy'
  go_enter Try.func15, Try.ntmps15
  go_wp2_with fail
  go_ret2
  refine ⟨?_, rfl⟩
  refine ret_u64b (?_ : _ = opV 1 a b) rfl
  rfl
set_option maxHeartbeats 400000 in
theorem refamo_1_4 (a b : Int) (ha : 0 ≤ a) (hb : 0 ≤ b) (ha' : a < 18446744073709551616) (hb' : b < 18446744073709551616) (w : World) :
    Calls Try.prog 15 #[.int .i64 1, .int .i64 4, .int .u64 a, .int .u64 b] w fun e w' => e = .returned (.tuple #[.int .u64 (amoV 1 4 a b), .bool true]) ∧ w = w' := by
  have Ha := Lib.hid (Sign_any a ha)
  have Hb := Lib.hid (Sign_any b hb)
  have xa := Lib.hid (s32_nonneg a)
  have xb := Lib.hid (s32_nonneg b)
  have Hn := Lib.hid (opV_nonneg 1 (s32_nonneg a) (s32_nonneg b))
  have hx := s32_nonneg a
  have hy := s32_nonneg b
  have hx' := s32_lt a
  have hy' := s32_lt b
  have Hv := Lib.hid (show opV 1 (s32 a) (s32 b) = opV 1 (s32 a) (s32 b) from rfl)
  clear ha ha' hb hb' hx hx' hy hy'
  go_enter Try.func15, Try.ntmps15
  go_wp2_with fail
  refine (Ha.out _).mono ?_; rintro e w' ⟨rfl, rfl⟩
  go_wp2_with fail
  refine (Hb.out _).mono ?_; rintro e w' ⟨rfl, rfl⟩
  go_wp2_with fail
  refine (half_any _).mono ?_; rintro e w' ⟨rfl, rfl⟩
  go_wp2_with fail
  go_ret2
  refine ⟨?_, rfl⟩
  refine ret_u64b (?_ : _ = l32 (opV 1 (s32 a) (s32 b))) rfl
  exact Int.tmod_eq_emod_of_nonneg Hn.out
set_option maxHeartbeats 400000 in
theorem refamo_4_8 (a b : Int) (ha : 0 ≤ a) (hb : 0 ≤ b) (ha' : a < 18446744073709551616) (hb' : b < 18446744073709551616) (w : World) :
    Calls Try.prog 15 #[.int .i64 4, .int .i64 8, .int .u64 a, .int .u64 b] w fun e w' => e = .returned (.tuple #[.int .u64 (amoV 4 8 a b), .bool true]) ∧ w = w' := by
  have Hn := Lib.hid (opV_nonneg 4 ha hb)
  have hx := ha
  have hy := hb
  have hx' := ha'
  have hy' := hb'
  have Hv := Lib.hid (show opV 4 a b = opV 4 a b from rfl)
  clear ha ha' hb hb' hx hx' hy hy'
  go_enter Try.func15, Try.ntmps15
  go_wp2_with fail
  go_ret2
  refine ⟨?_, rfl⟩
  refine ret_u64b (?_ : _ = opV 4 a b) rfl
  rfl
set_option maxHeartbeats 400000 in
theorem refamo_4_4 (a b : Int) (ha : 0 ≤ a) (hb : 0 ≤ b) (ha' : a < 18446744073709551616) (hb' : b < 18446744073709551616) (w : World) :
    Calls Try.prog 15 #[.int .i64 4, .int .i64 4, .int .u64 a, .int .u64 b] w fun e w' => e = .returned (.tuple #[.int .u64 (amoV 4 4 a b), .bool true]) ∧ w = w' := by
  have Ha := Lib.hid (Sign_any a ha)
  have Hb := Lib.hid (Sign_any b hb)
  have xa := Lib.hid (s32_nonneg a)
  have xb := Lib.hid (s32_nonneg b)
  have Hn := Lib.hid (opV_nonneg 4 (s32_nonneg a) (s32_nonneg b))
  have hx := s32_nonneg a
  have hy := s32_nonneg b
  have hx' := s32_lt a
  have hy' := s32_lt b
  have Hv := Lib.hid (show opV 4 (s32 a) (s32 b) = opV 4 (s32 a) (s32 b) from rfl)
  clear ha ha' hb hb' hx hx' hy hy'
  go_enter Try.func15, Try.ntmps15
  go_wp2_with fail
  refine (Ha.out _).mono ?_; rintro e w' ⟨rfl, rfl⟩
  go_wp2_with fail
  refine (Hb.out _).mono ?_; rintro e w' ⟨rfl, rfl⟩
  go_wp2_with fail
  refine (half_any _).mono ?_; rintro e w' ⟨rfl, rfl⟩
  go_wp2_with fail
  go_ret2
  refine ⟨?_, rfl⟩
  refine ret_u64b (?_ : _ = l32 (opV 4 (s32 a) (s32 b))) rfl
  exact Int.tmod_eq_emod_of_nonneg Hn.out
set_option maxHeartbeats 400000 in
theorem refamo_8_8 (a b : Int) (ha : 0 ≤ a) (hb : 0 ≤ b) (ha' : a < 18446744073709551616) (hb' : b < 18446744073709551616) (w : World) :
    Calls Try.prog 15 #[.int .i64 8, .int .i64 8, .int .u64 a, .int .u64 b] w fun e w' => e = .returned (.tuple #[.int .u64 (amoV 8 8 a b), .bool true]) ∧ w = w' := by
  have Hn := Lib.hid (opV_nonneg 8 ha hb)
  have hx := ha
  have hy := hb
  have hx' := ha'
  have hy' := hb'
  have Hv := Lib.hid (show opV 8 a b = opV 8 a b from rfl)
  clear ha ha' hb hb' hx hx' hy hy'
  go_enter Try.func15, Try.ntmps15
  go_wp2_with fail
  go_ret2
  refine ⟨?_, rfl⟩
  refine ret_u64b (?_ : _ = opV 8 a b) rfl
  rfl
set_option maxHeartbeats 400000 in
theorem refamo_8_4 (a b : Int) (ha : 0 ≤ a) (hb : 0 ≤ b) (ha' : a < 18446744073709551616) (hb' : b < 18446744073709551616) (w : World) :
    Calls Try.prog 15 #[.int .i64 8, .int .i64 4, .int .u64 a, .int .u64 b] w fun e w' => e = .returned (.tuple #[.int .u64 (amoV 8 4 a b), .bool true]) ∧ w = w' := by
  have Ha := Lib.hid (Sign_any a ha)
  have Hb := Lib.hid (Sign_any b hb)
  have xa := Lib.hid (s32_nonneg a)
  have xb := Lib.hid (s32_nonneg b)
  have Hn := Lib.hid (opV_nonneg 8 (s32_nonneg a) (s32_nonneg b))
  have hx := s32_nonneg a
  have hy := s32_nonneg b
  have hx' := s32_lt a
  have hy' := s32_lt b
  have Hv := Lib.hid (show opV 8 (s32 a) (s32 b) = opV 8 (s32 a) (s32 b) from rfl)
  clear ha ha' hb hb' hx hx' hy hy'
  go_enter Try.func15, Try.ntmps15
  go_wp2_with fail
  refine (Ha.out _).mono ?_; rintro e w' ⟨rfl, rfl⟩
  go_wp2_with fail
  refine (Hb.out _).mono ?_; rintro e w' ⟨rfl, rfl⟩
  go_wp2_with fail
  refine (half_any _).mono ?_; rintro e w' ⟨rfl, rfl⟩
  go_wp2_with fail
  go_ret2
  refine ⟨?_, rfl⟩
  refine ret_u64b (?_ : _ = l32 (opV 8 (s32 a) (s32 b))) rfl
  exact Int.tmod_eq_emod_of_nonneg Hn.out
set_option maxHeartbeats 400000 in
theorem refamo_12_8 (a b : Int) (ha : 0 ≤ a) (hb : 0 ≤ b) (ha' : a < 18446744073709551616) (hb' : b < 18446744073709551616) (w : World) :
    Calls Try.prog 15 #[.int .i64 12, .int .i64 8, .int .u64 a, .int .u64 b] w fun e w' => e = .returned (.tuple #[.int .u64 (amoV 12 8 a b), .bool true]) ∧ w = w' := by
  have Hn := Lib.hid (opV_nonneg 12 ha hb)
  have hx := ha
  have hy := hb
  have hx' := ha'
  have hy' := hb'
  have Hv := Lib.hid (show opV 12 a b = opV 12 a b from rfl)
  clear ha ha' hb hb' hx hx' hy hy'
  go_enter Try.func15, Try.ntmps15
  go_wp2_with fail
  go_ret2
  refine ⟨?_, rfl⟩
  refine ret_u64b (?_ : _ = opV 12 a b) rfl
  rfl
set_option maxHeartbeats 400000 in
theorem refamo_12_4 (a b : Int) (ha : 0 ≤ a) (hb : 0 ≤ b) (ha' : a < 18446744073709551616) (hb' : b < 18446744073709551616) (w : World) :
    Calls Try.prog 15 #[.int .i64 12, .int .i64 4, .int .u64 a, .int .u64 b] w fun e w' => e = .returned (.tuple #[.int .u64 (amoV 12 4 a b), .bool true]) ∧ w = w' := by
  have Ha := Lib.hid (Sign_any a ha)
  have Hb := Lib.hid (Sign_any b hb)
  have xa := Lib.hid (s32_nonneg a)
  have xb := Lib.hid (s32_nonneg b)
  have Hn := Lib.hid (opV_nonneg 12 (s32_nonneg a) (s32_nonneg b))
  have hx := s32_nonneg a
  have hy := s32_nonneg b
  have hx' := s32_lt a
  have hy' := s32_lt b
  have Hv := Lib.hid (show opV 12 (s32 a) (s32 b) = opV 12 (s32 a) (s32 b) from rfl)
  clear ha ha' hb hb' hx hx' hy hy'
  go_enter Try.func15, Try.ntmps15
  go_wp2_with fail
  refine (Ha.out _).mono ?_; rintro e w' ⟨rfl, rfl⟩
  go_wp2_with fail
  refine (Hb.out _).mono ?_; rintro e w' ⟨rfl, rfl⟩
  go_wp2_with fail
  refine (half_any _).mono ?_; rintro e w' ⟨rfl, rfl⟩
  go_wp2_with fail
  go_ret2
  refine ⟨?_, rfl⟩
  refine ret_u64b (?_ : _ = l32 (opV 12 (s32 a) (s32 b))) rfl
  exact Int.tmod_eq_emod_of_nonneg Hn.out
set_option maxHeartbeats 400000 in
theorem refamo_16_8 (a b : Int) (ha : 0 ≤ a) (hb : 0 ≤ b) (ha' : a < 18446744073709551616) (hb' : b < 18446744073709551616) (w : World) :
    Calls Try.prog 15 #[.int .i64 16, .int .i64 8, .int .u64 a, .int .u64 b] w fun e w' => e = .returned (.tuple #[.int .u64 (amoV 16 8 a b), .bool true]) ∧ w = w' := by
  have Hn := Lib.hid (opV_nonneg 16 ha hb)
  have hx := ha
  have hy := hb
  have hx' := ha'
  have hy' := hb'
  have Hl := Lib.hid (less27 b a)
  have Hv := Lib.hid (less_16 hx hy hx' hy')
  clear ha ha' hb hb' hx hx' hy hy'
  generalize lessV b a = t at *
  cases t
  all_goals
    go_enter Try.func15, Try.ntmps15
    go_wp2_with fail
    refine (Hl.out _).mono ?_; rintro e w' ⟨rfl, rfl⟩
    go_wp2_with fail
    go_ret2
    refine ⟨?_, rfl⟩
    refine ret_u64b (?_ : _ = opV 16 a b) rfl
    rw [← Hv.out]; rfl
set_option maxHeartbeats 400000 in
theorem refamo_16_4 (a b : Int) (ha : 0 ≤ a) (hb : 0 ≤ b) (ha' : a < 18446744073709551616) (hb' : b < 18446744073709551616) (w : World) :
    Calls Try.prog 15 #[.int .i64 16, .int .i64 4, .int .u64 a, .int .u64 b] w fun e w' => e = .returned (.tuple #[.int .u64 (amoV 16 4 a b), .bool true]) ∧ w = w' := by
  have Ha := Lib.hid (Sign_any a ha)
  have Hb := Lib.hid (Sign_any b hb)
  have xa := Lib.hid (s32_nonneg a)
  have xb := Lib.hid (s32_nonneg b)
  have Hn := Lib.hid (opV_nonneg 16 (s32_nonneg a) (s32_nonneg b))
  have hx := s32_nonneg a
  have hy := s32_nonneg b
  have hx' := s32_lt a
  have hy' := s32_lt b
  have Hl := Lib.hid (less27 (s32 b) (s32 a))
  have Hv := Lib.hid (less_16 hx hy hx' hy')
  clear ha ha' hb hb' hx hx' hy hy'
  generalize lessV (s32 b) (s32 a) = t at *
  cases t
  all_goals
    go_enter Try.func15, Try.ntmps15
    go_wp2_with fail
    refine (Ha.out _).mono ?_; rintro e w' ⟨rfl, rfl⟩
    go_wp2_with fail
    refine (Hb.out _).mono ?_; rintro e w' ⟨rfl, rfl⟩
    go_wp2_with fail
    refine (Hl.out _).mono ?_; rintro e w' ⟨rfl, rfl⟩
    go_wp2_with fail
    refine (half_any _).mono ?_; rintro e w' ⟨rfl, rfl⟩
    go_wp2_with fail
    go_ret2
    refine ⟨?_, rfl⟩
    refine ret_u64b (?_ : _ = l32 (opV 16 (s32 a) (s32 b))) rfl
    rw [← Hv.out]
    first | exact Int.tmod_eq_emod_of_nonneg xb.out | exact Int.tmod_eq_emod_of_nonneg xa.out
set_option maxHeartbeats 400000 in
theorem refamo_20_8 (a b : Int) (ha : 0 ≤ a) (hb : 0 ≤ b) (ha' : a < 18446744073709551616) (hb' : b < 18446744073709551616) (w : World) :
    Calls Try.prog 15 #[.int .i64 20, .int .i64 8, .int .u64 a, .int .u64 b] w fun e w' => e = .returned (.tuple #[.int .u64 (amoV 20 8 a b), .bool true]) ∧ w = w' := by
  have Hn := Lib.hid (opV_nonneg 20 ha hb)
  have hx := ha
  have hy := hb
  have hx' := ha'
  have hy' := hb'
  have Hl := Lib.hid (less27 b a)
  have Hv := Lib.hid (less_20 hx hy hx' hy')
  clear ha ha' hb hb' hx hx' hy hy'
  generalize lessV b a = t at *
  cases t
  all_goals
    go_enter Try.func15, Try.ntmps15
    go_wp2_with fail
    refine (Hl.out _).mono ?_; rintro e w' ⟨rfl, rfl⟩
    go_wp2_with fail
    go_ret2
    refine ⟨?_, rfl⟩
    refine ret_u64b (?_ : _ = opV 20 a b) rfl
    rw [← Hv.out]; rfl
set_option maxHeartbeats 400000 in
theorem refamo_20_4 (a b : Int) (ha : 0 ≤ a) (hb : 0 ≤ b) (ha' : a < 18446744073709551616) (hb' : b < 18446744073709551616) (w : World) :
    Calls Try.prog 15 #[.int .i64 20, .int .i64 4, .int .u64 a, .int .u64 b] w fun e w' => e = .returned (.tuple #[.int .u64 (amoV 20 4 a b), .bool true]) ∧ w = w' := by
  have Ha := Lib.hid (Sign_any a ha)
  have Hb := Lib.hid (Sign_any b hb)
  have xa := Lib.hid (s32_nonneg a)
  have xb := Lib.hid (s32_nonneg b)
  have Hn := Lib.hid (opV_nonneg 20 (s32_nonneg a) (s32_nonneg b))
  have hx := s32_nonneg a
  have hy := s32_nonneg b
  have hx' := s32_lt a
  have hy' := s32_lt b
  have Hl := Lib.hid (less27 (s32 b) (s32 a))
  have Hv := Lib.hid (less_20 hx hy hx' hy')
  clear ha ha' hb hb' hx hx' hy hy'
  generalize lessV (s32 b) (s32 a) = t at *
  cases t
  all_goals
    go_enter Try.func15, Try.ntmps15
    go_wp2_with fail
    refine (Ha.out _).mono ?_; rintro e w' ⟨rfl, rfl⟩
    go_wp2_with fail
    refine (Hb.out _).mono ?_; rintro e w' ⟨rfl, rfl⟩
    go_wp2_with fail
    refine (Hl.out _).mono ?_; rintro e w' ⟨rfl, rfl⟩
    go_wp2_with fail
    refine (half_any _).mono ?_; rintro e w' ⟨rfl, rfl⟩
    go_wp2_with fail
    go_ret2
    refine ⟨?_, rfl⟩
    refine ret_u64b (?_ : _ = l32 (opV 20 (s32 a) (s32 b))) rfl
    rw [← Hv.out]
    first | exact Int.tmod_eq_emod_of_nonneg xb.out | exact Int.tmod_eq_emod_of_nonneg xa.out
set_option maxHeartbeats 400000 in
theorem refamo_24_8 (a b : Int) (ha : 0 ≤ a) (hb : 0 ≤ b) (ha' : a < 18446744073709551616) (hb' : b < 18446744073709551616) (w : World) :
    Calls Try.prog 15 #[.int .i64 24, .int .i64 8, .int .u64 a, .int .u64 b] w fun e w' => e = .returned (.tuple #[.int .u64 (amoV 24 8 a b), .bool true]) ∧ w = w' := by
  have Hn := Lib.hid (opV_nonneg 24 ha hb)
  have hx := ha
  have hy := hb
  have hx' := ha'
  have hy' := hb'
  have Hv := Lib.hid (show opV 24 a b = opV 24 a b from rfl)
  clear ha ha' hb hb' hx hx' hy hy'
  cases hlt : decide (b < a)
  all_goals
    go_enter Try.func15, Try.ntmps15
    go_wp2_with fail
    go_ret2
    refine ⟨?_, rfl⟩
    refine ret_u64b (?_ : _ = opV 24 a b) rfl
    simp at hlt; unfold opV; simp; (try (repeat' split)) <;> omega
set_option maxHeartbeats 400000 in
theorem refamo_24_4 (a b : Int) (ha : 0 ≤ a) (hb : 0 ≤ b) (ha' : a < 18446744073709551616) (hb' : b < 18446744073709551616) (w : World) :
    Calls Try.prog 15 #[.int .i64 24, .int .i64 4, .int .u64 a, .int .u64 b] w fun e w' => e = .returned (.tuple #[.int .u64 (amoV 24 4 a b), .bool true]) ∧ w = w' := by
  have Ha := Lib.hid (Sign_any a ha)
  have Hb := Lib.hid (Sign_any b hb)
  have xa := Lib.hid (s32_nonneg a)
  have xb := Lib.hid (s32_nonneg b)
  have Hn := Lib.hid (opV_nonneg 24 (s32_nonneg a) (s32_nonneg b))
  have hx := s32_nonneg a
  have hy := s32_nonneg b
  have hx' := s32_lt a
  have hy' := s32_lt b
  have Hv := Lib.hid (show opV 24 (s32 a) (s32 b) = opV 24 (s32 a) (s32 b) from rfl)
  clear ha ha' hb hb' hx hx' hy hy'
  cases hlt : decide ((s32 b) < (s32 a))
  all_goals
    go_enter Try.func15, Try.ntmps15
    go_wp2_with fail
    refine (Ha.out _).mono ?_; rintro e w' ⟨rfl, rfl⟩
    go_wp2_with fail
    refine (Hb.out _).mono ?_; rintro e w' ⟨rfl, rfl⟩
    go_wp2_with fail
    refine (half_any _).mono ?_; rintro e w' ⟨rfl, rfl⟩
    go_wp2_with fail
    go_ret2
    refine ⟨?_, rfl⟩
    refine ret_u64b (?_ : _ = l32 (opV 24 (s32 a) (s32 b))) rfl
    first | (rw [Int.tmod_eq_emod_of_nonneg xb.out]) | (rw [Int.tmod_eq_emod_of_nonneg xa.out])
    simp at hlt; unfold opV l32; simp; (try (repeat' split)) <;> first | rfl | omega
set_option maxHeartbeats 400000 in
theorem refamo_28_8 (a b : Int) (ha : 0 ≤ a) (hb : 0 ≤ b) (ha' : a < 18446744073709551616) (hb' : b < 18446744073709551616) (w : World) :
    Calls Try.prog 15 #[.int .i64 28, .int .i64 8, .int .u64 a, .int .u64 b] w fun e w' => e = .returned (.tuple #[.int .u64 (amoV 28 8 a b), .bool true]) ∧ w = w' := by
  have Hn := Lib.hid (opV_nonneg 28 ha hb)
  have hx := ha
  have hy := hb
  have hx' := ha'
  have hy' := hb'
  have Hv := Lib.hid (show opV 28 a b = opV 28 a b from rfl)
  clear ha ha' hb hb' hx hx' hy hy'
  cases hlt : decide (b < a)
  all_goals
    go_enter Try.func15, Try.ntmps15
    go_wp2_with fail
    go_ret2
    refine ⟨?_, rfl⟩
    refine ret_u64b (?_ : _ = opV 28 a b) rfl
    simp at hlt; unfold opV; simp; (try (repeat' split)) <;> omega
set_option maxHeartbeats 400000 in
theorem refamo_28_4 (a b : Int) (ha : 0 ≤ a) (hb : 0 ≤ b) (ha' : a < 18446744073709551616) (hb' : b < 18446744073709551616) (w : World) :
    Calls Try.prog 15 #[.int .i64 28, .int .i64 4, .int .u64 a, .int .u64 b] w fun e w' => e = .returned (.tuple #[.int .u64 (amoV 28 4 a b), .bool true]) ∧ w = w' := by
  have Ha := Lib.hid (Sign_any a ha)
  have Hb := Lib.hid (Sign_any b hb)
  have xa := Lib.hid (s32_nonneg a)
  have xb := Lib.hid (s32_nonneg b)
  have Hn := Lib.hid (opV_nonneg 28 (s32_nonneg a) (s32_nonneg b))
  have hx := s32_nonneg a
  have hy := s32_nonneg b
  have hx' := s32_lt a
  have hy' := s32_lt b
  have Hv := Lib.hid (show opV 28 (s32 a) (s32 b) = opV 28 (s32 a) (s32 b) from rfl)
  clear ha ha' hb hb' hx hx' hy hy'
  cases hlt : decide ((s32 b) < (s32 a))
  all_goals
    go_enter Try.func15, Try.ntmps15
    go_wp2_with fail
    refine (Ha.out _).mono ?_; rintro e w' ⟨rfl, rfl⟩
    go_wp2_with fail
    refine (Hb.out _).mono ?_; rintro e w' ⟨rfl, rfl⟩
    go_wp2_with fail
    refine (half_any _).mono ?_; rintro e w' ⟨rfl, rfl⟩
    go_wp2_with fail
    go_ret2
    refine ⟨?_, rfl⟩
    refine ret_u64b (?_ : _ = l32 (opV 28 (s32 a) (s32 b))) rfl
    first | (rw [Int.tmod_eq_emod_of_nonneg xb.out]) | (rw [Int.tmod_eq_emod_of_nonneg xa.out])
    simp at hlt; unfold opV l32; simp; (try (repeat' split)) <;> first | rfl | omega
end Go.Proofs.Ytbklmhpbaddbkaa
