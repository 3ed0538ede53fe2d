/-
  Contracts of the program's functions of the layer muldiv: Do and Amo.
-/
import Derived.Test.YtbklmhpbaddbkaaRows
import Derived.Test.YtbklmhpbaddbkaaW1
import Derived.WalkKit
import Derived.WalkSpells
import Derived.WalkLawsBesides
import Derived.Lib.Hide
set_option linter.unusedVariables false
set_option linter.unusedSimpArgs false
namespace Go.Proofs.Ytbklmhpbaddbkaa
open Go.RowKit

set_option maxHeartbeats 400000 in
theorem sign_any (a : Int) (w : World) : Calls Try.prog 21 #[.int .u64 a] w fun e w' => e = .returned (.int .u64 (s32 a)) ∧ w = w' := by
  go_enter Try.func21, Try.ntmps21
  go_wp2
  go_ret
  exact ⟨rfl, rfl⟩
set_option maxHeartbeats 400000 in
theorem low_any (a : Int) (ha : 0 ≤ a) (ha' : a < 18446744073709551616) (w : World) : Calls Try.prog 26 #[.int .u64 a] w fun e w' => e = .returned (.int .u64 (l32 a)) ∧ w = w' := by
  have hl := Lib.hid (and_l32 ha ha')
  clear ha ha'
  go_enter Try.func26, Try.ntmps26
  go_wp2
  go_ret
  exact ⟨ret_u64 hl.out, rfl⟩
set_option maxHeartbeats 400000 in
theorem c38 (a b : Int) (ha : 0 ≤ a) (hb : 0 ≤ b) (ha' : a < 18446744073709551616) (hb' : b < 18446744073709551616) (w : World) :
    Calls Try.prog 38 #[.int .u64 a, .int .u64 b] w fun e w' => e = .returned (.int .u64 (uw (a * b))) ∧ w = w' := by
  clear ha ha' hb hb'
  go_enter Try.func38, Try.ntmps38
  go_wp2
  all_goals go_ret
  all_goals (exact ⟨rfl, rfl⟩)
set_option maxHeartbeats 400000 in
theorem c39 (a b : Int) (ha : 0 ≤ a) (hb : 0 ≤ b) (ha' : a < 18446744073709551616) (hb' : b < 18446744073709551616) (w : World) :
    Calls Try.prog 39 #[.int .u64 a, .int .u64 b] w fun e w' => e = .returned (.int .u64 (divV (s32 a) (s32 b))) ∧ w = w' := by
  have Hc := Lib.hid (c34 (s32 a) (s32 b) (s32_nonneg a) (s32_nonneg b) (s32_lt a) (s32_lt b))
  clear ha ha' hb hb'
  go_enter Try.func39, Try.ntmps39
  go_wp2_with (first | (go_at_call 21; refine (sign_any _ _).mono ?_; rintro e w' ⟨rfl, rfl⟩) | (go_at_call 34; refine (Hc.out _).mono ?_; rintro e w' ⟨rfl, rfl⟩))
  all_goals go_ret
  all_goals (exact ⟨rfl, rfl⟩)
set_option maxHeartbeats 400000 in
theorem c41 (a b : Int) (ha : 0 ≤ a) (hb : 0 ≤ b) (ha' : a < 18446744073709551616) (hb' : b < 18446744073709551616) (w : World) :
    Calls Try.prog 41 #[.int .u64 a, .int .u64 b] w fun e w' => e = .returned (.int .u64 (remV (s32 a) (s32 b))) ∧ w = w' := by
  have Hc := Lib.hid (c36 (s32 a) (s32 b) (s32_nonneg a) (s32_nonneg b) (s32_lt a) (s32_lt b))
  clear ha ha' hb hb'
  go_enter Try.func41, Try.ntmps41
  go_wp2_with (first | (go_at_call 21; refine (sign_any _ _).mono ?_; rintro e w' ⟨rfl, rfl⟩) | (go_at_call 36; refine (Hc.out _).mono ?_; rintro e w' ⟨rfl, rfl⟩))
  all_goals go_ret
  all_goals (exact ⟨rfl, rfl⟩)
set_option maxHeartbeats 400000 in
theorem c40 (a b : Int) (ha : 0 ≤ a) (hb : 0 ≤ b) (ha' : a < 18446744073709551616) (hb' : b < 18446744073709551616) (w : World) :
    Calls Try.prog 40 #[.int .u64 a, .int .u64 b] w fun e w' => e = .returned (.int .u64 (divuV (l32 a) (l32 b))) ∧ w = w' := by
  have Hc := Lib.hid (c35 (l32 a) (l32 b) (l32_nonneg a) (l32_nonneg b) (l32_lt a) (l32_lt b))
  have Hl := Lib.hid (low_any a ha ha')
  have Hm := Lib.hid (low_any b hb hb')
  clear ha ha' hb hb'
  go_enter Try.func40, Try.ntmps40
  go_wp2_with fail
  refine (Hl.out _).mono ?_; rintro e w' ⟨rfl, rfl⟩
  go_wp2_with fail
  refine (Hm.out _).mono ?_; rintro e w' ⟨rfl, rfl⟩
  go_wp2_with fail
  refine (Hc.out _).mono ?_; rintro e w' ⟨rfl, rfl⟩
  go_wp2
  all_goals go_ret
  all_goals (exact ⟨rfl, rfl⟩)
set_option maxHeartbeats 400000 in
theorem c42 (a b : Int) (ha : 0 ≤ a) (hb : 0 ≤ b) (ha' : a < 18446744073709551616) (hb' : b < 18446744073709551616) (w : World) :
    Calls Try.prog 42 #[.int .u64 a, .int .u64 b] w fun e w' => e = .returned (.int .u64 (remuV (l32 a) (l32 b))) ∧ w = w' := by
  have Hc := Lib.hid (c37 (l32 a) (l32 b) (l32_nonneg a) (l32_nonneg b) (l32_lt a) (l32_lt b))
  have Hl := Lib.hid (low_any a ha ha')
  have Hm := Lib.hid (low_any b hb hb')
  clear ha ha' hb hb'
  go_enter Try.func42, Try.ntmps42
  go_wp2_with fail
  refine (Hl.out _).mono ?_; rintro e w' ⟨rfl, rfl⟩
  go_wp2_with fail
  refine (Hm.out _).mono ?_; rintro e w' ⟨rfl, rfl⟩
  go_wp2_with fail
  refine (Hc.out _).mono ?_; rintro e w' ⟨rfl, rfl⟩
  go_wp2
  all_goals go_ret
  all_goals (exact ⟨rfl, rfl⟩)
set_option maxHeartbeats 400000 in
theorem wide_0 (w : World) : Calls Try.prog 19 #[.int .i64 0] w fun e w' => e = .returned (.tuple #[.func (.func 28) #[] #[], .bool true]) ∧ w = w' := by
  go_enter Try.func19, Try.ntmps19
  go_wp2
  go_ret2
  exact ⟨rfl, rfl⟩
set_option maxHeartbeats 400000 in
theorem wide_1 (w : World) : Calls Try.prog 19 #[.int .i64 1] w fun e w' => e = .returned (.tuple #[.func (.func 29) #[] #[], .bool true]) ∧ w = w' := by
  go_enter Try.func19, Try.ntmps19
  go_wp2
  go_ret2
  exact ⟨rfl, rfl⟩
set_option maxHeartbeats 400000 in
theorem wide_2 (w : World) : Calls Try.prog 19 #[.int .i64 2] w fun e w' => e = .returned (.tuple #[.func (.func 31) #[] #[], .bool true]) ∧ w = w' := by
  go_enter Try.func19, Try.ntmps19
  go_wp2
  go_ret2
  exact ⟨rfl, rfl⟩
set_option maxHeartbeats 400000 in
theorem wide_3 (w : World) : Calls Try.prog 19 #[.int .i64 3] w fun e w' => e = .returned (.tuple #[.func (.func 32) #[] #[], .bool true]) ∧ w = w' := by
  go_enter Try.func19, Try.ntmps19
  go_wp2
  go_ret2
  exact ⟨rfl, rfl⟩
set_option maxHeartbeats 400000 in
theorem wide_4 (w : World) : Calls Try.prog 19 #[.int .i64 4] w fun e w' => e = .returned (.tuple #[.func (.func 34) #[] #[], .bool true]) ∧ w = w' := by
  go_enter Try.func19, Try.ntmps19
  go_wp2
  go_ret2
  exact ⟨rfl, rfl⟩
set_option maxHeartbeats 400000 in
theorem wide_5 (w : World) : Calls Try.prog 19 #[.int .i64 5] w fun e w' => e = .returned (.tuple #[.func (.func 35) #[] #[], .bool true]) ∧ w = w' := by
  go_enter Try.func19, Try.ntmps19
  go_wp2
  go_ret2
  exact ⟨rfl, rfl⟩
set_option maxHeartbeats 400000 in
theorem wide_6 (w : World) : Calls Try.prog 19 #[.int .i64 6] w fun e w' => e = .returned (.tuple #[.func (.func 36) #[] #[], .bool true]) ∧ w = w' := by
  go_enter Try.func19, Try.ntmps19
  go_wp2
  go_ret2
  exact ⟨rfl, rfl⟩
set_option maxHeartbeats 400000 in
theorem wide_7 (w : World) : Calls Try.prog 19 #[.int .i64 7] w fun e w' => e = .returned (.tuple #[.func (.func 37) #[] #[], .bool true]) ∧ w = w' := by
  go_enter Try.func19, Try.ntmps19
  go_wp2
  go_ret2
  exact ⟨rfl, rfl⟩
set_option maxHeartbeats 400000 in
theorem wide_no (fn : Int) (h0 : fn ≠ 0) (h1 : fn ≠ 1) (h2 : fn ≠ 2) (h3 : fn ≠ 3) (h4 : fn ≠ 4) (h5 : fn ≠ 5) (h6 : fn ≠ 6) (h7 : fn ≠ 7) (w : World) : Calls Try.prog 19 #[.int .i64 fn] w fun e w' => e = .returned (.tuple #[.nilFunc, .bool false]) ∧ w = w' := by
  go_enter Try.func19, Try.ntmps19
  go_wp2
  go_ret2
  exact ⟨rfl, rfl⟩
set_option maxHeartbeats 400000 in
theorem word_0 (w : World) : Calls Try.prog 20 #[.int .i64 0] w fun e w' => e = .returned (.tuple #[.func (.func 38) #[] #[], .bool true]) ∧ w = w' := by
  go_enter Try.func20, Try.ntmps20
  go_wp2
  go_ret2
  exact ⟨rfl, rfl⟩
set_option maxHeartbeats 400000 in
theorem word_4 (w : World) : Calls Try.prog 20 #[.int .i64 4] w fun e w' => e = .returned (.tuple #[.func (.func 39) #[] #[], .bool true]) ∧ w = w' := by
  go_enter Try.func20, Try.ntmps20
  go_wp2
  go_ret2
  exact ⟨rfl, rfl⟩
set_option maxHeartbeats 400000 in
theorem word_5 (w : World) : Calls Try.prog 20 #[.int .i64 5] w fun e w' => e = .returned (.tuple #[.func (.func 40) #[] #[], .bool true]) ∧ w = w' := by
  go_enter Try.func20, Try.ntmps20
  go_wp2
  go_ret2
  exact ⟨rfl, rfl⟩
set_option maxHeartbeats 400000 in
theorem word_6 (w : World) : Calls Try.prog 20 #[.int .i64 6] w fun e w' => e = .returned (.tuple #[.func (.func 41) #[] #[], .bool true]) ∧ w = w' := by
  go_enter Try.func20, Try.ntmps20
  go_wp2
  go_ret2
  exact ⟨rfl, rfl⟩
set_option maxHeartbeats 400000 in
theorem word_7 (w : World) : Calls Try.prog 20 #[.int .i64 7] w fun e w' => e = .returned (.tuple #[.func (.func 42) #[] #[], .bool true]) ∧ w = w' := by
  go_enter Try.func20, Try.ntmps20
  go_wp2
  go_ret2
  exact ⟨rfl, rfl⟩
set_option maxHeartbeats 400000 in
theorem word_no (fn : Int) (h0 : fn ≠ 0) (h4 : fn ≠ 4) (h5 : fn ≠ 5) (h6 : fn ≠ 6) (h7 : fn ≠ 7) (w : World) : Calls Try.prog 20 #[.int .i64 fn] w fun e w' => e = .returned (.tuple #[.nilFunc, .bool false]) ∧ w = w' := by
  go_enter Try.func20, Try.ntmps20
  go_wp2
  go_ret2
  exact ⟨rfl, rfl⟩
set_option maxHeartbeats 400000 in
theorem atomic_0 (w : World) : Calls Try.prog 25 #[.int .i64 0] w fun e w' => e = .returned (.tuple #[.func (.func 46) #[] #[], .bool true]) ∧ w = w' := by
  go_enter Try.func25, Try.ntmps25
  go_wp2
  go_ret2
  exact ⟨rfl, rfl⟩
set_option maxHeartbeats 400000 in
theorem atomic_1 (w : World) : Calls Try.prog 25 #[.int .i64 1] w fun e w' => e = .returned (.tuple #[.func (.func 47) #[] #[], .bool true]) ∧ w = w' := by
  go_enter Try.func25, Try.ntmps25
  go_wp2
  go_ret2
  exact ⟨rfl, rfl⟩
set_option maxHeartbeats 400000 in
theorem atomic_4 (w : World) : Calls Try.prog 25 #[.int .i64 4] w fun e w' => e = .returned (.tuple #[.func (.func 48) #[] #[], .bool true]) ∧ w = w' := by
  go_enter Try.func25, Try.ntmps25
  go_wp2
  go_ret2
  exact ⟨rfl, rfl⟩
set_option maxHeartbeats 400000 in
theorem atomic_8 (w : World) : Calls Try.prog 25 #[.int .i64 8] w fun e w' => e = .returned (.tuple #[.func (.func 49) #[] #[], .bool true]) ∧ w = w' := by
  go_enter Try.func25, Try.ntmps25
  go_wp2
  go_ret2
  exact ⟨rfl, rfl⟩
set_option maxHeartbeats 400000 in
theorem atomic_12 (w : World) : Calls Try.prog 25 #[.int .i64 12] w fun e w' => e = .returned (.tuple #[.func (.func 50) #[] #[], .bool true]) ∧ w = w' := by
  go_enter Try.func25, Try.ntmps25
  go_wp2
  go_ret2
  exact ⟨rfl, rfl⟩
set_option maxHeartbeats 400000 in
theorem atomic_16 (w : World) : Calls Try.prog 25 #[.int .i64 16] w fun e w' => e = .returned (.tuple #[.func (.func 51) #[] #[], .bool true]) ∧ w = w' := by
  go_enter Try.func25, Try.ntmps25
  go_wp2
  go_ret2
  exact ⟨rfl, rfl⟩
set_option maxHeartbeats 400000 in
theorem atomic_20 (w : World) : Calls Try.prog 25 #[.int .i64 20] w fun e w' => e = .returned (.tuple #[.func (.func 52) #[] #[], .bool true]) ∧ w = w' := by
  go_enter Try.func25, Try.ntmps25
  go_wp2
  go_ret2
  exact ⟨rfl, rfl⟩
set_option maxHeartbeats 400000 in
theorem atomic_24 (w : World) : Calls Try.prog 25 #[.int .i64 24] w fun e w' => e = .returned (.tuple #[.func (.func 53) #[] #[], .bool true]) ∧ w = w' := by
  go_enter Try.func25, Try.ntmps25
  go_wp2
  go_ret2
  exact ⟨rfl, rfl⟩
set_option maxHeartbeats 400000 in
theorem atomic_28 (w : World) : Calls Try.prog 25 #[.int .i64 28] w fun e w' => e = .returned (.tuple #[.func (.func 54) #[] #[], .bool true]) ∧ w = w' := by
  go_enter Try.func25, Try.ntmps25
  go_wp2
  go_ret2
  exact ⟨rfl, rfl⟩
set_option maxHeartbeats 400000 in
theorem atomic_no (fn : Int) (h0 : fn ≠ 0) (h1 : fn ≠ 1) (h4 : fn ≠ 4) (h8 : fn ≠ 8) (h12 : fn ≠ 12) (h16 : fn ≠ 16) (h20 : fn ≠ 20) (h24 : fn ≠ 24) (h28 : fn ≠ 28) (w : World) : Calls Try.prog 25 #[.int .i64 fn] w fun e w' => e = .returned (.tuple #[.nilFunc, .bool false]) ∧ w = w' := by
  go_enter Try.func25, Try.ntmps25
  go_wp2
  go_ret2
  exact ⟨rfl, rfl⟩
set_option maxHeartbeats 400000 in
theorem do_wide_0 (a b : Int) (ha : 0 ≤ a) (hb : 0 ≤ b) (ha' : a < 18446744073709551616) (hb' : b < 18446744073709551616) (w : World) :
    Calls Try.prog 11 #[.int .i64 0, .bool false, .int .u64 a, .int .u64 b] w fun e w' => e = .returned (.tuple #[.int .u64 (doV 0 false a b), .bool true]) ∧ w = w' := by
  have Hc := Lib.hid (c28 a b ha hb ha' hb')
  clear ha ha' hb hb'
  go_enter Try.func11, Try.ntmps11
  go_wp2_with fail
  refine (wide_0 _).mono ?_; rintro e w' ⟨rfl, rfl⟩
  go_wp2_with fail
  refine (Hc.out _).mono ?_; rintro e w' ⟨rfl, rfl⟩
  go_wp2
  go_ret2
  exact ⟨rfl, rfl⟩
set_option maxHeartbeats 400000 in
theorem do_wide_1 (a b : Int) (ha : 0 ≤ a) (hb : 0 ≤ b) (ha' : a < 18446744073709551616) (hb' : b < 18446744073709551616) (w : World) :
    Calls Try.prog 11 #[.int .i64 1, .bool false, .int .u64 a, .int .u64 b] w fun e w' => e = .returned (.tuple #[.int .u64 (doV 1 false a b), .bool true]) ∧ w = w' := by
  have Hc := Lib.hid (c29 a b ha hb ha' hb')
  clear ha ha' hb hb'
  go_enter Try.func11, Try.ntmps11
  go_wp2_with fail
  refine (wide_1 _).mono ?_; rintro e w' ⟨rfl, rfl⟩
  go_wp2_with fail
  refine (Hc.out _).mono ?_; rintro e w' ⟨rfl, rfl⟩
  go_wp2
  go_ret2
  exact ⟨rfl, rfl⟩
set_option maxHeartbeats 400000 in
theorem do_wide_2 (a b : Int) (ha : 0 ≤ a) (hb : 0 ≤ b) (ha' : a < 18446744073709551616) (hb' : b < 18446744073709551616) (w : World) :
    Calls Try.prog 11 #[.int .i64 2, .bool false, .int .u64 a, .int .u64 b] w fun e w' => e = .returned (.tuple #[.int .u64 (doV 2 false a b), .bool true]) ∧ w = w' := by
  have Hc := Lib.hid (c31 a b ha hb ha' hb')
  clear ha ha' hb hb'
  go_enter Try.func11, Try.ntmps11
  go_wp2_with fail
  refine (wide_2 _).mono ?_; rintro e w' ⟨rfl, rfl⟩
  go_wp2_with fail
  refine (Hc.out _).mono ?_; rintro e w' ⟨rfl, rfl⟩
  go_wp2
  go_ret2
  exact ⟨rfl, rfl⟩
set_option maxHeartbeats 400000 in
theorem do_wide_3 (a b : Int) (ha : 0 ≤ a) (hb : 0 ≤ b) (ha' : a < 18446744073709551616) (hb' : b < 18446744073709551616) (w : World) :
    Calls Try.prog 11 #[.int .i64 3, .bool false, .int .u64 a, .int .u64 b] w fun e w' => e = .returned (.tuple #[.int .u64 (doV 3 false a b), .bool true]) ∧ w = w' := by
  have Hc := Lib.hid (c32 a b ha hb ha' hb')
  clear ha ha' hb hb'
  go_enter Try.func11, Try.ntmps11
  go_wp2_with fail
  refine (wide_3 _).mono ?_; rintro e w' ⟨rfl, rfl⟩
  go_wp2_with fail
  refine (Hc.out _).mono ?_; rintro e w' ⟨rfl, rfl⟩
  go_wp2
  go_ret2
  exact ⟨rfl, rfl⟩
set_option maxHeartbeats 400000 in
theorem do_wide_4 (a b : Int) (ha : 0 ≤ a) (hb : 0 ≤ b) (ha' : a < 18446744073709551616) (hb' : b < 18446744073709551616) (w : World) :
    Calls Try.prog 11 #[.int .i64 4, .bool false, .int .u64 a, .int .u64 b] w fun e w' => e = .returned (.tuple #[.int .u64 (doV 4 false a b), .bool true]) ∧ w = w' := by
  have Hc := Lib.hid (c34 a b ha hb ha' hb')
  clear ha ha' hb hb'
  go_enter Try.func11, Try.ntmps11
  go_wp2_with fail
  refine (wide_4 _).mono ?_; rintro e w' ⟨rfl, rfl⟩
  go_wp2_with fail
  refine (Hc.out _).mono ?_; rintro e w' ⟨rfl, rfl⟩
  go_wp2
  go_ret2
  exact ⟨rfl, rfl⟩
set_option maxHeartbeats 400000 in
theorem do_wide_5 (a b : Int) (ha : 0 ≤ a) (hb : 0 ≤ b) (ha' : a < 18446744073709551616) (hb' : b < 18446744073709551616) (w : World) :
    Calls Try.prog 11 #[.int .i64 5, .bool false, .int .u64 a, .int .u64 b] w fun e w' => e = .returned (.tuple #[.int .u64 (doV 5 false a b), .bool true]) ∧ w = w' := by
  have Hc := Lib.hid (c35 a b ha hb ha' hb')
  clear ha ha' hb hb'
  go_enter Try.func11, Try.ntmps11
  go_wp2_with fail
  refine (wide_5 _).mono ?_; rintro e w' ⟨rfl, rfl⟩
  go_wp2_with fail
  refine (Hc.out _).mono ?_; rintro e w' ⟨rfl, rfl⟩
  go_wp2
  go_ret2
  exact ⟨rfl, rfl⟩
set_option maxHeartbeats 400000 in
theorem do_wide_6 (a b : Int) (ha : 0 ≤ a) (hb : 0 ≤ b) (ha' : a < 18446744073709551616) (hb' : b < 18446744073709551616) (w : World) :
    Calls Try.prog 11 #[.int .i64 6, .bool false, .int .u64 a, .int .u64 b] w fun e w' => e = .returned (.tuple #[.int .u64 (doV 6 false a b), .bool true]) ∧ w = w' := by
  have Hc := Lib.hid (c36 a b ha hb ha' hb')
  clear ha ha' hb hb'
  go_enter Try.func11, Try.ntmps11
  go_wp2_with fail
  refine (wide_6 _).mono ?_; rintro e w' ⟨rfl, rfl⟩
  go_wp2_with fail
  refine (Hc.out _).mono ?_; rintro e w' ⟨rfl, rfl⟩
  go_wp2
  go_ret2
  exact ⟨rfl, rfl⟩
set_option maxHeartbeats 400000 in
theorem do_wide_7 (a b : Int) (ha : 0 ≤ a) (hb : 0 ≤ b) (ha' : a < 18446744073709551616) (hb' : b < 18446744073709551616) (w : World) :
    Calls Try.prog 11 #[.int .i64 7, .bool false, .int .u64 a, .int .u64 b] w fun e w' => e = .returned (.tuple #[.int .u64 (doV 7 false a b), .bool true]) ∧ w = w' := by
  have Hc := Lib.hid (c37 a b ha hb ha' hb')
  clear ha ha' hb hb'
  go_enter Try.func11, Try.ntmps11
  go_wp2_with fail
  refine (wide_7 _).mono ?_; rintro e w' ⟨rfl, rfl⟩
  go_wp2_with fail
  refine (Hc.out _).mono ?_; rintro e w' ⟨rfl, rfl⟩
  go_wp2
  go_ret2
  exact ⟨rfl, rfl⟩
set_option maxHeartbeats 400000 in
theorem do_wide_no (fn a b : Int) (h0 : fn ≠ 0) (h1 : fn ≠ 1) (h2 : fn ≠ 2) (h3 : fn ≠ 3) (h4 : fn ≠ 4) (h5 : fn ≠ 5) (h6 : fn ≠ 6) (h7 : fn ≠ 7) (w : World) :
    Calls Try.prog 11 #[.int .i64 fn, .bool false, .int .u64 a, .int .u64 b] w fun e w' => e = .returned (.tuple #[.int .u64 0, .bool false]) ∧ w = w' := by
  have Hn := Lib.hid (wide_no fn h0 h1 h2 h3 h4 h5 h6 h7)
  clear h0 h1 h2 h3 h4 h5 h6 h7
  go_enter Try.func11, Try.ntmps11
  go_wp2_with fail
  refine (Hn.out _).mono ?_; rintro e w' ⟨rfl, rfl⟩
  go_wp2
  go_ret2
  exact ⟨rfl, rfl⟩
set_option maxHeartbeats 400000 in
theorem do_word_0 (a b : Int) (ha : 0 ≤ a) (hb : 0 ≤ b) (ha' : a < 18446744073709551616) (hb' : b < 18446744073709551616) (w : World) :
    Calls Try.prog 11 #[.int .i64 0, .bool true, .int .u64 a, .int .u64 b] w fun e w' => e = .returned (.tuple #[.int .u64 (doV 0 true a b), .bool true]) ∧ w = w' := by
  have Hc := Lib.hid (c38 a b ha hb ha' hb')
  clear ha ha' hb hb'
  go_enter Try.func11, Try.ntmps11
  go_wp2_with fail
  refine (word_0 _).mono ?_; rintro e w' ⟨rfl, rfl⟩
  go_wp2_with fail
  refine (Hc.out _).mono ?_; rintro e w' ⟨rfl, rfl⟩
  go_wp2_with fail
  refine (sign_any _ _).mono ?_; rintro e w' ⟨rfl, rfl⟩
  go_wp2
  go_ret2
  exact ⟨rfl, rfl⟩
set_option maxHeartbeats 400000 in
theorem do_word_4 (a b : Int) (ha : 0 ≤ a) (hb : 0 ≤ b) (ha' : a < 18446744073709551616) (hb' : b < 18446744073709551616) (w : World) :
    Calls Try.prog 11 #[.int .i64 4, .bool true, .int .u64 a, .int .u64 b] w fun e w' => e = .returned (.tuple #[.int .u64 (doV 4 true a b), .bool true]) ∧ w = w' := by
  have Hc := Lib.hid (c39 a b ha hb ha' hb')
  clear ha ha' hb hb'
  go_enter Try.func11, Try.ntmps11
  go_wp2_with fail
  refine (word_4 _).mono ?_; rintro e w' ⟨rfl, rfl⟩
  go_wp2_with fail
  refine (Hc.out _).mono ?_; rintro e w' ⟨rfl, rfl⟩
  go_wp2_with fail
  refine (sign_any _ _).mono ?_; rintro e w' ⟨rfl, rfl⟩
  go_wp2
  go_ret2
  exact ⟨rfl, rfl⟩
set_option maxHeartbeats 400000 in
theorem do_word_5 (a b : Int) (ha : 0 ≤ a) (hb : 0 ≤ b) (ha' : a < 18446744073709551616) (hb' : b < 18446744073709551616) (w : World) :
    Calls Try.prog 11 #[.int .i64 5, .bool true, .int .u64 a, .int .u64 b] w fun e w' => e = .returned (.tuple #[.int .u64 (doV 5 true a b), .bool true]) ∧ w = w' := by
  have Hc := Lib.hid (c40 a b ha hb ha' hb')
  clear ha ha' hb hb'
  go_enter Try.func11, Try.ntmps11
  go_wp2_with fail
  refine (word_5 _).mono ?_; rintro e w' ⟨rfl, rfl⟩
  go_wp2_with fail
  refine (Hc.out _).mono ?_; rintro e w' ⟨rfl, rfl⟩
  go_wp2_with fail
  refine (sign_any _ _).mono ?_; rintro e w' ⟨rfl, rfl⟩
  go_wp2
  go_ret2
  exact ⟨rfl, rfl⟩
set_option maxHeartbeats 400000 in
theorem do_word_6 (a b : Int) (ha : 0 ≤ a) (hb : 0 ≤ b) (ha' : a < 18446744073709551616) (hb' : b < 18446744073709551616) (w : World) :
    Calls Try.prog 11 #[.int .i64 6, .bool true, .int .u64 a, .int .u64 b] w fun e w' => e = .returned (.tuple #[.int .u64 (doV 6 true a b), .bool true]) ∧ w = w' := by
  have Hc := Lib.hid (c41 a b ha hb ha' hb')
  clear ha ha' hb hb'
  go_enter Try.func11, Try.ntmps11
  go_wp2_with fail
  refine (word_6 _).mono ?_; rintro e w' ⟨rfl, rfl⟩
  go_wp2_with fail
  refine (Hc.out _).mono ?_; rintro e w' ⟨rfl, rfl⟩
  go_wp2_with fail
  refine (sign_any _ _).mono ?_; rintro e w' ⟨rfl, rfl⟩
  go_wp2
  go_ret2
  exact ⟨rfl, rfl⟩
set_option maxHeartbeats 400000 in
theorem do_word_7 (a b : Int) (ha : 0 ≤ a) (hb : 0 ≤ b) (ha' : a < 18446744073709551616) (hb' : b < 18446744073709551616) (w : World) :
    Calls Try.prog 11 #[.int .i64 7, .bool true, .int .u64 a, .int .u64 b] w fun e w' => e = .returned (.tuple #[.int .u64 (doV 7 true a b), .bool true]) ∧ w = w' := by
  have Hc := Lib.hid (c42 a b ha hb ha' hb')
  clear ha ha' hb hb'
  go_enter Try.func11, Try.ntmps11
  go_wp2_with fail
  refine (word_7 _).mono ?_; rintro e w' ⟨rfl, rfl⟩
  go_wp2_with fail
  refine (Hc.out _).mono ?_; rintro e w' ⟨rfl, rfl⟩
  go_wp2_with fail
  refine (sign_any _ _).mono ?_; rintro e w' ⟨rfl, rfl⟩
  go_wp2
  go_ret2
  exact ⟨rfl, rfl⟩
set_option maxHeartbeats 400000 in
theorem do_word_no (fn a b : Int) (h0 : fn ≠ 0) (h4 : fn ≠ 4) (h5 : fn ≠ 5) (h6 : fn ≠ 6) (h7 : fn ≠ 7) (w : World) :
    Calls Try.prog 11 #[.int .i64 fn, .bool true, .int .u64 a, .int .u64 b] w fun e w' => e = .returned (.tuple #[.int .u64 0, .bool false]) ∧ w = w' := by
  have Hn := Lib.hid (word_no fn h0 h4 h5 h6 h7)
  clear h0 h4 h5 h6 h7
  go_enter Try.func11, Try.ntmps11
  go_wp2_with fail
  refine (Hn.out _).mono ?_; rintro e w' ⟨rfl, rfl⟩
  go_wp2
  go_ret2
  exact ⟨rfl, rfl⟩

theorem do_any (fn : Int) (word : Bool) (a b : Int) (ha : 0 ≤ a) (hb : 0 ≤ b) (ha' : a < 18446744073709551616) (hb' : b < 18446744073709551616) (w : World) :
    Calls Try.prog 11 #[.int .i64 fn, .bool word, .int .u64 a, .int .u64 b] w fun e w' => e = .returned (.tuple #[.int .u64 (doV fn word a b), .bool (doB fn word)]) ∧ w = w' := by
  cases word
  · by_cases h : 0 ≤ fn ∧ fn ≤ 7
    · have hb1 : doB fn false = true := by simp [doB, isWide, h]
      rw [hb1]
      have hd : fn = 0 ∨ fn = 1 ∨ fn = 2 ∨ fn = 3 ∨ fn = 4 ∨ fn = 5 ∨ fn = 6 ∨ fn = 7 := by omega
      rcases hd with rfl | rfl | rfl | rfl | rfl | rfl | rfl | rfl
      · exact do_wide_0 a b ha hb ha' hb' w
      · exact do_wide_1 a b ha hb ha' hb' w
      · exact do_wide_2 a b ha hb ha' hb' w
      · exact do_wide_3 a b ha hb ha' hb' w
      · exact do_wide_4 a b ha hb ha' hb' w
      · exact do_wide_5 a b ha hb ha' hb' w
      · exact do_wide_6 a b ha hb ha' hb' w
      · exact do_wide_7 a b ha hb ha' hb' w
    · have hb1 : doB fn false = false := by simp [doB, isWide]; omega
      have hv : doV fn false a b = 0 := by simp [doV, isWide]; omega
      rw [hb1, hv]
      exact do_wide_no fn a b (by omega) (by omega) (by omega) (by omega) (by omega) (by omega) (by omega) (by omega) w
  · by_cases h : fn = 0 ∨ (4 ≤ fn ∧ fn ≤ 7)
    · have hb1 : doB fn true = true := by simp [doB, isWord, h]
      rw [hb1]
      have hd : fn = 0 ∨ fn = 4 ∨ fn = 5 ∨ fn = 6 ∨ fn = 7 := by omega
      rcases hd with rfl | rfl | rfl | rfl | rfl
      · exact do_word_0 a b ha hb ha' hb' w
      · exact do_word_4 a b ha hb ha' hb' w
      · exact do_word_5 a b ha hb ha' hb' w
      · exact do_word_6 a b ha hb ha' hb' w
      · exact do_word_7 a b ha hb ha' hb' w
    · have hb1 : doB fn true = false := by simp [doB, isWord]; omega
      have hv : doV fn true a b = 0 := by simp [doV, isWord]; omega
      rw [hb1, hv]
      exact do_word_no fn a b (by omega) (by omega) (by omega) (by omega) (by omega) w
end Go.Proofs.Ytbklmhpbaddbkaa
