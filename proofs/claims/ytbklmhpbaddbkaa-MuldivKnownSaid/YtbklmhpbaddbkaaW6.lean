/-
  Contracts of the document's functions of the layer muldiv: wide, Do, Amo.
-/
import Derived.Test.YtbklmhpbaddbkaaRows
import Derived.Test.YtbklmhpbaddbkaaW5
import Derived.Deep.QuietTactic
import Derived.BigQuiet
import Derived.WalkKit
import Derived.WalkSpells
import Derived.WalkLawsBesides
import Derived.Lib.Hide
set_option linter.unusedVariables false
set_option linter.unusedSimpArgs false
namespace Go.Proofs.Ytbklmhpbaddbkaa
open Go.RowKit

set_option maxHeartbeats 400000 in
theorem refwide_0_any (a b : Int) (ha : 0 ≤ a) (hb : 0 ≤ b) (ha' : a < 18446744073709551616) (hb' : b < 18446744073709551616) (w : World) :
    Calls Try.prog 22 #[.int .i64 0, .int .u64 a, .int .u64 b] w fun e w' => e = .returned (.tuple #[.int .u64 (wideV 0 a b), .bool true]) ∧ ∃ n, w' = w.drewN n := by
  clear ha ha' hb hb'
  go_enter Try.func22, Try.ntmps22
  go_wp2
  go_ret2
  exact ⟨rfl, 0, rfl⟩
set_option maxHeartbeats 400000 in
theorem refwide_1_any (a b : Int) (ha : 0 ≤ a) (hb : 0 ≤ b) (ha' : a < 18446744073709551616) (hb' : b < 18446744073709551616) (w : World) :
    Calls Try.prog 22 #[.int .i64 1, .int .u64 a, .int .u64 b] w fun e w' => e = .returned (.tuple #[.int .u64 (wideV 1 a b), .bool true]) ∧ ∃ n, w' = w.drewN n := by
  have Hc := Lib.hid (high43 1 a b ha hb ha' hb')
  clear ha ha' hb hb'
  go_enter Try.func22, Try.ntmps22
  go_wp2_with fail
  refine (Hc.out _).mono ?_; rintro e w' ⟨rfl, n, rfl⟩
  go_wp2
  go_ret2
  exact ⟨rfl, _, rfl⟩
set_option maxHeartbeats 400000 in
theorem refwide_2_any (a b : Int) (ha : 0 ≤ a) (hb : 0 ≤ b) (ha' : a < 18446744073709551616) (hb' : b < 18446744073709551616) (w : World) :
    Calls Try.prog 22 #[.int .i64 2, .int .u64 a, .int .u64 b] w fun e w' => e = .returned (.tuple #[.int .u64 (wideV 2 a b), .bool true]) ∧ ∃ n, w' = w.drewN n := by
  have Hc := Lib.hid (high43 2 a b ha hb ha' hb')
  clear ha ha' hb hb'
  go_enter Try.func22, Try.ntmps22
  go_wp2_with fail
  refine (Hc.out _).mono ?_; rintro e w' ⟨rfl, n, rfl⟩
  go_wp2
  go_ret2
  exact ⟨rfl, _, rfl⟩
set_option maxHeartbeats 400000 in
theorem refwide_3_any (a b : Int) (ha : 0 ≤ a) (hb : 0 ≤ b) (ha' : a < 18446744073709551616) (hb' : b < 18446744073709551616) (w : World) :
    Calls Try.prog 22 #[.int .i64 3, .int .u64 a, .int .u64 b] w fun e w' => e = .returned (.tuple #[.int .u64 (wideV 3 a b), .bool true]) ∧ ∃ n, w' = w.drewN n := by
  have Hc := Lib.hid (high43 3 a b ha hb ha' hb')
  clear ha ha' hb hb'
  go_enter Try.func22, Try.ntmps22
  go_wp2_with fail
  refine (Hc.out _).mono ?_; rintro e w' ⟨rfl, n, rfl⟩
  go_wp2
  go_ret2
  exact ⟨rfl, _, rfl⟩
set_option maxHeartbeats 400000 in
theorem refwide_4_z (a b : Int) (ha : 0 ≤ a) (hb : 0 ≤ b) (ha' : a < 18446744073709551616) (hb' : b < 18446744073709551616) (h0 : b = 0) (w : World) :
    Calls Try.prog 22 #[.int .i64 4, .int .u64 a, .int .u64 b] w fun e w' => e = .returned (.tuple #[.int .u64 (wideV 4 a b), .bool true]) ∧ ∃ n, w' = w.drewN n := by
  subst h0
  clear ha ha' hb hb'
  go_enter Try.func22, Try.ntmps22
  go_wp2
  go_ret2
  exact ⟨rfl, 0, rfl⟩
set_option maxHeartbeats 400000 in
theorem refwide_4_n (a b : Int) (ha : 0 ≤ a) (hb : 0 ≤ b) (ha' : a < 18446744073709551616) (hb' : b < 18446744073709551616) (h0 : b ≠ 0) (w : World) :
    Calls Try.prog 22 #[.int .i64 4, .int .u64 a, .int .u64 b] w fun e w' => e = .returned (.tuple #[.int .u64 (wideV 4 a b), .bool true]) ∧ ∃ n, w' = w.drewN n := by
  have hp : 0 < b := by omega
  have e0 : (b == 0) = false := by simpa using h0
  have Hd := Lib.hid (divide_any a b ha hp ha' hb')
  have Hs := Lib.hid (signed45 a b ha hp ha' hb')
  have H0 := Lib.hid h0
  clear ha ha' hb hb' h0 hp
  go_enter Try.func22, Try.ntmps22
  go_wp2_with fail
  refine (Hd.out _).mono ?_; rintro e w' ⟨rfl, rfl⟩
  go_wp2_with fail
  refine (Hs.out _).mono ?_; rintro e w' ⟨rfl, rfl⟩
  go_wp2
  go_ret2
  refine ⟨?_, 0, rfl⟩
  simp [wideV, divuV, remuV, H0.out]
set_option maxHeartbeats 400000 in
theorem refwide_5_z (a b : Int) (ha : 0 ≤ a) (hb : 0 ≤ b) (ha' : a < 18446744073709551616) (hb' : b < 18446744073709551616) (h0 : b = 0) (w : World) :
    Calls Try.prog 22 #[.int .i64 5, .int .u64 a, .int .u64 b] w fun e w' => e = .returned (.tuple #[.int .u64 (wideV 5 a b), .bool true]) ∧ ∃ n, w' = w.drewN n := by
  subst h0
  clear ha ha' hb hb'
  go_enter Try.func22, Try.ntmps22
  go_wp2
  go_ret2
  exact ⟨rfl, 0, rfl⟩
set_option maxHeartbeats 400000 in
theorem refwide_5_n (a b : Int) (ha : 0 ≤ a) (hb : 0 ≤ b) (ha' : a < 18446744073709551616) (hb' : b < 18446744073709551616) (h0 : b ≠ 0) (w : World) :
    Calls Try.prog 22 #[.int .i64 5, .int .u64 a, .int .u64 b] w fun e w' => e = .returned (.tuple #[.int .u64 (wideV 5 a b), .bool true]) ∧ ∃ n, w' = w.drewN n := by
  have hp : 0 < b := by omega
  have e0 : (b == 0) = false := by simpa using h0
  have Hd := Lib.hid (divide_any a b ha hp ha' hb')
  have Hs := Lib.hid (signed45 a b ha hp ha' hb')
  have H0 := Lib.hid h0
  clear ha ha' hb hb' h0 hp
  go_enter Try.func22, Try.ntmps22
  go_wp2_with fail
  refine (Hd.out _).mono ?_; rintro e w' ⟨rfl, rfl⟩
  go_wp2
  go_ret2
  refine ⟨?_, 0, rfl⟩
  simp [wideV, divuV, remuV, H0.out]
set_option maxHeartbeats 400000 in
theorem refwide_6_z (a b : Int) (ha : 0 ≤ a) (hb : 0 ≤ b) (ha' : a < 18446744073709551616) (hb' : b < 18446744073709551616) (h0 : b = 0) (w : World) :
    Calls Try.prog 22 #[.int .i64 6, .int .u64 a, .int .u64 b] w fun e w' => e = .returned (.tuple #[.int .u64 (wideV 6 a b), .bool true]) ∧ ∃ n, w' = w.drewN n := by
  subst h0
  clear ha ha' hb hb'
  go_enter Try.func22, Try.ntmps22
  go_wp2
  go_ret2
  exact ⟨rfl, 0, rfl⟩
set_option maxHeartbeats 400000 in
theorem refwide_6_n (a b : Int) (ha : 0 ≤ a) (hb : 0 ≤ b) (ha' : a < 18446744073709551616) (hb' : b < 18446744073709551616) (h0 : b ≠ 0) (w : World) :
    Calls Try.prog 22 #[.int .i64 6, .int .u64 a, .int .u64 b] w fun e w' => e = .returned (.tuple #[.int .u64 (wideV 6 a b), .bool true]) ∧ ∃ n, w' = w.drewN n := by
  have hp : 0 < b := by omega
  have e0 : (b == 0) = false := by simpa using h0
  have Hd := Lib.hid (divide_any a b ha hp ha' hb')
  have Hs := Lib.hid (signed45 a b ha hp ha' hb')
  have H0 := Lib.hid h0
  clear ha ha' hb hb' h0 hp
  go_enter Try.func22, Try.ntmps22
  go_wp2_with fail
  refine (Hd.out _).mono ?_; rintro e w' ⟨rfl, rfl⟩
  go_wp2_with fail
  refine (Hs.out _).mono ?_; rintro e w' ⟨rfl, rfl⟩
  go_wp2
  go_ret2
  refine ⟨?_, 0, rfl⟩
  simp [wideV, divuV, remuV, H0.out]
set_option maxHeartbeats 400000 in
theorem refwide_7_z (a b : Int) (ha : 0 ≤ a) (hb : 0 ≤ b) (ha' : a < 18446744073709551616) (hb' : b < 18446744073709551616) (h0 : b = 0) (w : World) :
    Calls Try.prog 22 #[.int .i64 7, .int .u64 a, .int .u64 b] w fun e w' => e = .returned (.tuple #[.int .u64 (wideV 7 a b), .bool true]) ∧ ∃ n, w' = w.drewN n := by
  subst h0
  clear ha ha' hb hb'
  go_enter Try.func22, Try.ntmps22
  go_wp2
  go_ret2
  exact ⟨rfl, 0, rfl⟩
set_option maxHeartbeats 400000 in
theorem refwide_7_n (a b : Int) (ha : 0 ≤ a) (hb : 0 ≤ b) (ha' : a < 18446744073709551616) (hb' : b < 18446744073709551616) (h0 : b ≠ 0) (w : World) :
    Calls Try.prog 22 #[.int .i64 7, .int .u64 a, .int .u64 b] w fun e w' => e = .returned (.tuple #[.int .u64 (wideV 7 a b), .bool true]) ∧ ∃ n, w' = w.drewN n := by
  have hp : 0 < b := by omega
  have e0 : (b == 0) = false := by simpa using h0
  have Hd := Lib.hid (divide_any a b ha hp ha' hb')
  have Hs := Lib.hid (signed45 a b ha hp ha' hb')
  have H0 := Lib.hid h0
  clear ha ha' hb hb' h0 hp
  go_enter Try.func22, Try.ntmps22
  go_wp2_with fail
  refine (Hd.out _).mono ?_; rintro e w' ⟨rfl, rfl⟩
  go_wp2
  go_ret2
  refine ⟨?_, 0, rfl⟩
  simp [wideV, divuV, remuV, H0.out]
set_option maxHeartbeats 400000 in
theorem refwide_no (fn a b : Int) (h : fn < 0 ∨ 7 < fn) (w : World) :
    Calls Try.prog 22 #[.int .i64 fn, .int .u64 a, .int .u64 b] w fun e w' => e = .returned (.tuple #[.int .u64 0, .bool false]) ∧ ∃ n, w' = w.drewN n := by
  by_cases h1 : fn < 0
  · clear h
    go_enter Try.func22, Try.ntmps22
    go_wp2
    go_ret2
    exact ⟨rfl, 0, rfl⟩
  · have h2 : 7 < fn := by omega
    clear h
    go_enter Try.func22, Try.ntmps22
    go_wp2
    go_ret2
    exact ⟨rfl, 0, rfl⟩
theorem refwide_any (fn a b : Int) (ha : 0 ≤ a) (hb : 0 ≤ b) (ha' : a < 18446744073709551616) (hb' : b < 18446744073709551616) (hf : 0 ≤ fn) (hf' : fn ≤ 7) (w : World) :
    Calls Try.prog 22 #[.int .i64 fn, .int .u64 a, .int .u64 b] w fun e w' => e = .returned (.tuple #[.int .u64 (wideV fn a b), .bool true]) ∧ ∃ n, w' = w.drewN n := by
  have hd : fn = 0 ∨ fn = 1 ∨ fn = 2 ∨ fn = 3 ∨ fn = 4 ∨ fn = 5 ∨ fn = 6 ∨ fn = 7 := by omega
  rcases hd with rfl | rfl | rfl | rfl | rfl | rfl | rfl | rfl
  · exact refwide_0_any a b ha hb ha' hb' w
  · exact refwide_1_any a b ha hb ha' hb' w
  · exact refwide_2_any a b ha hb ha' hb' w
  · exact refwide_3_any a b ha hb ha' hb' w
  · by_cases h0 : b = 0
    · exact refwide_4_z a b ha hb ha' hb' h0 w
    · exact refwide_4_n a b ha hb ha' hb' h0 w
  · by_cases h0 : b = 0
    · exact refwide_5_z a b ha hb ha' hb' h0 w
    · exact refwide_5_n a b ha hb ha' hb' h0 w
  · by_cases h0 : b = 0
    · exact refwide_6_z a b ha hb ha' hb' h0 w
    · exact refwide_6_n a b ha hb ha' hb' h0 w
  · by_cases h0 : b = 0
    · exact refwide_7_z a b ha hb ha' hb' h0 w
    · exact refwide_7_n a b ha hb ha' hb' h0 w
set_option maxHeartbeats 400000 in
theorem refdo_wide (fn a b : Int) (ha : 0 ≤ a) (hb : 0 ≤ b) (ha' : a < 18446744073709551616) (hb' : b < 18446744073709551616) (hf : 0 ≤ fn) (hf' : fn ≤ 7) (w : World) :
    Calls Try.prog 12 #[.int .i64 fn, .bool false, .int .u64 a, .int .u64 b] w fun e w' => e = .returned (.tuple #[.int .u64 (wideV fn a b), .bool true]) ∧ ∃ n, w' = w.drewN n := by
  have Hc := Lib.hid (refwide_any fn a b ha hb ha' hb' hf hf')
  clear ha ha' hb hb' hf hf'
  go_enter Try.func12, Try.ntmps12
  go_wp2_with fail
  refine (Hc.out _).mono ?_; rintro e w' ⟨rfl, n, rfl⟩
  go_wp2
  go_ret2
  exact ⟨rfl, _, rfl⟩
set_option maxHeartbeats 400000 in
theorem refdo_wide_no (fn a b : Int) (h : fn < 0 ∨ 7 < fn) (w : World) :
    Calls Try.prog 12 #[.int .i64 fn, .bool false, .int .u64 a, .int .u64 b] w fun e w' => e = .returned (.tuple #[.int .u64 0, .bool false]) ∧ ∃ n, w' = w.drewN n := by
  have Hc := Lib.hid (refwide_no fn a b h)
  clear h
  go_enter Try.func12, Try.ntmps12
  go_wp2_with fail
  refine (Hc.out _).mono ?_; rintro e w' ⟨rfl, n, rfl⟩
  go_wp2
  go_ret2
  exact ⟨rfl, _, rfl⟩
set_option maxHeartbeats 400000 in
theorem refdo_word_0 (a b : Int) (ha : 0 ≤ a) (hb : 0 ≤ b) (ha' : a < 18446744073709551616) (hb' : b < 18446744073709551616) (w : World) :
    Calls Try.prog 12 #[.int .i64 0, .bool true, .int .u64 a, .int .u64 b] w fun e w' => e = .returned (.tuple #[.int .u64 (wordV 0 a b), .bool true]) ∧ ∃ n, w' = w.drewN n := by
  have Hc := Lib.hid (refwide_any 0 (s32 a) (s32 b) (s32_nonneg a) (s32_nonneg b) (s32_lt a) (s32_lt b) (by decide) (by decide))
  have Ha := Lib.hid (Sign_any a ha)
  have Hb := Lib.hid (Sign_any b hb)
  have Hv := Lib.hid (Sign_any (wideV 0 (s32 a) (s32 b)) (wideV_nonneg _ (s32_nonneg a) (s32_nonneg b)))
  have He := Lib.hid (word_eq_0 a b)
  clear ha' hb'
  go_enter Try.func12, Try.ntmps12
  go_wp2_with fail
  refine (Ha.out _).mono ?_; rintro e w' ⟨rfl, rfl⟩
  go_wp2_with fail
  refine (Hb.out _).mono ?_; rintro e w' ⟨rfl, rfl⟩
  go_wp2_with fail
  try rw [show a % 4294967296 = l32 a from rfl, show b % 4294967296 = l32 b from rfl]
  refine (Hc.out _).mono ?_; rintro e w' ⟨rfl, n, rfl⟩
  go_wp2_with fail
  refine (Hv.out _).mono ?_; rintro e w' ⟨rfl, rfl⟩
  go_wp2
  go_ret2
  refine ⟨?_, _, rfl⟩
  rw [← He.out]
  rfl
set_option maxHeartbeats 400000 in
theorem refdo_word_4 (a b : Int) (ha : 0 ≤ a) (hb : 0 ≤ b) (ha' : a < 18446744073709551616) (hb' : b < 18446744073709551616) (w : World) :
    Calls Try.prog 12 #[.int .i64 4, .bool true, .int .u64 a, .int .u64 b] w fun e w' => e = .returned (.tuple #[.int .u64 (wordV 4 a b), .bool true]) ∧ ∃ n, w' = w.drewN n := by
  have Hc := Lib.hid (refwide_any 4 (s32 a) (s32 b) (s32_nonneg a) (s32_nonneg b) (s32_lt a) (s32_lt b) (by decide) (by decide))
  have Ha := Lib.hid (Sign_any a ha)
  have Hb := Lib.hid (Sign_any b hb)
  have Hv := Lib.hid (Sign_any (wideV 4 (s32 a) (s32 b)) (wideV_nonneg _ (s32_nonneg a) (s32_nonneg b)))
  have He := Lib.hid (word_eq_4 a b)
  clear ha' hb'
  go_enter Try.func12, Try.ntmps12
  go_wp2_with fail
  refine (Ha.out _).mono ?_; rintro e w' ⟨rfl, rfl⟩
  go_wp2_with fail
  refine (Hb.out _).mono ?_; rintro e w' ⟨rfl, rfl⟩
  go_wp2_with fail
  try rw [show a % 4294967296 = l32 a from rfl, show b % 4294967296 = l32 b from rfl]
  refine (Hc.out _).mono ?_; rintro e w' ⟨rfl, n, rfl⟩
  go_wp2_with fail
  refine (Hv.out _).mono ?_; rintro e w' ⟨rfl, rfl⟩
  go_wp2
  go_ret2
  refine ⟨?_, _, rfl⟩
  rw [← He.out]
  rfl
set_option maxHeartbeats 400000 in
theorem refdo_word_5 (a b : Int) (ha : 0 ≤ a) (hb : 0 ≤ b) (ha' : a < 18446744073709551616) (hb' : b < 18446744073709551616) (w : World) :
    Calls Try.prog 12 #[.int .i64 5, .bool true, .int .u64 a, .int .u64 b] w fun e w' => e = .returned (.tuple #[.int .u64 (wordV 5 a b), .bool true]) ∧ ∃ n, w' = w.drewN n := by
  have Hc := Lib.hid (refwide_any 5 (l32 a) (l32 b) (l32_nonneg a) (l32_nonneg b) (l32_lt a) (l32_lt b) (by decide) (by decide))
  have Ha := Lib.hid (Sign_any a ha)
  have Hb := Lib.hid (Sign_any b hb)
  have Hv := Lib.hid (Sign_any (wideV 5 (l32 a) (l32 b)) (wideV_nonneg _ (l32_nonneg a) (l32_nonneg b)))
  have He := Lib.hid (word_eq_5 a b)
  clear ha' hb'
  go_enter Try.func12, Try.ntmps12
  go_wp2_with fail
  refine (Ha.out _).mono ?_; rintro e w' ⟨rfl, rfl⟩
  go_wp2_with fail
  refine (Hb.out _).mono ?_; rintro e w' ⟨rfl, rfl⟩
  go_wp2_with fail
  refine (half_any _).mono ?_; rintro e w' ⟨rfl, rfl⟩
  go_wp2_with fail
  refine (half_any _).mono ?_; rintro e w' ⟨rfl, rfl⟩
  go_wp2_with fail
  try rw [show a % 4294967296 = l32 a from rfl, show b % 4294967296 = l32 b from rfl]
  refine (Hc.out _).mono ?_; rintro e w' ⟨rfl, n, rfl⟩
  go_wp2_with fail
  refine (Hv.out _).mono ?_; rintro e w' ⟨rfl, rfl⟩
  go_wp2
  go_ret2
  refine ⟨?_, _, rfl⟩
  rw [← He.out]
  rfl
set_option maxHeartbeats 400000 in
theorem refdo_word_6 (a b : Int) (ha : 0 ≤ a) (hb : 0 ≤ b) (ha' : a < 18446744073709551616) (hb' : b < 18446744073709551616) (w : World) :
    Calls Try.prog 12 #[.int .i64 6, .bool true, .int .u64 a, .int .u64 b] w fun e w' => e = .returned (.tuple #[.int .u64 (wordV 6 a b), .bool true]) ∧ ∃ n, w' = w.drewN n := by
  have Hc := Lib.hid (refwide_any 6 (s32 a) (s32 b) (s32_nonneg a) (s32_nonneg b) (s32_lt a) (s32_lt b) (by decide) (by decide))
  have Ha := Lib.hid (Sign_any a ha)
  have Hb := Lib.hid (Sign_any b hb)
  have Hv := Lib.hid (Sign_any (wideV 6 (s32 a) (s32 b)) (wideV_nonneg _ (s32_nonneg a) (s32_nonneg b)))
  have He := Lib.hid (word_eq_6 a b)
  clear ha' hb'
  go_enter Try.func12, Try.ntmps12
  go_wp2_with fail
  refine (Ha.out _).mono ?_; rintro e w' ⟨rfl, rfl⟩
  go_wp2_with fail
  refine (Hb.out _).mono ?_; rintro e w' ⟨rfl, rfl⟩
  go_wp2_with fail
  try rw [show a % 4294967296 = l32 a from rfl, show b % 4294967296 = l32 b from rfl]
  refine (Hc.out _).mono ?_; rintro e w' ⟨rfl, n, rfl⟩
  go_wp2_with fail
  refine (Hv.out _).mono ?_; rintro e w' ⟨rfl, rfl⟩
  go_wp2
  go_ret2
  refine ⟨?_, _, rfl⟩
  rw [← He.out]
  rfl
set_option maxHeartbeats 400000 in
theorem refdo_word_7 (a b : Int) (ha : 0 ≤ a) (hb : 0 ≤ b) (ha' : a < 18446744073709551616) (hb' : b < 18446744073709551616) (w : World) :
    Calls Try.prog 12 #[.int .i64 7, .bool true, .int .u64 a, .int .u64 b] w fun e w' => e = .returned (.tuple #[.int .u64 (wordV 7 a b), .bool true]) ∧ ∃ n, w' = w.drewN n := by
  have Hc := Lib.hid (refwide_any 7 (l32 a) (l32 b) (l32_nonneg a) (l32_nonneg b) (l32_lt a) (l32_lt b) (by decide) (by decide))
  have Ha := Lib.hid (Sign_any a ha)
  have Hb := Lib.hid (Sign_any b hb)
  have Hv := Lib.hid (Sign_any (wideV 7 (l32 a) (l32 b)) (wideV_nonneg _ (l32_nonneg a) (l32_nonneg b)))
  have He := Lib.hid (word_eq_7 a b)
  clear ha' hb'
  go_enter Try.func12, Try.ntmps12
  go_wp2_with fail
  refine (Ha.out _).mono ?_; rintro e w' ⟨rfl, rfl⟩
  go_wp2_with fail
  refine (Hb.out _).mono ?_; rintro e w' ⟨rfl, rfl⟩
  go_wp2_with fail
  refine (half_any _).mono ?_; rintro e w' ⟨rfl, rfl⟩
  go_wp2_with fail
  refine (half_any _).mono ?_; rintro e w' ⟨rfl, rfl⟩
  go_wp2_with fail
  try rw [show a % 4294967296 = l32 a from rfl, show b % 4294967296 = l32 b from rfl]
  refine (Hc.out _).mono ?_; rintro e w' ⟨rfl, n, rfl⟩
  go_wp2_with fail
  refine (Hv.out _).mono ?_; rintro e w' ⟨rfl, rfl⟩
  go_wp2
  go_ret2
  refine ⟨?_, _, rfl⟩
  rw [← He.out]
  rfl
set_option maxHeartbeats 400000 in
theorem refdo_word_no (fn a b : Int) (h : fn < 0 ∨ 7 < fn ∨ (0 < fn ∧ fn < 4)) (w : World) :
    Calls Try.prog 12 #[.int .i64 fn, .bool true, .int .u64 a, .int .u64 b] w fun e w' => e = .returned (.tuple #[.int .u64 0, .bool false]) ∧ ∃ n, w' = w.drewN n := by
  rcases h with h | h | ⟨h, h'⟩
  all_goals
    go_enter Try.func12, Try.ntmps12
    go_wp2
    go_ret2
    exact ⟨rfl, 0, rfl⟩
theorem refdo_any (fn : Int) (word : Bool) (a b : Int) (ha : 0 ≤ a) (hb : 0 ≤ b) (ha' : a < 18446744073709551616) (hb' : b < 18446744073709551616) (w : World) :
    Calls Try.prog 12 #[.int .i64 fn, .bool word, .int .u64 a, .int .u64 b] w fun e w' => e = .returned (.tuple #[.int .u64 (doV fn word a b), .bool (doB fn word)]) ∧ ∃ n, w' = w.drewN n := by
  cases word
  · by_cases h : 0 ≤ fn ∧ fn ≤ 7
    · have hb1 : doB fn false = true := by simp [doB, isWide, h]
      have hv : doV fn false a b = wideV fn a b := by simp [doV, isWide, h]
      rw [hb1, hv]
      exact refdo_wide fn a b ha hb ha' hb' h.1 h.2 w
    · have hb1 : doB fn false = false := by simp [doB, isWide]; omega
      have hv : doV fn false a b = 0 := by simp [doV, isWide]; omega
      rw [hb1, hv]
      exact refdo_wide_no fn a b (by omega) w
  · by_cases h : fn = 0 ∨ (4 ≤ fn ∧ fn ≤ 7)
    · have hb1 : doB fn true = true := by simp [doB, isWord, h]
      have hv : doV fn true a b = wordV fn a b := by simp [doV, isWord, h]
      rw [hb1, hv]
      have hd : fn = 0 ∨ fn = 4 ∨ fn = 5 ∨ fn = 6 ∨ fn = 7 := by omega
      rcases hd with rfl | rfl | rfl | rfl | rfl
      · exact refdo_word_0 a b ha hb ha' hb' w
      · exact refdo_word_4 a b ha hb ha' hb' w
      · exact refdo_word_5 a b ha hb ha' hb' w
      · exact refdo_word_6 a b ha hb ha' hb' w
      · exact refdo_word_7 a b ha hb ha' hb' w
    · have hb1 : doB fn true = false := by simp [doB, isWord]; omega
      have hv : doV fn true a b = 0 := by simp [doV, isWord]; omega
      rw [hb1, hv]
      exact refdo_word_no fn a b (by omega) w
end Go.Proofs.Ytbklmhpbaddbkaa
