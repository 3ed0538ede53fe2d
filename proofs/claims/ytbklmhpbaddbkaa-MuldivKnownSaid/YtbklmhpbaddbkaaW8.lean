/-
  The laws MuldivDoes and MuldivAmos: the walks.
-/
import Derived.Test.YtbklmhpbaddbkaaRows
import Derived.Test.YtbklmhpbaddbkaaW7
import Derived.Test.YtbklmhpbaddbkaaW3
import Derived.Deep.QuietTactic
import Derived.BigQuiet
import Derived.WalkKit
import Derived.WalkSpells
import Derived.WalkLawsBesides
import Derived.Lib.Hide
set_option linter.unusedVariables false
set_option linter.unusedSimpArgs false
namespace Go.Proofs.Ytbklmhpbaddbkaa
open Go.RowKit

set_option maxHeartbeats 400000 in
theorem refamo_size_no (fn size a b : Int) (h4 : size ≠ 4) (h8 : size ≠ 8) (w : World) :
    Calls Try.prog 15 #[.int .i64 fn, .int .i64 size, .int .u64 a, .int .u64 b] w fun e w' => e = .returned (.tuple #[.int .u64 0, .bool false]) ∧ w = w' := by
  have e4 : (size != 4) = true := by simpa using h4
  have e8 : (size != 8) = true := by simpa using h8
  clear h4 h8
  go_enter Try.func15, Try.ntmps15
  go_wp2
  go_ret2
  exact ⟨rfl, rfl⟩
set_option maxHeartbeats 400000 in
theorem refamo_no_8 (fn a b : Int) (h0 : fn ≠ 0) (h1 : fn ≠ 1) (h4 : fn ≠ 4) (h8 : fn ≠ 8) (h12 : fn ≠ 12) (h16 : fn ≠ 16) (h20 : fn ≠ 20) (h24 : fn ≠ 24) (h28 : fn ≠ 28) (w : World) :
    Calls Try.prog 15 #[.int .i64 fn, .int .i64 8, .int .u64 a, .int .u64 b] w fun e w' => e = .returned (.tuple #[.int .u64 0, .bool false]) ∧ w = w' := by
  go_enter Try.func15, Try.ntmps15
  go_wp2
  go_ret2
  exact ⟨rfl, rfl⟩
set_option maxHeartbeats 400000 in
theorem refamo_no_4 (fn a b : Int) (ha : 0 ≤ a) (hb : 0 ≤ b) (h0 : fn ≠ 0) (h1 : fn ≠ 1) (h4 : fn ≠ 4) (h8 : fn ≠ 8) (h12 : fn ≠ 12) (h16 : fn ≠ 16) (h20 : fn ≠ 20) (h24 : fn ≠ 24) (h28 : fn ≠ 28) (w : World) :
    Calls Try.prog 15 #[.int .i64 fn, .int .i64 4, .int .u64 a, .int .u64 b] w fun e w' => e = .returned (.tuple #[.int .u64 0, .bool false]) ∧ w = w' := by
  have Ha := Lib.hid (Sign_any a ha)
  have Hb := Lib.hid (Sign_any b hb)
  clear ha hb
  go_enter Try.func15, Try.ntmps15
  go_wp2_with fail
  refine (Ha.out _).mono ?_; rintro e w' ⟨rfl, rfl⟩
  go_wp2_with fail
  refine (Hb.out _).mono ?_; rintro e w' ⟨rfl, rfl⟩
  go_wp2
  go_ret2
  exact ⟨rfl, rfl⟩

theorem refamo_any (fn size a b : Int) (ha : 0 ≤ a) (hb : 0 ≤ b) (ha' : a < 18446744073709551616) (hb' : b < 18446744073709551616) (w : World) :
    Calls Try.prog 15 #[.int .i64 fn, .int .i64 size, .int .u64 a, .int .u64 b] w fun e w' => e = .returned (.tuple #[.int .u64 (amoV fn size a b), .bool (amoB fn size)]) ∧ w = w' := by
  by_cases hd : fn = 0 ∨ fn = 1 ∨ fn = 4 ∨ fn = 8 ∨ fn = 12 ∨ fn = 16 ∨ fn = 20 ∨ fn = 24 ∨ fn = 28
  · by_cases h8 : size = 8
    · subst h8
      rcases hd with rfl | rfl | rfl | rfl | rfl | rfl | rfl | rfl | rfl
      · exact refamo_0_8 a b ha hb ha' hb' w
      · exact refamo_1_8 a b ha hb ha' hb' w
      · exact refamo_4_8 a b ha hb ha' hb' w
      · exact refamo_8_8 a b ha hb ha' hb' w
      · exact refamo_12_8 a b ha hb ha' hb' w
      · exact refamo_16_8 a b ha hb ha' hb' w
      · exact refamo_20_8 a b ha hb ha' hb' w
      · exact refamo_24_8 a b ha hb ha' hb' w
      · exact refamo_28_8 a b ha hb ha' hb' w
    · by_cases h4 : size = 4
      · subst h4
        rcases hd with rfl | rfl | rfl | rfl | rfl | rfl | rfl | rfl | rfl
        · exact refamo_0_4 a b ha hb ha' hb' w
        · exact refamo_1_4 a b ha hb ha' hb' w
        · exact refamo_4_4 a b ha hb ha' hb' w
        · exact refamo_8_4 a b ha hb ha' hb' w
        · exact refamo_12_4 a b ha hb ha' hb' w
        · exact refamo_16_4 a b ha hb ha' hb' w
        · exact refamo_20_4 a b ha hb ha' hb' w
        · exact refamo_24_4 a b ha hb ha' hb' w
        · exact refamo_28_4 a b ha hb ha' hb' w
      · have h1 : amoV fn size a b = 0 := by simp [amoV, h4, h8]
        have h2 : amoB fn size = false := by simp [amoB, h4, h8]
        rw [h1, h2]
        exact refamo_size_no fn size a b h4 h8 w
  · have h1 : amoV fn size a b = 0 := by unfold amoV; rw [if_neg]; simp [isAt]; omega
    have h2 : amoB fn size = false := by simp [amoB, isAt]; omega
    rw [h1, h2]
    by_cases h8 : size = 8
    · subst h8; exact refamo_no_8 fn a b (by omega) (by omega) (by omega) (by omega) (by omega) (by omega) (by omega) (by omega) (by omega) w
    · by_cases h4 : size = 4
      · subst h4; exact refamo_no_4 fn a b ha hb (by omega) (by omega) (by omega) (by omega) (by omega) (by omega) (by omega) (by omega) (by omega) w
      · exact refamo_size_no fn size a b h4 h8 w
set_option maxHeartbeats 400000 in
theorem of_any (fn a b : Int) (ha : 0 ≤ a) (hb : 0 ≤ b) (ha' : a < 18446744073709551616) (hb' : b < 18446744073709551616) (w : World) :
    Calls Try.prog 16 #[.int .i64 fn, .int .u64 a, .int .u64 b] w fun e w' => e = .returned (.int .u64 (ofV fn a b)) ∧ w = w' := by
  have Hc := Lib.hid (do_any fn false a b ha hb ha' hb')
  cases hd : doB fn false
  all_goals
    have hv := Lib.hid (show ofV fn a b = if doB fn false = true then doV fn false a b else 18446744073709551615 from rfl)
    have Hd := Lib.hid hd
    rw [hd] at Hc
    clear ha ha' hb hb' hd
    go_enter Try.func16, Try.ntmps16
    go_wp2_with fail
    refine (Hc.out _).mono ?_; rintro e w' ⟨rfl, rfl⟩
    go_wp2
    go_ret
    refine ⟨ret_u64 ?_, rfl⟩
    rw [hv.out, Hd.out]; rfl
set_option maxHeartbeats 400000 in
theorem works_any (w : World) :
    Calls Try.prog 13 #[] w fun e w' => e = .returned (.bool true) ∧ w = w' := by
  have Hd := Lib.hid (do_any 1 true 1 1 (by decide) (by decide) (by decide) (by decide))
  have Ha := Lib.hid (amo_any 16 4 1 4294967295 (by decide) (by decide) (by decide) (by decide))
  have H0 := Lib.hid (of_any 4 18446744073709551609 2 (by decide) (by decide) (by decide) (by decide))
  rw [show ofV 4 18446744073709551609 2 = 18446744073709551613 from by decide +kernel] at H0
  have H1 := Lib.hid (of_any 6 18446744073709551609 2 (by decide) (by decide) (by decide) (by decide))
  rw [show ofV 6 18446744073709551609 2 = 18446744073709551615 from by decide +kernel] at H1
  have H2 := Lib.hid (of_any 4 7 0 (by decide) (by decide) (by decide) (by decide))
  rw [show ofV 4 7 0 = 18446744073709551615 from by decide +kernel] at H2
  have H3 := Lib.hid (of_any 6 7 0 (by decide) (by decide) (by decide) (by decide))
  rw [show ofV 6 7 0 = 7 from by decide +kernel] at H3
  have H4 := Lib.hid (of_any 3 18446744073709551615 18446744073709551615 (by decide) (by decide) (by decide) (by decide))
  rw [show ofV 3 18446744073709551615 18446744073709551615 = 18446744073709551614 from by decide +kernel] at H4
  rw [show doV 1 true 1 1 = 0 from by decide +kernel, show doB 1 true = false from by decide +kernel] at Hd
  rw [show amoV 16 4 1 4294967295 = 4294967295 from by decide +kernel, show amoB 16 4 = true from by decide +kernel] at Ha
  go_enter Try.func13, Try.ntmps13
  go_wp2_with fail
  refine (Hd.out _).mono ?_; rintro e w' ⟨rfl, rfl⟩
  go_wp2_with fail
  refine (Ha.out _).mono ?_; rintro e w' ⟨rfl, rfl⟩
  go_wp2_with fail
  refine (H0.out _).mono ?_; rintro e w' ⟨rfl, rfl⟩
  go_wp2_with fail
  refine (H1.out _).mono ?_; rintro e w' ⟨rfl, rfl⟩
  go_wp2_with fail
  refine (H2.out _).mono ?_; rintro e w' ⟨rfl, rfl⟩
  go_wp2_with fail
  refine (H3.out _).mono ?_; rintro e w' ⟨rfl, rfl⟩
  go_wp2_with fail
  refine (H4.out _).mono ?_; rintro e w' ⟨rfl, rfl⟩
  go_wp2
  go_ret
  exact ⟨rfl, rfl⟩
set_option maxHeartbeats 400000 in
theorem does_any (fn : Int) (word : Bool) (a b : Int) (ha : 0 ≤ a) (hb : 0 ≤ b) (ha' : a < 18446744073709551616) (hb' : b < 18446744073709551616) (w : World) :
    Calls Try.prog 3 #[.int .i64 fn, .bool word, .int .u64 a, .int .u64 b] w fun e w' => e = .returned (.bool true) ∧ ∃ n, w' = w.drewN n := by
  have H1 := Lib.hid (do_any fn word a b ha hb ha' hb')
  have H2 := Lib.hid (refdo_any fn word a b ha hb ha' hb')
  clear ha ha' hb hb'
  generalize doV fn word a b = x at *
  generalize doB fn word = t at *
  go_enter Try.func3, Try.ntmps3
  go_wp2_with fail
  refine (H1.out _).mono ?_; rintro e w' ⟨rfl, rfl⟩
  go_wp2_with fail
  refine (H2.out _).mono ?_; rintro e w' ⟨rfl, n, rfl⟩
  go_wp2_with fail
  refine (works_any _).mono ?_; rintro e w' ⟨rfl, rfl⟩
  go_wp2
  go_ret
  exact ⟨rfl, n, rfl⟩
set_option maxHeartbeats 400000 in
theorem amos_any (fn size a b : Int) (ha : 0 ≤ a) (hb : 0 ≤ b) (ha' : a < 18446744073709551616) (hb' : b < 18446744073709551616) (w : World) :
    Calls Try.prog 4 #[.int .i64 fn, .int .i64 size, .int .u64 a, .int .u64 b] w fun e w' => e = .returned (.bool true) ∧ ∃ n, w' = w.drewN n := by
  have H1 := Lib.hid (amo_any fn size a b ha hb ha' hb')
  have H2 := Lib.hid (refamo_any fn size a b ha hb ha' hb')
  clear ha ha' hb hb'
  generalize amoV fn size a b = x at *
  generalize amoB fn size = t at *
  go_enter Try.func4, Try.ntmps4
  go_wp2_with fail
  refine (H1.out _).mono ?_; rintro e w' ⟨rfl, rfl⟩
  go_wp2_with fail
  refine (H2.out _).mono ?_; rintro e w' ⟨rfl, rfl⟩
  go_wp2_with fail
  refine (works_any _).mono ?_; rintro e w' ⟨rfl, rfl⟩
  go_wp2
  go_ret
  exact ⟨rfl, 0, rfl⟩
end Go.Proofs.Ytbklmhpbaddbkaa
