/-
  Contracts of the document's functions of the layer muldiv: Signed, Do, Amo.
-/
import Derived.Test.YtbklmhpbaddbkaaRows
import Derived.Test.YtbklmhpbaddbkaaW4
import Derived.Deep.QuietTactic
import Derived.BigQuiet
import Derived.WalkKit
import Derived.WalkSpells
import Derived.WalkLawsBesides
import Derived.Lib.Hide
set_option linter.unusedVariables false
set_option linter.unusedSimpArgs false
namespace Go.Proofs.Ytbklmhpbaddbkaa
open Go.RowKit

set_option maxHeartbeats 400000 in
theorem high43 (fn a b : Int) (ha : 0 ≤ a) (hb : 0 ≤ b) (ha' : a < 18446744073709551616) (hb' : b < 18446744073709551616) (w : World) :
    Calls Try.prog 43 #[.int .i64 fn, .int .u64 a, .int .u64 b] w fun e w' => e = .returned (.int .u64 (highV fn a b)) ∧ ∃ n, w' = w.drewN n := by
  have Hc := Lib.hid (high_any a b ha hb ha' hb')
  have hg := Lib.hid (wrap_lt ha ha')
  have hh := Lib.hid (wrap_lt hb hb')
  clear ha ha' hb hb'
  by_cases h3 : fn = 3
  · subst h3
    go_enter Try.func43, Try.ntmps43
    go_wp2_with fail
    refine (Hc.out _).mono ?_; rintro e w' ⟨rfl, n, rfl⟩
    go_wp2
    go_ret
    exact ⟨rfl, _, rfl⟩
  · have e3 : (fn != 3) = true := by simpa using h3
    have h3' := Lib.hid h3
    clear h3
    by_cases h1 : fn = 1
    · subst h1
      go_enter Try.func43, Try.ntmps43
      go_wp2_with fail
      refine (Hc.out _).mono ?_; rintro e w' ⟨rfl, n, rfl⟩
      go_wp2_with (go_at_call 55; refine (below55 _ _).mono ?_; rintro e w' ⟨rfl, rfl⟩)
      all_goals go_ret
      all_goals refine ⟨ret_u64 ?_, _, rfl⟩
      all_goals simp only [highV, sgnV, hg.out, hh.out, uw]
      all_goals ((repeat' split) <;> first | rfl | omega | (simp_all; done) | (simp_all; omega))
    · have e1 : (fn == 1) = false := by simpa using h1
      have h1' := Lib.hid h1
      clear h1
      go_enter Try.func43, Try.ntmps43
      go_wp2_with fail
      refine (Hc.out _).mono ?_; rintro e w' ⟨rfl, n, rfl⟩
      go_wp2_with (go_at_call 55; refine (below55 _ _).mono ?_; rintro e w' ⟨rfl, rfl⟩)
      all_goals go_ret
      all_goals refine ⟨ret_u64 ?_, _, rfl⟩
      all_goals rw [highV, if_neg h3'.out, if_neg h1'.out]
      all_goals simp only [sgnV, hg.out, hh.out, uw]
      all_goals ((repeat' split) <;> first | rfl | omega | (simp_all; done) | (simp_all; omega))
set_option maxHeartbeats 400000 in
theorem signed45 (a b : Int) (ha : 0 ≤ a) (hb : 0 < b) (ha' : a < 18446744073709551616) (hb' : b < 18446744073709551616) (w : World) :
    Calls Try.prog 45 #[.int .u64 a, .int .u64 b] w fun e w' => e = .returned (.tuple #[.int .u64 (divV a b), .int .u64 (remV a b)]) ∧ w = w' := by
  rw [← signed_q ha hb ha' hb', ← signed_r ha hb ha' hb']
  have ga := size_nonneg ha ha'
  have gb := size_pos hb hb'
  have Hc := Lib.hid (divide_any (sizeV a) (sizeV b) ga.1 gb.1 ga.2 gb.2)
  clear ga gb ha hb ha' hb'
  obtain ⟨t, ht⟩ : ∃ t, t = decide (9223372036854775808 ≤ a) := ⟨_, rfl⟩
  obtain ⟨u, hu⟩ : ∃ u, u = decide (9223372036854775808 ≤ b) := ⟨_, rfl⟩
  have c1 := below55 a
  have c2 := below55 b
  have hv : sQ a b = if (t != u) = true then uw (0 - sizeV a / sizeV b) else sizeV a / sizeV b := by rw [ht, hu]; rfl
  have hr : sR a b = if t = true then uw (0 - sizeV a % sizeV b) else sizeV a % sizeV b := by rw [ht]; simp [sR]
  rw [hv, hr]
  rw [← ht] at c1
  rw [← hu] at c2
  have C1 := Lib.hid c1
  have C2 := Lib.hid c2
  clear c1 c2 ht hu hv hr
  generalize sizeV a / sizeV b = q at *
  generalize sizeV a % sizeV b = r at *
  cases t <;> cases u
  all_goals
    go_enter Try.func45, Try.ntmps45
    go_wp2_with fail
    refine (size57 _ _).mono ?_; rintro e w' ⟨rfl, rfl⟩
    go_wp2_with fail
    refine (size57 _ _).mono ?_; rintro e w' ⟨rfl, rfl⟩
    go_wp2_with fail
    refine (Hc.out _).mono ?_; rintro e w' ⟨rfl, rfl⟩
    go_wp2_with fail
    refine (C1.out _).mono ?_; rintro e w' ⟨rfl, rfl⟩
    go_wp2_with fail
    refine (C2.out _).mono ?_; rintro e w' ⟨rfl, rfl⟩
    go_wp2_with fail
    refine (C1.out _).mono ?_; rintro e w' ⟨rfl, rfl⟩
    go_wp2
    go_ret2
    exact ⟨by simp [uw], rfl⟩
end Go.Proofs.Ytbklmhpbaddbkaa
