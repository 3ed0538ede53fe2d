/-
  Contracts of the document's functions of the layer muldiv: halves, high, Divide.
-/
import Derived.Test.YtbklmhpbaddbkaaRows
import Derived.Test.YtbklmhpbaddbkaaW1
import Derived.Test.YtbklmhpbaddbkaaM3
import Derived.Deep.QuietTactic
import Derived.BigQuiet
import Derived.WalkKit
import Derived.WalkSpells
import Derived.WalkLawsBesides
import Derived.Lib.Hide
set_option linter.unusedVariables false
set_option linter.unusedSimpArgs false
namespace Go.Proofs.Ytbklmhpbaddbkaa
open Go.RowKit

theorem quiet_add_left {P : Program} {f : FuncId} {args : Array Value} {w : World} {a n : Nat} {v : Value}
    (h : Calls P f args (w.drewN (a + n)) fun e w' => e = .returned v ∧ w.drewN (a + n) = w') :
    Calls P f args (w.drewN (a + n)) fun e w'' => e = .returned v ∧ ∃ m, w'' = w.drewN (a + m) :=
  h.mono fun _ _ ⟨he, hm⟩ => ⟨he, n, hm.symm⟩
theorem quiet_left {P : Program} {f : FuncId} {args : Array Value} {w : World} {n : Nat} {v : Value}
    (h : Calls P f args (w.drewN n) fun e w' => e = .returned v ∧ w.drewN n = w') : Calls P f args (w.drewN n) fun e w'' => e = .returned v ∧ ∃ m, w'' = w.drewN m :=
  h.mono fun _ _ ⟨he, hm⟩ => ⟨he, n, hm.symm⟩
set_option maxHeartbeats 400000 in
theorem half_any (w : World) : Calls Try.prog 24 #[] w fun e w' => e = .returned (.int .u64 4294967296) ∧ w = w' := by
  go_enter Try.func24, Try.ntmps24
  go_wp2
  go_ret
  exact ⟨rfl, rfl⟩
set_option maxHeartbeats 400000 in
theorem high_any (a b : Int) (ha : 0 ≤ a) (hb : 0 ≤ b) (ha' : a < 18446744073709551616) (hb' : b < 18446744073709551616) (w : World) : Calls Try.prog 56 #[.int .u64 a, .int .u64 b] w fun e w' => e = .returned (.int .u64 (hiV a b)) ∧ ∃ n, w' = w.drewN n := by
  have hm := Lib.hid (high_math ha hb ha' hb')
  clear ha' hb'
  go_enter Try.func56, Try.ntmps56
  go_wp2_with (go_at_call 24; refine (half_any _).mono ?_; rintro e w' ⟨rfl, rfl⟩)
  go_quiet ((go_at_call 24; exact quiet_left (half_any _)))
  go_wp2
  go_ret
  exact ⟨ret_u64 hm.out, _, rfl⟩
set_option maxHeartbeats 400000 in
theorem Sign_any (a : Int) (ha : 0 ≤ a) (w : World) :
    Calls Try.prog 23 #[.int .u64 a] w fun e w' => e = .returned (.int .u64 (s32 a)) ∧ w = w' := by
  have h1 := Lib.hid (Sign_math1 a)
  have h2 := Lib.hid (Sign_math2 a)
  go_enter Try.func23, Try.ntmps23
  go_wp2_with (go_at_call 24; refine (half_any _).mono ?_; rintro e w' ⟨rfl, rfl⟩)
  all_goals go_ret
  all_goals refine ⟨ret_u64 ?_, rfl⟩
  · exact h1.out (by assumption)
  · exact h2.out (by assumption)
set_option maxHeartbeats 400000 in
theorem below55 (a : Int) (w : World) :
    Calls Try.prog 55 #[.int .u64 a] w fun e w' => e = .returned (.bool (decide (9223372036854775808 ≤ a))) ∧ w = w' := by
  go_enter Try.func55, Try.ntmps55
  go_wp2
  go_ret
  exact ⟨rfl, rfl⟩
set_option maxHeartbeats 400000 in
theorem size57 (a : Int) (w : World) :
    Calls Try.prog 57 #[.int .u64 a] w fun e w' => e = .returned (.int .u64 (sizeV a)) ∧ w = w' := by
  go_enter Try.func57, Try.ntmps57
  go_wp2_with (go_at_call 55; refine (below55 _ _).mono ?_; rintro e w' ⟨rfl, rfl⟩)
  all_goals go_ret
  all_goals refine ⟨ret_u64 ?_, rfl⟩
  all_goals unfold sizeV uw
  · rw [if_pos (by assumption)]; simp
  · rw [if_neg (by omega)]
set_option maxHeartbeats 400000 in
theorem less27 (a b : Int) (w : World) :
    Calls Try.prog 27 #[.int .u64 a, .int .u64 b] w fun e w' => e = .returned (.bool (lessV a b)) ∧ w = w' := by
  obtain ⟨t, ht⟩ : ∃ t, t = decide (9223372036854775808 ≤ a) := ⟨_, rfl⟩
  obtain ⟨u, hu⟩ : ∃ u, u = decide (9223372036854775808 ≤ b) := ⟨_, rfl⟩
  have c1 := below55 a
  have c2 := below55 b
  have hv : lessV a b = if (t != u) = true then t else decide (a < b) := by rw [ht, hu]; rfl
  rw [hv]
  rw [← ht] at c1
  rw [← hu] at c2
  have C1 := Lib.hid c1
  have C2 := Lib.hid c2
  clear c1 c2 ht hu hv
  cases t <;> cases u
  all_goals
    go_enter Try.func27, Try.ntmps27
    go_wp2_with fail
    refine (C1.out _).mono ?_; rintro e w' ⟨rfl, rfl⟩
    go_wp2_with fail
    refine (C2.out _).mono ?_; rintro e w' ⟨rfl, rfl⟩
    go_wp2_with fail
    try (refine (C1.out _).mono ?_; rintro e w' ⟨rfl, rfl⟩; go_wp2)
    go_ret
    exact ⟨rfl, rfl⟩
set_option maxHeartbeats 400000 in
theorem divide_any (a b : Int) (ha : 0 ≤ a) (hb : 0 < b) (ha' : a < 18446744073709551616) (hb' : b < 18446744073709551616) (w : World) :
    Calls Try.prog 44 #[.int .u64 a, .int .u64 b] w fun e w' => e = .returned (.tuple #[.int .u64 (a / b), .int .u64 (a % b)]) ∧ w = w' := by
  have Hs := Lib.hid (div_start (b := b) ha ha')
  have He := Lib.hid (div_end a b)
  have Hy := Lib.hid (div_yes ha hb ha' hb')
  have Hn := Lib.hid (div_no ha hb ha' hb')
  clear ha' hb'
  go_enter Try.func44, Try.ntmps44
  go_wp2
  go_loop [6, 7, 8] (fun q r i => ∃ k : Int, -1 ≤ k ∧ k ≤ 63 ∧ i = .int .i64 k ∧ q = .int .u64 (dq a b (k + 1).toNat) ∧ r = .int .u64 (dr a b (k + 1).toNat)) (fun _ _ i => (intOf i + 1).toNat)
  case atStart => exact ⟨63, by omega, by omega, rfl, by rw [show ((63 : Int) + 1).toNat = 64 from rfl, Hs.out.1], by rw [show ((63 : Int) + 1).toNat = 64 from rfl, Hs.out.2]⟩
  case round =>
    obtain ⟨k, hk, hk', rfl, rfl, rfl⟩ := hrel
    by_cases h : k < 0
    · have hz := Lib.hid (show (k + 1).toNat = 0 by omega)
      go_wp2
      go_ret2
      exact ⟨by rw [hz.out, He.out.1, He.out.2]; rfl, rfl⟩
    · obtain ⟨i, rfl⟩ : ∃ i : Nat, k = i := ⟨k.toNat, by omega⟩
      rw [show ((i : Int) + 1).toNat = i + 1 from by omega]
      go_wp2
      · have hy := Hy.out i (by assumption)
        exact ⟨⟨(i : Int) - 1, by omega, by omega, rfl, by rw [hy.1, show ((i : Int) - 1 + 1).toNat = i from by omega], by rw [hy.2, show ((i : Int) - 1 + 1).toNat = i from by omega]⟩, by simp [intOf]⟩
      · have hy := Hn.out i (by assumption)
        exact ⟨⟨(i : Int) - 1, by omega, by omega, rfl, by rw [hy.1, show ((i : Int) - 1 + 1).toNat = i from by omega], by rw [hy.2, show ((i : Int) - 1 + 1).toNat = i from by omega]⟩, by simp [intOf]⟩
      · have hy := Hy.out i (.inl (by omega))
        exact ⟨⟨(i : Int) - 1, by omega, by omega, rfl, by rw [hy.1, show ((i : Int) - 1 + 1).toNat = i from by omega], by rw [hy.2, show ((i : Int) - 1 + 1).toNat = i from by omega]⟩, by simp [intOf]⟩
end Go.Proofs.Ytbklmhpbaddbkaa
