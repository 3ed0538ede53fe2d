/-
  The laws MuldivRest, MuldivHalves, MuldivLong, MuldivNarrow: the walks.
-/
import Derived.Test.YtbklmhpbaddbkaaRows
import Derived.Test.YtbklmhpbaddbkaaW8
import Derived.Test.YtbklmhpbaddbkaaM4
import Derived.Deep.QuietTactic
import Derived.BigQuiet
import Derived.WalkKit
import Derived.WalkSpells
import Derived.WalkLawsBesides
import Derived.Lib.Hide
set_option linter.unusedVariables false
set_option linter.unusedSimpArgs false
namespace Go.Proofs.Ytbklmhpbaddbkaa
open Go.RowKit

set_option maxHeartbeats 400000 in
theorem below18 (a : Int) (w : World) : Calls Try.prog 18 #[.int .u64 a] w fun e w' => e = .returned (.bool (decide (wrap64 a < 0))) ∧ w = w' := by
  go_enter Try.func18, Try.ntmps18
  go_wp2
  go_ret
  exact ⟨rfl, rfl⟩
set_option maxHeartbeats 400000 in
theorem size17 (a : Int) (ha : 0 ≤ a) (ha' : a < 18446744073709551616) (w : World) : Calls Try.prog 17 #[.int .u64 a] w fun e w' => e = .returned (.int .u64 (sizeV a)) ∧ w = w' := by
  have hw := Lib.hid (wrap_lt ha ha')
  clear ha ha'
  cases ht : decide (wrap64 a < 0)
  all_goals
    have Hc := Lib.hid (below18 a)
    have hv := Lib.hid (show sizeV a = if decide (wrap64 a < 0) = true then uw (0 - a) else a by simp only [decide_eq_true_eq, hw.out]; rfl)
    rw [ht] at Hc hv
    clear ht
    go_enter Try.func17, Try.ntmps17
    go_wp2_with fail
    refine (Hc.out _).mono ?_; rintro e w' ⟨rfl, rfl⟩
    go_wp2
    go_ret
    refine ⟨ret_u64 ?_, rfl⟩
    rw [hv.out]; simp [uw]
set_option maxHeartbeats 400000 in
theorem rest_z (a : Int) (ha : 0 ≤ a) (ha' : a < 18446744073709551616) (w : World) :
    Calls Try.prog 5 #[.int .u64 a, .int .u64 0] w fun e w' => e = .returned (.bool true) ∧ w = w' := by
  have H5 := Lib.hid (of_any 5 a 0 ha (by decide) ha' (by decide))
  have H7 := Lib.hid (of_any 7 a 0 ha (by decide) ha' (by decide))
  have H4 := Lib.hid (of_any 4 a 0 ha (by decide) ha' (by decide))
  have H6 := Lib.hid (of_any 6 a 0 ha (by decide) ha' (by decide))
  rw [show ofV 5 a 0 = 18446744073709551615 from by simp [ofV, doB, isWide, doV, wideV, divuV]] at H5
  rw [show ofV 7 a 0 = a from by simp [ofV, doB, isWide, doV, wideV, remuV]] at H7
  rw [show ofV 4 a 0 = 18446744073709551615 from by simp [ofV, doB, isWide, doV, wideV, divV]] at H4
  rw [show ofV 6 a 0 = a from by simp [ofV, doB, isWide, doV, wideV, remV]] at H6
  have e1 : IntKind.u64.wrap a = a := uw_id ha ha'
  clear ha'
  go_enter Try.func5, Try.ntmps5
  go_wp2_with fail
  refine (H5.out _).mono ?_; rintro e w' ⟨rfl, rfl⟩
  go_wp2_with fail
  refine (H7.out _).mono ?_; rintro e w' ⟨rfl, rfl⟩
  go_wp2_with fail
  refine (H4.out _).mono ?_; rintro e w' ⟨rfl, rfl⟩
  go_wp2_with fail
  refine (H6.out _).mono ?_; rintro e w' ⟨rfl, rfl⟩
  go_wp2_with fail
  refine (works_any _).mono ?_; rintro e w' ⟨rfl, rfl⟩
  go_wp2
  go_ret
  exact ⟨rfl, rfl⟩
set_option maxHeartbeats 400000 in
theorem rest_n (a b : Int) (ha : 0 ≤ a) (hb : 0 < b) (ha' : a < 18446744073709551616) (hb' : b < 18446744073709551616) (w : World) :
    Calls Try.prog 5 #[.int .u64 a, .int .u64 b] w fun e w' => e = .returned (.bool true) ∧ w = w' := by
  have hb0 := Int.le_of_lt hb
  have H5 := Lib.hid (of_any 5 a b ha hb0 ha' hb')
  have H7 := Lib.hid (of_any 7 a b ha hb0 ha' hb')
  have H4 := Lib.hid (of_any 4 a b ha hb0 ha' hb')
  have H6 := Lib.hid (of_any 6 a b ha hb0 ha' hb')
  obtain ⟨e1, hr⟩ := rest_u ha hb ha'
  obtain ⟨e2, hs, ht, ht0, ht1⟩ := rest_s ha hb ha' hb'
  have C1 := Lib.hid (size17 (ofV 6 a b) ht0 ht1)
  have C2 := Lib.hid (size17 b hb0 hb')
  have C3 := Lib.hid (below18 (ofV 6 a b))
  have C4 := Lib.hid (below18 a)
  have e0 : (b == 0) = false := by simp; omega
  generalize ofV 5 a b = q at *
  generalize ofV 7 a b = r at *
  generalize ofV 4 a b = s at *
  generalize ofV 6 a b = t at *
  by_cases h0 : t = 0
  · subst h0
    rw [Int.add_zero] at e2
    clear ha hb ha' hb' hb0 ht ht0 ht1 C3 C4
    go_enter Try.func5, Try.ntmps5
    go_wp2_with fail
    refine (H5.out _).mono ?_; rintro e w' ⟨rfl, rfl⟩
    go_wp2_with fail
    refine (H7.out _).mono ?_; rintro e w' ⟨rfl, rfl⟩
    go_wp2_with fail
    refine (H4.out _).mono ?_; rintro e w' ⟨rfl, rfl⟩
    go_wp2_with fail
    refine (H6.out _).mono ?_; rintro e w' ⟨rfl, rfl⟩
    go_wp2_with fail
    refine (C1.out _).mono ?_; rintro e w' ⟨rfl, rfl⟩
    go_wp2_with fail
    refine (C2.out _).mono ?_; rintro e w' ⟨rfl, rfl⟩
    go_wp2_with fail
    refine (works_any _).mono ?_; rintro e w' ⟨rfl, rfl⟩
    go_wp2
    go_ret
    exact ⟨rfl, rfl⟩
  · have e3 : (t == 0) = false := by simpa using h0
    rw [ht h0] at C3
    clear ha hb ha' hb' hb0 ht ht0 ht1 h0
    generalize decide (wrap64 a < 0) = u at *
    go_enter Try.func5, Try.ntmps5
    go_wp2_with fail
    refine (H5.out _).mono ?_; rintro e w' ⟨rfl, rfl⟩
    go_wp2_with fail
    refine (H7.out _).mono ?_; rintro e w' ⟨rfl, rfl⟩
    go_wp2_with fail
    refine (H4.out _).mono ?_; rintro e w' ⟨rfl, rfl⟩
    go_wp2_with fail
    refine (H6.out _).mono ?_; rintro e w' ⟨rfl, rfl⟩
    go_wp2_with fail
    refine (C1.out _).mono ?_; rintro e w' ⟨rfl, rfl⟩
    go_wp2_with fail
    refine (C2.out _).mono ?_; rintro e w' ⟨rfl, rfl⟩
    go_wp2_with fail
    refine (C3.out _).mono ?_; rintro e w' ⟨rfl, rfl⟩
    go_wp2_with fail
    refine (C4.out _).mono ?_; rintro e w' ⟨rfl, rfl⟩
    go_wp2_with fail
    refine (works_any _).mono ?_; rintro e w' ⟨rfl, rfl⟩
    go_wp2
    go_ret
    exact ⟨rfl, rfl⟩
theorem rest_any (a b : Int) (ha : 0 ≤ a) (hb : 0 ≤ b) (ha' : a < 18446744073709551616) (hb' : b < 18446744073709551616) (w : World) :
    Calls Try.prog 5 #[.int .u64 a, .int .u64 b] w fun e w' => e = .returned (.bool true) ∧ w = w' := by
  by_cases h : b = 0
  · subst h; exact rest_z a ha ha' w
  · exact rest_n a b ha (by omega) ha' hb' w
set_option maxHeartbeats 400000 in
theorem halves_any (a b c : Int) (ha : 0 ≤ a) (hb : 0 ≤ b) (ha' : a < 18446744073709551616) (hb' : b < 18446744073709551616) (hc : 0 ≤ c) (hc' : c < 18446744073709551616) (w : World) :
    Calls Try.prog 6 #[.int .u64 a, .int .u64 b, .int .u64 c] w fun e w' => e = .returned (.bool true) ∧ w = w' := by
  have bc := wrap_in (x := b + c)
  have H3 := Lib.hid (of_any 3 a b ha hb ha' hb')
  have H2 := Lib.hid (of_any 2 a b ha hb ha' hb')
  have H1 := Lib.hid (of_any 1 a b ha hb ha' hb')
  have H3' := Lib.hid (of_any 3 b a hb ha hb' ha')
  have H1' := Lib.hid (of_any 1 b a hb ha hb' ha')
  have H0 := Lib.hid (of_any 0 a b ha hb ha' hb')
  have H0' := Lib.hid (of_any 0 b a hb ha hb' ha')
  have H0s := Lib.hid (of_any 0 a (IntKind.u64.wrap (b + c)) ha bc.1 ha' bc.2)
  have H0c := Lib.hid (of_any 0 a c ha hc ha' hc')
  have hd := mul_dist a b c
  rw [show ofV 3 a b = hiV a b from rfl] at H3
  rw [show ofV 2 a b = sgnV a b false from rfl] at H2
  rw [show ofV 1 a b = sgnV a b true from rfl] at H1
  rw [show ofV 3 b a = hiV a b from hiV_comm b a] at H3'
  rw [show ofV 1 b a = sgnV a b true from sgn_comm b a] at H1'
  rw [show ofV 0 a b = uw (a * b) from rfl] at H0
  rw [show ofV 0 b a = uw (a * b) by rw [Int.mul_comm]; rfl] at H0'
  rw [show ofV 0 a (IntKind.u64.wrap (b + c)) = uw (uw (a * b) + uw (a * c)) from hd] at H0s
  rw [show ofV 0 a c = uw (a * c) from rfl] at H0c
  have C1 := Lib.hid (below18 a)
  have C2 := Lib.hid (below18 b)
  have v2 : sgnV a b false = if decide (wrap64 a < 0) = true then uw (hiV a b - b) else hiV a b := by simp [sgnV]
  have v1 : sgnV a b true = if decide (wrap64 b < 0) = true then uw ((if decide (wrap64 a < 0) = true then uw (hiV a b - b) else hiV a b) - a) else (if decide (wrap64 a < 0) = true then uw (hiV a b - b) else hiV a b) := by simp [sgnV]
  rw [v1] at H1 H1'
  rw [v2] at H2
  clear ha hb ha' hb' hc hc' bc hd v1 v2
  generalize decide (wrap64 a < 0) = t at *
  generalize decide (wrap64 b < 0) = u at *
  generalize uw (a * b) = p at *
  generalize uw (a * c) = q at *
  generalize hiV a b = h at *
  unfold uw at H1 H1' H2 H0s
  cases t <;> cases u
  all_goals
    simp only [Bool.false_eq_true, if_true, if_false] at H1 H1' H2
    go_enter Try.func6, Try.ntmps6
    go_wp2_with fail
    refine (H3.out _).mono ?_; rintro e w' ⟨rfl, rfl⟩
    go_wp2_with fail
    refine (C1.out _).mono ?_; rintro e w' ⟨rfl, rfl⟩
    go_wp2_with fail
    refine (H2.out _).mono ?_; rintro e w' ⟨rfl, rfl⟩
    go_wp2_with fail
    refine (C2.out _).mono ?_; rintro e w' ⟨rfl, rfl⟩
    go_wp2_with fail
    refine (H1.out _).mono ?_; rintro e w' ⟨rfl, rfl⟩
    go_wp2_with fail
    refine (H3'.out _).mono ?_; rintro e w' ⟨rfl, rfl⟩
    go_wp2_with fail
    refine (H1'.out _).mono ?_; rintro e w' ⟨rfl, rfl⟩
    go_wp2_with fail
    refine (H0.out _).mono ?_; rintro e w' ⟨rfl, rfl⟩
    go_wp2_with fail
    refine (H0'.out _).mono ?_; rintro e w' ⟨rfl, rfl⟩
    go_wp2_with fail
    refine (H0s.out _).mono ?_; rintro e w' ⟨rfl, rfl⟩
    go_wp2_with fail
    refine (H0.out _).mono ?_; rintro e w' ⟨rfl, rfl⟩
    go_wp2_with fail
    refine (H0c.out _).mono ?_; rintro e w' ⟨rfl, rfl⟩
    go_wp2_with fail
    refine (works_any _).mono ?_; rintro e w' ⟨rfl, rfl⟩
    go_wp2
    go_ret
    exact ⟨rfl, rfl⟩
set_option maxHeartbeats 400000 in
theorem long_z (a : Int) (w : World) :
    Calls Try.prog 7 #[.int .u64 a, .int .u64 18446744073709551615] w fun e w' => e = .returned (.bool true) ∧ w = w' := by
  go_enter Try.func7, Try.ntmps7
  go_wp2_with fail
  refine (works_any _).mono ?_; rintro e w' ⟨rfl, rfl⟩
  go_wp2
  go_ret
  exact ⟨rfl, rfl⟩
set_option maxHeartbeats 400000 in
theorem long_n (a b : Int) (ha : 0 ≤ a) (hb : 0 ≤ b) (ha' : a < 18446744073709551616) (hb' : b < 18446744073709551615) (w : World) :
    Calls Try.prog 7 #[.int .u64 a, .int .u64 b] w fun e w' => e = .returned (.bool true) ∧ w = w' := by
  obtain ⟨e1, e2, e3, e4, e5⟩ := long_math ha hb ha' hb'
  have hb2 : b < 18446744073709551616 := by omega
  have H0 := Lib.hid (of_any 0 a b ha hb ha' hb2)
  have H3 := Lib.hid (of_any 3 a b ha hb ha' hb2)
  have H0' := Lib.hid (of_any 0 a (b + 1) ha (by omega) ha' (by omega))
  have H3' := Lib.hid (of_any 3 a (b + 1) ha (by omega) ha' (by omega))
  have H3z := Lib.hid (of_any 3 a 0 ha (by decide) ha' (by decide))
  rw [show ofV 0 a b = uw (a * b) from rfl] at H0
  rw [show ofV 3 a b = hiV a b from rfl] at H3
  rw [show ofV 0 a (b + 1) = uw (uw (a * b) + a) from e2] at H0'
  rw [show ofV 3 a 0 = 0 by simp [ofV, doB, isWide, doV, wideV, hiV]] at H3z
  rw [show ofV 3 a (b + 1) = hiV a (b + 1) from rfl] at H3'
  have e6 : IntKind.u64.wrap (b + 1) = b + 1 := e1
  have e7 : (b == 18446744073709551615) = false := by simp; omega
  have E6 := Lib.hid e6
  clear ha hb ha' hb' hb2 e1 e2 e6
  generalize uw (a * b) = p at *
  generalize hiV a b = h at *
  by_cases hlt : uw (p + a) < p
  · rw [e3 hlt] at H3'
    clear e3 e4
    unfold uw at *
    go_enter Try.func7, Try.ntmps7
    go_wp2_with fail
    refine (H0.out _).mono ?_; rintro e w' ⟨rfl, rfl⟩
    go_wp2_with fail
    refine (H3.out _).mono ?_; rintro e w' ⟨rfl, rfl⟩
    go_wp2_with fail
    rw [E6.out]
    refine (H0'.out _).mono ?_; rintro e w' ⟨rfl, rfl⟩
    go_wp2_with fail
    rw [E6.out]
    refine (H3'.out _).mono ?_; rintro e w' ⟨rfl, rfl⟩
    go_wp2_with fail
    refine (H3z.out _).mono ?_; rintro e w' ⟨rfl, rfl⟩
    go_wp2_with fail
    refine (works_any _).mono ?_; rintro e w' ⟨rfl, rfl⟩
    go_wp2
    go_ret
    exact ⟨rfl, rfl⟩
  · have hge : p ≤ uw (p + a) := by omega
    rw [e4 hge] at H3'
    clear e3 e4
    unfold uw at *
    go_enter Try.func7, Try.ntmps7
    go_wp2_with fail
    refine (H0.out _).mono ?_; rintro e w' ⟨rfl, rfl⟩
    go_wp2_with fail
    refine (H3.out _).mono ?_; rintro e w' ⟨rfl, rfl⟩
    go_wp2_with fail
    rw [E6.out]
    refine (H0'.out _).mono ?_; rintro e w' ⟨rfl, rfl⟩
    go_wp2_with fail
    rw [E6.out]
    refine (H3'.out _).mono ?_; rintro e w' ⟨rfl, rfl⟩
    go_wp2_with fail
    refine (H3z.out _).mono ?_; rintro e w' ⟨rfl, rfl⟩
    go_wp2_with fail
    refine (works_any _).mono ?_; rintro e w' ⟨rfl, rfl⟩
    go_wp2
    go_ret
    exact ⟨rfl, rfl⟩
theorem long_any (a b : Int) (ha : 0 ≤ a) (hb : 0 ≤ b) (ha' : a < 18446744073709551616) (hb' : b < 18446744073709551616) (w : World) :
    Calls Try.prog 7 #[.int .u64 a, .int .u64 b] w fun e w' => e = .returned (.bool true) ∧ w = w' := by
  by_cases h : b = 18446744073709551615
  · subst h; exact long_z a w
  · exact long_n a b ha hb ha' (by omega) w
set_option maxHeartbeats 400000 in
theorem narrow_any (fn a b high more : Int) (ha : 0 ≤ a) (hb : 0 ≤ b) (ha' : a < 18446744073709551616) (hb' : b < 18446744073709551616) (w : World) :
    Calls Try.prog 8 #[.int .i64 fn, .int .u64 a, .int .u64 b, .int .u64 high, .int .u64 more] w fun e w' => e = .returned (.bool true) ∧ w = w' := by
  have xa := wrap_in (x := a + IntKind.u64.wrap (high * 4294967296))
  have xb := wrap_in (x := b + IntKind.u64.wrap (more * 4294967296))
  have H1 := Lib.hid (do_any fn true a b ha hb ha' hb')
  have H2 := Lib.hid (do_any fn true (IntKind.u64.wrap (a + IntKind.u64.wrap (high * 4294967296))) (IntKind.u64.wrap (b + IntKind.u64.wrap (more * 4294967296))) xa.1 xb.1 xa.2 xb.2)
  have H3 := Lib.hid (amo_any fn 4 a b ha hb ha' hb')
  have H4 := Lib.hid (amo_any fn 4 (IntKind.u64.wrap (a + IntKind.u64.wrap (high * 4294967296))) (IntKind.u64.wrap (b + IntKind.u64.wrap (more * 4294967296))) xa.1 xb.1 xa.2 xb.2)
  rw [narrow_do narrow_arg narrow_arg] at H2
  rw [narrow_amo narrow_arg narrow_arg] at H4
  have hs : IntKind.u64.wrap (wrap64 (wrap32 (doV fn true a b))) = doV fn true a b := narrow_same fn a b
  have hl := narrow_lt fn a b
  clear ha hb ha' hb' xa xb
  generalize doV fn true a b = x at *
  generalize doB fn true = t at *
  generalize amoV fn 4 a b = y at *
  generalize amoB fn 4 = u at *
  go_enter Try.func8, Try.ntmps8
  go_wp2_with fail
  refine (H1.out _).mono ?_; rintro e w' ⟨rfl, rfl⟩
  go_wp2_with fail
  refine (H2.out _).mono ?_; rintro e w' ⟨rfl, rfl⟩
  go_wp2_with fail
  refine (H3.out _).mono ?_; rintro e w' ⟨rfl, rfl⟩
  go_wp2_with fail
  refine (H4.out _).mono ?_; rintro e w' ⟨rfl, rfl⟩
  go_wp2_with fail
  refine (works_any _).mono ?_; rintro e w' ⟨rfl, rfl⟩
  go_wp2
  go_ret
  exact ⟨rfl, rfl⟩
end Go.Proofs.Ytbklmhpbaddbkaa
