/-
  The law MuldivEither: the walk.
-/
import Derived.Test.YtbklmhpbaddbkaaRows
import Derived.Test.YtbklmhpbaddbkaaW8
import Derived.Test.YtbklmhpbaddbkaaM5
import Derived.LoopN
import Derived.Deep.QuietTactic
import Derived.BigQuiet
import Derived.WalkKit
import Derived.WalkSpells
import Derived.WalkLawsBesides
import Derived.Lib.Hide
set_option linter.unusedVariables false
set_option linter.unusedSimpArgs false
namespace Go.Proofs.Ytbklmhpbaddbkaa
open Go.RowKit

set_option maxRecDepth 100000 in
set_option maxHeartbeats 1000000 in
theorem either_eq_walk (a b x y z s : Int)  (w : World)
    (H16 : Hid (∀ w, Calls Try.prog 14 #[.int .i64 16, .int .i64 8, .int .u64 a, .int .u64 a] w fun e w' => e = .returned (.tuple #[.int .u64 a, .bool true]) ∧ w = w'))
    (H20 : Hid (∀ w, Calls Try.prog 14 #[.int .i64 20, .int .i64 8, .int .u64 a, .int .u64 a] w fun e w' => e = .returned (.tuple #[.int .u64 a, .bool true]) ∧ w = w'))
    (H24 : Hid (∀ w, Calls Try.prog 14 #[.int .i64 24, .int .i64 8, .int .u64 a, .int .u64 a] w fun e w' => e = .returned (.tuple #[.int .u64 a, .bool true]) ∧ w = w'))
    (H28 : Hid (∀ w, Calls Try.prog 14 #[.int .i64 28, .int .i64 8, .int .u64 a, .int .u64 a] w fun e w' => e = .returned (.tuple #[.int .u64 a, .bool true]) ∧ w = w'))
    (H1 : Hid (∀ w, Calls Try.prog 14 #[.int .i64 1, .int .i64 8, .int .u64 a, .int .u64 a] w fun e w' => e = .returned (.tuple #[.int .u64 a, .bool true]) ∧ w = w'))
    (H4 : Hid (∀ w, Calls Try.prog 14 #[.int .i64 4, .int .i64 8, .int .u64 a, .int .u64 a] w fun e w' => e = .returned (.tuple #[.int .u64 x, .bool true]) ∧ w = w'))
    (H4b : Hid (∀ w, Calls Try.prog 14 #[.int .i64 4, .int .i64 8, .int .u64 x, .int .u64 a] w fun e w' => e = .returned (.tuple #[.int .u64 a, .bool true]) ∧ w = w'))
    (H12 : Hid (∀ w, Calls Try.prog 14 #[.int .i64 12, .int .i64 8, .int .u64 a, .int .u64 a] w fun e w' => e = .returned (.tuple #[.int .u64 y, .bool true]) ∧ w = w'))
    (H8 : Hid (∀ w, Calls Try.prog 14 #[.int .i64 8, .int .i64 8, .int .u64 a, .int .u64 a] w fun e w' => e = .returned (.tuple #[.int .u64 z, .bool true]) ∧ w = w'))
    (H0 : Hid (∀ w, Calls Try.prog 14 #[.int .i64 0, .int .i64 8, .int .u64 a, .int .u64 a] w fun e w' => e = .returned (.tuple #[.int .u64 s, .bool true]) ∧ w = w'))
    (e1 : IntKind.u64.wrap (y + z) = s) (e2 : IntKind.u64.wrap (y + x) = z) :
    Calls Try.prog 9 #[.int .u64 a, .int .u64 a] w fun e w' => e = .returned (.bool true) ∧ Below w.heap.size w w' := by
  go_enter Try.func9, Try.ntmps9
  go_wp2_with fail
  refine wp_loop_rounds 3 ?_; rw [rounds_succ]
  go_wp2_with fail
  refine (H16.out _).mono ?_; rintro e w' ⟨rfl, rfl⟩
  go_wp2_with fail
  refine (H20.out _).mono ?_; rintro e w' ⟨rfl, rfl⟩
  go_wp2_with fail
  rw [rounds_succ]
  go_wp2_with fail
  refine (H24.out _).mono ?_; rintro e w' ⟨rfl, rfl⟩
  go_wp2_with fail
  refine (H28.out _).mono ?_; rintro e w' ⟨rfl, rfl⟩
  go_wp2_with fail
  rw [rounds_succ]
  go_wp2_with fail
  refine (H1.out _).mono ?_; rintro e w' ⟨rfl, rfl⟩
  go_wp2_with fail
  refine (H4.out _).mono ?_; rintro e w' ⟨rfl, rfl⟩
  go_wp2_with fail
  refine (H4b.out _).mono ?_; rintro e w' ⟨rfl, rfl⟩
  go_wp2_with fail
  refine (H12.out _).mono ?_; rintro e w' ⟨rfl, rfl⟩
  go_wp2_with fail
  refine (H8.out _).mono ?_; rintro e w' ⟨rfl, rfl⟩
  go_wp2_with fail
  refine (H0.out _).mono ?_; rintro e w' ⟨rfl, rfl⟩
  go_wp2_with fail
  refine (works_any _).mono ?_; rintro e w' ⟨rfl, rfl⟩
  go_wp2
  go_ret
  exact ⟨rfl, (((Below.refl _ _).alloc (Nat.le_refl _) _).alloc (by simp) _).alloc (by simp; omega) _⟩
set_option maxRecDepth 100000 in
set_option maxHeartbeats 1000000 in
theorem either_11 (a b x y z s : Int) (hne : a ≠ b) (hs : wrap64 a < wrap64 b) (hu : a < b) (w : World)
    (H16 : Hid (∀ w, Calls Try.prog 14 #[.int .i64 16, .int .i64 8, .int .u64 a, .int .u64 b] w fun e w' => e = .returned (.tuple #[.int .u64 a, .bool true]) ∧ w = w'))
    (H20 : Hid (∀ w, Calls Try.prog 14 #[.int .i64 20, .int .i64 8, .int .u64 a, .int .u64 b] w fun e w' => e = .returned (.tuple #[.int .u64 b, .bool true]) ∧ w = w'))
    (H24 : Hid (∀ w, Calls Try.prog 14 #[.int .i64 24, .int .i64 8, .int .u64 a, .int .u64 b] w fun e w' => e = .returned (.tuple #[.int .u64 a, .bool true]) ∧ w = w'))
    (H28 : Hid (∀ w, Calls Try.prog 14 #[.int .i64 28, .int .i64 8, .int .u64 a, .int .u64 b] w fun e w' => e = .returned (.tuple #[.int .u64 b, .bool true]) ∧ w = w'))
    (H1 : Hid (∀ w, Calls Try.prog 14 #[.int .i64 1, .int .i64 8, .int .u64 a, .int .u64 b] w fun e w' => e = .returned (.tuple #[.int .u64 b, .bool true]) ∧ w = w'))
    (H4 : Hid (∀ w, Calls Try.prog 14 #[.int .i64 4, .int .i64 8, .int .u64 a, .int .u64 b] w fun e w' => e = .returned (.tuple #[.int .u64 x, .bool true]) ∧ w = w'))
    (H4b : Hid (∀ w, Calls Try.prog 14 #[.int .i64 4, .int .i64 8, .int .u64 x, .int .u64 b] w fun e w' => e = .returned (.tuple #[.int .u64 a, .bool true]) ∧ w = w'))
    (H12 : Hid (∀ w, Calls Try.prog 14 #[.int .i64 12, .int .i64 8, .int .u64 a, .int .u64 b] w fun e w' => e = .returned (.tuple #[.int .u64 y, .bool true]) ∧ w = w'))
    (H8 : Hid (∀ w, Calls Try.prog 14 #[.int .i64 8, .int .i64 8, .int .u64 a, .int .u64 b] w fun e w' => e = .returned (.tuple #[.int .u64 z, .bool true]) ∧ w = w'))
    (H0 : Hid (∀ w, Calls Try.prog 14 #[.int .i64 0, .int .i64 8, .int .u64 a, .int .u64 b] w fun e w' => e = .returned (.tuple #[.int .u64 s, .bool true]) ∧ w = w'))
    (e1 : IntKind.u64.wrap (y + z) = s) (e2 : IntKind.u64.wrap (y + x) = z) :
    Calls Try.prog 9 #[.int .u64 a, .int .u64 b] w fun e w' => e = .returned (.bool true) ∧ Below w.heap.size w w' := by
  have q1 : (a == b) = false := by simpa using hne
  have q2 : (b == a) = false := by simpa using fun h => hne h.symm
  clear hne
  go_enter Try.func9, Try.ntmps9
  go_wp2_with fail
  refine wp_loop_rounds 3 ?_; rw [rounds_succ]
  go_wp2_with fail
  refine (H16.out _).mono ?_; rintro e w' ⟨rfl, rfl⟩
  go_wp2_with fail
  refine (H20.out _).mono ?_; rintro e w' ⟨rfl, rfl⟩
  go_wp2_with fail
  rw [rounds_succ]
  go_wp2_with fail
  refine (H24.out _).mono ?_; rintro e w' ⟨rfl, rfl⟩
  go_wp2_with fail
  refine (H28.out _).mono ?_; rintro e w' ⟨rfl, rfl⟩
  go_wp2_with fail
  rw [rounds_succ]
  go_wp2_with fail
  refine (H1.out _).mono ?_; rintro e w' ⟨rfl, rfl⟩
  go_wp2_with fail
  refine (H4.out _).mono ?_; rintro e w' ⟨rfl, rfl⟩
  go_wp2_with fail
  refine (H4b.out _).mono ?_; rintro e w' ⟨rfl, rfl⟩
  go_wp2_with fail
  refine (H12.out _).mono ?_; rintro e w' ⟨rfl, rfl⟩
  go_wp2_with fail
  refine (H8.out _).mono ?_; rintro e w' ⟨rfl, rfl⟩
  go_wp2_with fail
  refine (H0.out _).mono ?_; rintro e w' ⟨rfl, rfl⟩
  go_wp2_with fail
  refine (works_any _).mono ?_; rintro e w' ⟨rfl, rfl⟩
  go_wp2
  go_ret
  exact ⟨rfl, (((Below.refl _ _).alloc (Nat.le_refl _) _).alloc (by simp) _).alloc (by simp; omega) _⟩
set_option maxRecDepth 100000 in
set_option maxHeartbeats 1000000 in
theorem either_12 (a b x y z s : Int) (hne : a ≠ b) (hs : wrap64 a < wrap64 b) (hu : b < a) (w : World)
    (H16 : Hid (∀ w, Calls Try.prog 14 #[.int .i64 16, .int .i64 8, .int .u64 a, .int .u64 b] w fun e w' => e = .returned (.tuple #[.int .u64 a, .bool true]) ∧ w = w'))
    (H20 : Hid (∀ w, Calls Try.prog 14 #[.int .i64 20, .int .i64 8, .int .u64 a, .int .u64 b] w fun e w' => e = .returned (.tuple #[.int .u64 b, .bool true]) ∧ w = w'))
    (H24 : Hid (∀ w, Calls Try.prog 14 #[.int .i64 24, .int .i64 8, .int .u64 a, .int .u64 b] w fun e w' => e = .returned (.tuple #[.int .u64 b, .bool true]) ∧ w = w'))
    (H28 : Hid (∀ w, Calls Try.prog 14 #[.int .i64 28, .int .i64 8, .int .u64 a, .int .u64 b] w fun e w' => e = .returned (.tuple #[.int .u64 a, .bool true]) ∧ w = w'))
    (H1 : Hid (∀ w, Calls Try.prog 14 #[.int .i64 1, .int .i64 8, .int .u64 a, .int .u64 b] w fun e w' => e = .returned (.tuple #[.int .u64 b, .bool true]) ∧ w = w'))
    (H4 : Hid (∀ w, Calls Try.prog 14 #[.int .i64 4, .int .i64 8, .int .u64 a, .int .u64 b] w fun e w' => e = .returned (.tuple #[.int .u64 x, .bool true]) ∧ w = w'))
    (H4b : Hid (∀ w, Calls Try.prog 14 #[.int .i64 4, .int .i64 8, .int .u64 x, .int .u64 b] w fun e w' => e = .returned (.tuple #[.int .u64 a, .bool true]) ∧ w = w'))
    (H12 : Hid (∀ w, Calls Try.prog 14 #[.int .i64 12, .int .i64 8, .int .u64 a, .int .u64 b] w fun e w' => e = .returned (.tuple #[.int .u64 y, .bool true]) ∧ w = w'))
    (H8 : Hid (∀ w, Calls Try.prog 14 #[.int .i64 8, .int .i64 8, .int .u64 a, .int .u64 b] w fun e w' => e = .returned (.tuple #[.int .u64 z, .bool true]) ∧ w = w'))
    (H0 : Hid (∀ w, Calls Try.prog 14 #[.int .i64 0, .int .i64 8, .int .u64 a, .int .u64 b] w fun e w' => e = .returned (.tuple #[.int .u64 s, .bool true]) ∧ w = w'))
    (e1 : IntKind.u64.wrap (y + z) = s) (e2 : IntKind.u64.wrap (y + x) = z) :
    Calls Try.prog 9 #[.int .u64 a, .int .u64 b] w fun e w' => e = .returned (.bool true) ∧ Below w.heap.size w w' := by
  have q1 : (a == b) = false := by simpa using hne
  have q2 : (b == a) = false := by simpa using fun h => hne h.symm
  clear hne
  go_enter Try.func9, Try.ntmps9
  go_wp2_with fail
  refine wp_loop_rounds 3 ?_; rw [rounds_succ]
  go_wp2_with fail
  refine (H16.out _).mono ?_; rintro e w' ⟨rfl, rfl⟩
  go_wp2_with fail
  refine (H20.out _).mono ?_; rintro e w' ⟨rfl, rfl⟩
  go_wp2_with fail
  rw [rounds_succ]
  go_wp2_with fail
  refine (H24.out _).mono ?_; rintro e w' ⟨rfl, rfl⟩
  go_wp2_with fail
  refine (H28.out _).mono ?_; rintro e w' ⟨rfl, rfl⟩
  go_wp2_with fail
  rw [rounds_succ]
  go_wp2_with fail
  refine (H1.out _).mono ?_; rintro e w' ⟨rfl, rfl⟩
  go_wp2_with fail
  refine (H4.out _).mono ?_; rintro e w' ⟨rfl, rfl⟩
  go_wp2_with fail
  refine (H4b.out _).mono ?_; rintro e w' ⟨rfl, rfl⟩
  go_wp2_with fail
  refine (H12.out _).mono ?_; rintro e w' ⟨rfl, rfl⟩
  go_wp2_with fail
  refine (H8.out _).mono ?_; rintro e w' ⟨rfl, rfl⟩
  go_wp2_with fail
  refine (H0.out _).mono ?_; rintro e w' ⟨rfl, rfl⟩
  go_wp2_with fail
  refine (works_any _).mono ?_; rintro e w' ⟨rfl, rfl⟩
  go_wp2
  go_ret
  exact ⟨rfl, (((Below.refl _ _).alloc (Nat.le_refl _) _).alloc (by simp) _).alloc (by simp; omega) _⟩
set_option maxRecDepth 100000 in
set_option maxHeartbeats 1000000 in
theorem either_21 (a b x y z s : Int) (hne : a ≠ b) (hs : wrap64 b < wrap64 a) (hu : a < b) (w : World)
    (H16 : Hid (∀ w, Calls Try.prog 14 #[.int .i64 16, .int .i64 8, .int .u64 a, .int .u64 b] w fun e w' => e = .returned (.tuple #[.int .u64 b, .bool true]) ∧ w = w'))
    (H20 : Hid (∀ w, Calls Try.prog 14 #[.int .i64 20, .int .i64 8, .int .u64 a, .int .u64 b] w fun e w' => e = .returned (.tuple #[.int .u64 a, .bool true]) ∧ w = w'))
    (H24 : Hid (∀ w, Calls Try.prog 14 #[.int .i64 24, .int .i64 8, .int .u64 a, .int .u64 b] w fun e w' => e = .returned (.tuple #[.int .u64 a, .bool true]) ∧ w = w'))
    (H28 : Hid (∀ w, Calls Try.prog 14 #[.int .i64 28, .int .i64 8, .int .u64 a, .int .u64 b] w fun e w' => e = .returned (.tuple #[.int .u64 b, .bool true]) ∧ w = w'))
    (H1 : Hid (∀ w, Calls Try.prog 14 #[.int .i64 1, .int .i64 8, .int .u64 a, .int .u64 b] w fun e w' => e = .returned (.tuple #[.int .u64 b, .bool true]) ∧ w = w'))
    (H4 : Hid (∀ w, Calls Try.prog 14 #[.int .i64 4, .int .i64 8, .int .u64 a, .int .u64 b] w fun e w' => e = .returned (.tuple #[.int .u64 x, .bool true]) ∧ w = w'))
    (H4b : Hid (∀ w, Calls Try.prog 14 #[.int .i64 4, .int .i64 8, .int .u64 x, .int .u64 b] w fun e w' => e = .returned (.tuple #[.int .u64 a, .bool true]) ∧ w = w'))
    (H12 : Hid (∀ w, Calls Try.prog 14 #[.int .i64 12, .int .i64 8, .int .u64 a, .int .u64 b] w fun e w' => e = .returned (.tuple #[.int .u64 y, .bool true]) ∧ w = w'))
    (H8 : Hid (∀ w, Calls Try.prog 14 #[.int .i64 8, .int .i64 8, .int .u64 a, .int .u64 b] w fun e w' => e = .returned (.tuple #[.int .u64 z, .bool true]) ∧ w = w'))
    (H0 : Hid (∀ w, Calls Try.prog 14 #[.int .i64 0, .int .i64 8, .int .u64 a, .int .u64 b] w fun e w' => e = .returned (.tuple #[.int .u64 s, .bool true]) ∧ w = w'))
    (e1 : IntKind.u64.wrap (y + z) = s) (e2 : IntKind.u64.wrap (y + x) = z) :
    Calls Try.prog 9 #[.int .u64 a, .int .u64 b] w fun e w' => e = .returned (.bool true) ∧ Below w.heap.size w w' := by
  have q1 : (a == b) = false := by simpa using hne
  have q2 : (b == a) = false := by simpa using fun h => hne h.symm
  clear hne
  go_enter Try.func9, Try.ntmps9
  go_wp2_with fail
  refine wp_loop_rounds 3 ?_; rw [rounds_succ]
  go_wp2_with fail
  refine (H16.out _).mono ?_; rintro e w' ⟨rfl, rfl⟩
  go_wp2_with fail
  refine (H20.out _).mono ?_; rintro e w' ⟨rfl, rfl⟩
  go_wp2_with fail
  rw [rounds_succ]
  go_wp2_with fail
  refine (H24.out _).mono ?_; rintro e w' ⟨rfl, rfl⟩
  go_wp2_with fail
  refine (H28.out _).mono ?_; rintro e w' ⟨rfl, rfl⟩
  go_wp2_with fail
  rw [rounds_succ]
  go_wp2_with fail
  refine (H1.out _).mono ?_; rintro e w' ⟨rfl, rfl⟩
  go_wp2_with fail
  refine (H4.out _).mono ?_; rintro e w' ⟨rfl, rfl⟩
  go_wp2_with fail
  refine (H4b.out _).mono ?_; rintro e w' ⟨rfl, rfl⟩
  go_wp2_with fail
  refine (H12.out _).mono ?_; rintro e w' ⟨rfl, rfl⟩
  go_wp2_with fail
  refine (H8.out _).mono ?_; rintro e w' ⟨rfl, rfl⟩
  go_wp2_with fail
  refine (H0.out _).mono ?_; rintro e w' ⟨rfl, rfl⟩
  go_wp2_with fail
  refine (works_any _).mono ?_; rintro e w' ⟨rfl, rfl⟩
  go_wp2
  go_ret
  exact ⟨rfl, (((Below.refl _ _).alloc (Nat.le_refl _) _).alloc (by simp) _).alloc (by simp; omega) _⟩
set_option maxRecDepth 100000 in
set_option maxHeartbeats 1000000 in
theorem either_22 (a b x y z s : Int) (hne : a ≠ b) (hs : wrap64 b < wrap64 a) (hu : b < a) (w : World)
    (H16 : Hid (∀ w, Calls Try.prog 14 #[.int .i64 16, .int .i64 8, .int .u64 a, .int .u64 b] w fun e w' => e = .returned (.tuple #[.int .u64 b, .bool true]) ∧ w = w'))
    (H20 : Hid (∀ w, Calls Try.prog 14 #[.int .i64 20, .int .i64 8, .int .u64 a, .int .u64 b] w fun e w' => e = .returned (.tuple #[.int .u64 a, .bool true]) ∧ w = w'))
    (H24 : Hid (∀ w, Calls Try.prog 14 #[.int .i64 24, .int .i64 8, .int .u64 a, .int .u64 b] w fun e w' => e = .returned (.tuple #[.int .u64 b, .bool true]) ∧ w = w'))
    (H28 : Hid (∀ w, Calls Try.prog 14 #[.int .i64 28, .int .i64 8, .int .u64 a, .int .u64 b] w fun e w' => e = .returned (.tuple #[.int .u64 a, .bool true]) ∧ w = w'))
    (H1 : Hid (∀ w, Calls Try.prog 14 #[.int .i64 1, .int .i64 8, .int .u64 a, .int .u64 b] w fun e w' => e = .returned (.tuple #[.int .u64 b, .bool true]) ∧ w = w'))
    (H4 : Hid (∀ w, Calls Try.prog 14 #[.int .i64 4, .int .i64 8, .int .u64 a, .int .u64 b] w fun e w' => e = .returned (.tuple #[.int .u64 x, .bool true]) ∧ w = w'))
    (H4b : Hid (∀ w, Calls Try.prog 14 #[.int .i64 4, .int .i64 8, .int .u64 x, .int .u64 b] w fun e w' => e = .returned (.tuple #[.int .u64 a, .bool true]) ∧ w = w'))
    (H12 : Hid (∀ w, Calls Try.prog 14 #[.int .i64 12, .int .i64 8, .int .u64 a, .int .u64 b] w fun e w' => e = .returned (.tuple #[.int .u64 y, .bool true]) ∧ w = w'))
    (H8 : Hid (∀ w, Calls Try.prog 14 #[.int .i64 8, .int .i64 8, .int .u64 a, .int .u64 b] w fun e w' => e = .returned (.tuple #[.int .u64 z, .bool true]) ∧ w = w'))
    (H0 : Hid (∀ w, Calls Try.prog 14 #[.int .i64 0, .int .i64 8, .int .u64 a, .int .u64 b] w fun e w' => e = .returned (.tuple #[.int .u64 s, .bool true]) ∧ w = w'))
    (e1 : IntKind.u64.wrap (y + z) = s) (e2 : IntKind.u64.wrap (y + x) = z) :
    Calls Try.prog 9 #[.int .u64 a, .int .u64 b] w fun e w' => e = .returned (.bool true) ∧ Below w.heap.size w w' := by
  have q1 : (a == b) = false := by simpa using hne
  have q2 : (b == a) = false := by simpa using fun h => hne h.symm
  clear hne
  go_enter Try.func9, Try.ntmps9
  go_wp2_with fail
  refine wp_loop_rounds 3 ?_; rw [rounds_succ]
  go_wp2_with fail
  refine (H16.out _).mono ?_; rintro e w' ⟨rfl, rfl⟩
  go_wp2_with fail
  refine (H20.out _).mono ?_; rintro e w' ⟨rfl, rfl⟩
  go_wp2_with fail
  rw [rounds_succ]
  go_wp2_with fail
  refine (H24.out _).mono ?_; rintro e w' ⟨rfl, rfl⟩
  go_wp2_with fail
  refine (H28.out _).mono ?_; rintro e w' ⟨rfl, rfl⟩
  go_wp2_with fail
  rw [rounds_succ]
  go_wp2_with fail
  refine (H1.out _).mono ?_; rintro e w' ⟨rfl, rfl⟩
  go_wp2_with fail
  refine (H4.out _).mono ?_; rintro e w' ⟨rfl, rfl⟩
  go_wp2_with fail
  refine (H4b.out _).mono ?_; rintro e w' ⟨rfl, rfl⟩
  go_wp2_with fail
  refine (H12.out _).mono ?_; rintro e w' ⟨rfl, rfl⟩
  go_wp2_with fail
  refine (H8.out _).mono ?_; rintro e w' ⟨rfl, rfl⟩
  go_wp2_with fail
  refine (H0.out _).mono ?_; rintro e w' ⟨rfl, rfl⟩
  go_wp2_with fail
  refine (works_any _).mono ?_; rintro e w' ⟨rfl, rfl⟩
  go_wp2
  go_ret
  exact ⟨rfl, (((Below.refl _ _).alloc (Nat.le_refl _) _).alloc (by simp) _).alloc (by simp; omega) _⟩

theorem either_any (a b : Int) (ha : 0 ≤ a) (hb : 0 ≤ b) (ha' : a < 18446744073709551616) (hb' : b < 18446744073709551616) (w : World) :
    Calls Try.prog 9 #[.int .u64 a, .int .u64 b] w fun e w' => e = .returned (.bool true) ∧ Below w.heap.size w w' := by
  obtain ⟨e0, e1, e2⟩ := either_bits ha hb ha' hb'
  have H := fun k => amo_any k 8 a b ha hb ha' hb'
  have hx0 : 0 ≤ bits .xor .u64 a b := bits_lo_u64 _ _ _
  have hx1 : bits .xor .u64 a b < 18446744073709551616 := by have := bits_hi_u64 .xor a b; omega
  have H4b := amo_any 4 8 (bits .xor .u64 a b) b hx0 hb hx1 hb'
  rw [show amoV 4 8 (bits .xor .u64 a b) b = a from e0] at H4b
  have H1 := H 1
  have H4 := H 4
  have H12 := H 12
  have H8 := H 8
  have H0 := H 0
  have H16 := H 16
  have H20 := H 20
  have H24 := H 24
  have H28 := H 28
  rw [show amoV 1 8 a b = b from rfl] at H1
  rw [show amoV 4 8 a b = bits .xor .u64 a b from rfl] at H4
  rw [show amoV 12 8 a b = bits .and .u64 a b from rfl] at H12
  rw [show amoV 8 8 a b = bits .or .u64 a b from rfl] at H8
  rw [show amoV 0 8 a b = uw (a + b) from rfl] at H0
  by_cases hne : a = b
  · subst hne
    obtain ⟨q1, q2, q3, q4⟩ := either_eq ha ha'
    rw [q1] at H16; rw [q2] at H20; rw [q3] at H24; rw [q4] at H28
    exact either_eq_walk a a _ _ _ _ w (Lib.hid H16) (Lib.hid H20) (Lib.hid H24) (Lib.hid H28) (Lib.hid H1) (Lib.hid H4) (Lib.hid H4b) (Lib.hid H12) (Lib.hid H8) (Lib.hid H0) e1 e2
  · rcases either_s ha hb ha' hb' hne with ⟨q1, q2, q5⟩ | ⟨q1, q2, q5⟩ <;> rcases either_u hne with ⟨q3, q4, q6⟩ | ⟨q3, q4, q6⟩
    all_goals (rw [q1] at H16; rw [q2] at H20; rw [q3] at H24; rw [q4] at H28)
    · exact either_11 a b _ _ _ _ hne q5 q6 w (Lib.hid H16) (Lib.hid H20) (Lib.hid H24) (Lib.hid H28) (Lib.hid H1) (Lib.hid H4) (Lib.hid H4b) (Lib.hid H12) (Lib.hid H8) (Lib.hid H0) e1 e2
    · exact either_12 a b _ _ _ _ hne q5 q6 w (Lib.hid H16) (Lib.hid H20) (Lib.hid H24) (Lib.hid H28) (Lib.hid H1) (Lib.hid H4) (Lib.hid H4b) (Lib.hid H12) (Lib.hid H8) (Lib.hid H0) e1 e2
    · exact either_21 a b _ _ _ _ hne q5 q6 w (Lib.hid H16) (Lib.hid H20) (Lib.hid H24) (Lib.hid H28) (Lib.hid H1) (Lib.hid H4) (Lib.hid H4b) (Lib.hid H12) (Lib.hid H8) (Lib.hid H0) e1 e2
    · exact either_22 a b _ _ _ _ hne q5 q6 w (Lib.hid H16) (Lib.hid H20) (Lib.hid H24) (Lib.hid H28) (Lib.hid H1) (Lib.hid H4) (Lib.hid H4b) (Lib.hid H12) (Lib.hid H8) (Lib.hid H0) e1 e2
end Go.Proofs.Ytbklmhpbaddbkaa
