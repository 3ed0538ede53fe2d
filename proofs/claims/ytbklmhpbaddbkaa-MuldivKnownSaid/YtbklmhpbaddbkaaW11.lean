/-
  The law MuldivKnown: the walk.
-/
import Derived.Test.YtbklmhpbaddbkaaRows
import Derived.Test.YtbklmhpbaddbkaaW9
import Derived.Test.YtbklmhpbaddbkaaW10
import Derived.Test.YtbklmhpbaddbkaaKin
import Derived.Deep.QuietTactic
import Derived.BigQuiet
import Derived.WalkKit
import Derived.WalkSpells
import Derived.WalkLawsBesides
import Derived.Lib.Hide
set_option linter.unusedVariables false
set_option linter.unusedSimpArgs false
namespace Go.Proofs.Ytbklmhpbaddbkaa
open Go.RowKit


def nv (i : Nat) : Int := ([0, 1, 2, 3, 7, 2147483647, 2147483648, 4294967295, 4294967296, 4294967304, 9223372036854775807, 9223372036854775808, 9223372036854775809, 18446744073709551609, 18446744073709551614, 18446744073709551615] : List Int).getD i 0
theorem nv_lo : ∀ i, i < 16 → 0 ≤ nv i := by decide +kernel
theorem nv_hi : ∀ i, i < 16 → nv i < 18446744073709551616 := by decide +kernel
/-- all that the loops ask of a world -/
def Nums (B : Nat) (W : World) : Prop := B < W.heap.size ∧ ∀ i, i < 16 → W.cell? ⟨B, i, none⟩ = some (.int .u64 (nv i))
theorem Nums.below {B : Nat} {W w : World} (h : Nums B W) (hb : Below W.heap.size W w) : Nums B w :=
  ⟨Nat.lt_of_lt_of_le h.1 hb.size, fun i hi => by rw [hb.cell (p := ⟨B, i, none⟩) h.1]; exact h.2 i hi⟩
theorem Nums.cell {B : Nat} {W : World} (h : Nums B W) (i : Nat) (hi : i < 16) : ∀ k : Kin W, k.w.cell? ⟨B, i, none⟩ = some (.int .u64 (nv i)) := fun k => kin_cell k (h.2 i hi) h.1
theorem nums_new (w : World) : Nums w.heap.size (w.alloc (.cells #[.int .u64 0, .int .u64 1, .int .u64 2, .int .u64 3, .int .u64 7, .int .u64 2147483647, .int .u64 2147483648, .int .u64 4294967295, .int .u64 4294967296, .int .u64 4294967304, .int .u64 9223372036854775807, .int .u64 9223372036854775808, .int .u64 9223372036854775809, .int .u64 18446744073709551609, .int .u64 18446744073709551614, .int .u64 18446744073709551615] 22)) := by
  refine ⟨by simp, ?_⟩
  intro i hi
  have : i = 0 ∨ i = 1 ∨ i = 2 ∨ i = 3 ∨ i = 4 ∨ i = 5 ∨ i = 6 ∨ i = 7 ∨ i = 8 ∨ i = 9 ∨ i = 10 ∨ i = 11 ∨ i = 12 ∨ i = 13 ∨ i = 14 ∨ i = 15 := by omega
  have h : (w.alloc (.cells #[.int .u64 0, .int .u64 1, .int .u64 2, .int .u64 3, .int .u64 7, .int .u64 2147483647, .int .u64 2147483648, .int .u64 4294967295, .int .u64 4294967296, .int .u64 4294967304, .int .u64 9223372036854775807, .int .u64 9223372036854775808, .int .u64 9223372036854775809, .int .u64 18446744073709551609, .int .u64 18446744073709551614, .int .u64 18446744073709551615] 22)).heap[w.heap.size]? = some (.cells #[.int .u64 0, .int .u64 1, .int .u64 2, .int .u64 3, .int .u64 7, .int .u64 2147483647, .int .u64 2147483648, .int .u64 4294967295, .int .u64 4294967296, .int .u64 4294967304, .int .u64 9223372036854775807, .int .u64 9223372036854775808, .int .u64 9223372036854775809, .int .u64 18446744073709551609, .int .u64 18446744073709551614, .int .u64 18446744073709551615] 22) := by
    show (w.heap.push _)[w.heap.size]? = _
    simp
  unfold World.cell?
  rw [h]
  rcases this with rfl | rfl | rfl | rfl | rfl | rfl | rfl | rfl | rfl | rfl | rfl | rfl | rfl | rfl | rfl | rfl
  all_goals rfl

theorem does_kn (fn : Int) (t : Bool) (n m : Nat) (hn : n < 16) (hm : m < 16) (w : World) : Calls Try.prog 3 #[.int .i64 fn, .bool t, .int .u64 (nv n), .int .u64 (nv m)] w fun e w' => e = .returned (.bool true) ∧ Below w.heap.size w w' :=
  calls_below (does_any fn t _ _ (nv_lo n hn) (nv_lo m hm) (nv_hi n hn) (nv_hi m hm) w)
theorem amos_kn (fn size : Int) (n m : Nat) (hn : n < 16) (hm : m < 16) (w : World) : Calls Try.prog 4 #[.int .i64 fn, .int .i64 size, .int .u64 (nv n), .int .u64 (nv m)] w fun e w' => e = .returned (.bool true) ∧ Below w.heap.size w w' :=
  calls_below (amos_any fn size _ _ (nv_lo n hn) (nv_lo m hm) (nv_hi n hn) (nv_hi m hm) w)
theorem rest_kn (n m : Nat) (hn : n < 16) (hm : m < 16) (w : World) : Calls Try.prog 5 #[.int .u64 (nv n), .int .u64 (nv m)] w fun e w' => e = .returned (.bool true) ∧ Below w.heap.size w w' :=
  calls_below' (rest_any _ _ (nv_lo n hn) (nv_lo m hm) (nv_hi n hn) (nv_hi m hm) w)
theorem halves_kn (n m : Nat) (hn : n < 16) (hm : m < 16) (w : World) : Calls Try.prog 6 #[.int .u64 (nv n), .int .u64 (nv m), .int .u64 (nv ((n + m) % 16))] w fun e w' => e = .returned (.bool true) ∧ Below w.heap.size w w' :=
  calls_below' (halves_any _ _ _ (nv_lo n hn) (nv_lo m hm) (nv_hi n hn) (nv_hi m hm) (nv_lo _ (by omega)) (nv_hi _ (by omega)) w)
theorem long_kn (n m : Nat) (hn : n < 16) (hm : m < 16) (w : World) : Calls Try.prog 7 #[.int .u64 (nv n), .int .u64 (nv m)] w fun e w' => e = .returned (.bool true) ∧ Below w.heap.size w w' :=
  calls_below' (long_any _ _ (nv_lo n hn) (nv_lo m hm) (nv_hi n hn) (nv_hi m hm) w)
theorem either_kn (n m : Nat) (hn : n < 16) (hm : m < 16) (w : World) : Calls Try.prog 9 #[.int .u64 (nv n), .int .u64 (nv m)] w fun e w' => e = .returned (.bool true) ∧ Below w.heap.size w w' :=
  either_any _ _ (nv_lo n hn) (nv_lo m hm) (nv_hi n hn) (nv_hi m hm) w

set_option maxRecDepth 100000 in
set_option maxHeartbeats 2000000 in
theorem known_any (w : World) : Calls Try.prog 10 #[] w fun e w' => e = .returned (.bool true) ∧ Below w.heap.size w w' := by
  go_enter Try.func10, Try.ntmps10
  go_wp2
  have hn := nums_new w
  have hb : Below w.heap.size w (w.alloc (.cells #[.int .u64 0, .int .u64 1, .int .u64 2, .int .u64 3, .int .u64 7, .int .u64 2147483647, .int .u64 2147483648, .int .u64 4294967295, .int .u64 4294967296, .int .u64 4294967304, .int .u64 9223372036854775807, .int .u64 9223372036854775808, .int .u64 9223372036854775809, .int .u64 18446744073709551609, .int .u64 18446744073709551614, .int .u64 18446744073709551615] 22)) := (Below.refl _ _).alloc (Nat.le_refl _) _
  generalize (w.alloc (.cells #[.int .u64 0, .int .u64 1, .int .u64 2, .int .u64 3, .int .u64 7, .int .u64 2147483647, .int .u64 2147483648, .int .u64 4294967295, .int .u64 4294967296, .int .u64 4294967304, .int .u64 9223372036854775807, .int .u64 9223372036854775808, .int .u64 9223372036854775809, .int .u64 18446744073709551609, .int .u64 18446744073709551614, .int .u64 18446744073709551615] 22)) = W at *
  generalize hBs : w.heap.size = B at *
  have HB := Lib.hid hBs
  clear hBs
  go_loopw [2] (fun i wr => ∃ n : Nat, n ≤ 16 ∧ i = .int .i64 n ∧ Nums B wr ∧ Below B w wr) (fun i _ => 16 - (intOf i).toNat)
  case atStart => exact ⟨0, by omega, rfl, hn, hb⟩
  case round =>
    rename_i W0
    clear hn hb
    obtain ⟨n, hn, rfl, hN, hB⟩ := hrel
    by_cases hlt : n < 16
    · have hd1 : decide ((n : Int) < 16) = true := by simp; omega
      go_wp2
      go_loopw [3] (fun i wr => ∃ m : Nat, m ≤ 16 ∧ i = .int .i64 m ∧ Nums B wr ∧ Below B w wr) (fun i _ => 16 - (intOf i).toNat)
      case atStart => exact ⟨0, by omega, rfl, hN, hB⟩
      case round =>
        clear hN hB
        obtain ⟨m, hm, rfl, hN, hB⟩ := hrel
        by_cases hlt2 : m < 16
        · have hd2 : decide ((m : Int) < 16) = true := by simp; omega
          go_wp2
          go_loopw [4] (fun f wr => ∃ c : Int, -1 ≤ c ∧ c ≤ 30 ∧ f = .int .i64 c ∧ Nums B wr ∧ Below B w wr) (fun f _ => (30 - intOf f).toNat)
          case atStart => exact ⟨-1, by omega, by omega, rfl, hN, hB⟩
          case round =>
            clear hN hB
            obtain ⟨c, hc, hc', rfl, hN, hB⟩ := hrel
            by_cases hlt3 : c ≤ 29
            · go_wp2
              have c1 := hN.cell n hlt
              have c2 := hN.cell m hlt2
              refine wp_region_kin (by kernel_rfl) (by kernel_rfl) ?_
              repeat (go_big_quiet_step (first | (go_at_call 3; exact kin_of (does_kn _ _ n m hlt hlt2 _)) | (go_at_call 4; exact kin_of (amos_kn _ _ n m hlt hlt2 _))))
              refine wpQuiet_nil ?_
              intro _ hw'
              obtain ⟨k, rfl⟩ := hw'
              have hN' := hN.below k.h
              have hB' := hB.trans (k.h.mono (Nat.le_of_lt hN.1))
              clear hN hB c1 c2
              go_wp2
              go_roundw
              case rel => exact ⟨c + 1, by omega, by omega, by go_num, hN', hB'⟩
              case measure => simp [intOf]; omega
            · go_wp2
              have c1 := hN.cell n hlt
              have c2 := hN.cell m hlt2
              have c3 := hN.cell ((n + m) % 16) (by omega)
              refine wp_region_kin (by kernel_rfl) (by kernel_rfl) ?_
              repeat (go_big_quiet_step (first | (go_at_call 5; exact kin_of (rest_kn n m hlt hlt2 _)) | (go_at_call 6; exact kin_of (halves_kn n m hlt hlt2 _)) | (go_at_call 7; exact kin_of (long_kn n m hlt hlt2 _)) | (go_at_call 9; exact kin_of (either_kn n m hlt hlt2 _))))
              refine wpQuiet_nil ?_
              intro _ hw'
              obtain ⟨k, rfl⟩ := hw'
              have hN' := hN.below k.h
              have hB' := hB.trans (k.h.mono (Nat.le_of_lt hN.1))
              clear hN hB c1 c2 c3
              go_wp2
              go_roundw
              case rel => first | exact ⟨m + 1, by omega, by go_num, hN', hB'⟩ | ((repeat apply Exists.intro); exact ⟨⟨m + 1, by omega, by go_num, hN', hB'⟩, rfl⟩)
              case measure => simp [intOf]; omega
        · go_wp2
          go_roundw
          case rel => first | exact ⟨n + 1, by omega, by go_num, hN, hB⟩ | ((repeat apply Exists.intro); exact ⟨⟨n + 1, by omega, by go_num, hN, hB⟩, rfl⟩)
          case measure => simp [intOf]; omega
    · go_wp2_with (go_at_call 13; refine (works_any _).mono ?_; rintro e w' ⟨rfl, rfl⟩)
      go_ret
      exact ⟨rfl, by rw [HB.out]; exact hB⟩
end Go.Proofs.Ytbklmhpbaddbkaa
