/-
  Plain arithmetic of the layer muldiv: what follows of products, quotients and rests.
-/
import Derived.Test.YtbklmhpbaddbkaaM3
namespace Go.Proofs.Ytbklmhpbaddbkaa
open Go.RowKit

theorem wf_u64 {a : Int} (h : (Lit.int .u64 a).wf = true) : 0 ≤ a ∧ a < 18446744073709551616 := by
  have hmin : IntKind.u64.min = 0 := rfl
  have hmax : IntKind.u64.max = 18446744073709551615 := rfl
  simp only [Lit.wf, Bool.and_eq_true, decide_eq_true_eq] at h
  omega
theorem mul_mod64 {a b x y : Int} (h1 : (x - a) % 18446744073709551616 = 0) (h2 : (y - b) % 18446744073709551616 = 0) : (x * y - a * b) % 18446744073709551616 = 0 := by
  obtain ⟨p, hp⟩ : ∃ p, x = a + 18446744073709551616 * p := ⟨(x - a) / 18446744073709551616, by omega⟩
  obtain ⟨q, hq⟩ : ∃ q, y = b + 18446744073709551616 * q := ⟨(y - b) / 18446744073709551616, by omega⟩
  have : x * y - a * b = 18446744073709551616 * (a * q + p * b + 18446744073709551616 * (p * q)) := by rw [hp, hq]; grind
  rw [this]; omega
theorem wrap_mod64 (a : Int) : (wrap64 a - a) % 18446744073709551616 = 0 := by unfold wrap64; omega
theorem uw_sub (a : Int) : (uw a - a) % 18446744073709551616 = 0 := by unfold uw; simp only [IntKind.wrap_u64]; omega
theorem uw_congr {x y : Int} (h : (x - y) % 18446744073709551616 = 0) : uw x = uw y := by
  unfold uw; simp only [IntKind.wrap_u64]; omega

theorem divV_eq {a b : Int} (hb : b ≠ 0) : divV a b = uw ((wrap64 a).tdiv (wrap64 b)) := by
  unfold divV
  rw [if_neg hb]
  split
  · rename_i h
    rw [h, Int.tdiv_neg, Int.tdiv_one]
    have := wrap_mod64 a
    exact uw_congr (by omega)
  · exact uw_congr (wrap_mod64 _)
theorem remV_eq {a b : Int} (hb : b ≠ 0) : remV a b = uw ((wrap64 a).tmod (wrap64 b)) := by
  unfold remV
  rw [if_neg hb]
  split
  · rename_i h
    rw [h, Int.tmod_neg, Int.tmod_one]; rfl
  · rfl

theorem rest_u {a b : Int} (ha : 0 ≤ a) (hb : 0 < b) (ha' : a < 18446744073709551616) :
    IntKind.u64.wrap (IntKind.u64.wrap (ofV 5 a b * b) + ofV 7 a b) = a ∧ ofV 7 a b < b := by
  have e5 : ofV 5 a b = a / b := by simp [ofV, doB, isWide, doV, wideV, divuV]; omega
  have e7 : ofV 7 a b = a % b := by simp [ofV, doB, isWide, doV, wideV, remuV]; omega
  rw [e5, e7]
  have h1 := Int.mul_ediv_add_emod a b
  have h0 := Int.emod_nonneg a (show b ≠ 0 by omega)
  have h2 := Int.emod_lt_of_pos a hb
  rw [Int.mul_comm] at h1
  refine ⟨?_, h2⟩
  generalize a / b * b = P at *
  simp only [IntKind.wrap_u64]
  omega

theorem rest_s {a b : Int} (ha : 0 ≤ a) (hb : 0 < b) (ha' : a < 18446744073709551616) (hb' : b < 18446744073709551616) :
    IntKind.u64.wrap (IntKind.u64.wrap (ofV 4 a b * b) + ofV 6 a b) = a ∧ sizeV (ofV 6 a b) < sizeV b ∧ (ofV 6 a b ≠ 0 → decide (wrap64 (ofV 6 a b) < 0) = decide (wrap64 a < 0)) ∧ 0 ≤ ofV 6 a b ∧ ofV 6 a b < 18446744073709551616 := by
  have e4 : ofV 4 a b = uw ((wrap64 a).tdiv (wrap64 b)) := by rw [← divV_eq (show b ≠ 0 by omega)]; rfl
  have e6 : ofV 6 a b = uw ((wrap64 a).tmod (wrap64 b)) := by rw [← remV_eq (show b ≠ 0 by omega)]; rfl
  rw [e4, e6]
  obtain ⟨eb, gb⟩ := size_eq (Int.le_of_lt hb) hb'
  rw [eb]
  have wa := wrap_mod64 a
  have wb := wrap_mod64 b
  have y0 : wrap64 b ≠ 0 := by omega
  have xr : -9223372036854775808 ≤ wrap64 a ∧ wrap64 a < 9223372036854775808 := by unfold wrap64; omega
  have yr : -9223372036854775808 ≤ wrap64 b ∧ wrap64 b < 9223372036854775808 := by unfold wrap64; omega
  generalize hx : wrap64 a = x at *
  generalize hy : wrap64 b = y at *
  have hm : y * x.tdiv y + x.tmod y = x := Int.mul_tdiv_add_tmod x y
  have hn : (x.tmod y).natAbs < y.natAbs := by
    rw [Int.natAbs_tmod]; exact Nat.mod_lt _ (by omega)
  have hs := tmod_signs x y
  have hl := natAbs_emod_le x y
  generalize hq : x.tdiv y = q at *
  generalize ht : x.tmod y = t at *
  have hwt : wrap64 (uw t) = t := by unfold wrap64 uw; simp only [IntKind.wrap_u64]; omega
  have hu0 := uw_nonneg t
  have hu1 := uw_lt t
  obtain ⟨et, -⟩ := size_eq hu0 hu1
  refine ⟨?_, ?_, ?_, hu0, hu1⟩
  · have h1 := mul_mod64 (uw_sub q) (show (b - y) % 18446744073709551616 = 0 by omega)
    have h2 := uw_sub t
    have h3 := uw_sub (uw q * b)
    rw [show IntKind.u64.wrap (uw q * b) = uw (uw q * b) from rfl]
    have hm2 : q * y + t = x := by rw [Int.mul_comm]; exact hm
    generalize q * y = Q at *
    simp only [IntKind.wrap_u64]
    omega
  · rw [et, hwt]; omega
  · rw [hwt]
    intro h
    have : t ≠ 0 := by intro e; rw [e] at h; exact h rfl
    rw [decide_eq_decide]
    split at hs <;> omega

theorem hiV_comm (a b : Int) : hiV a b = hiV b a := by unfold hiV; rw [Int.mul_comm]
theorem sgn_comm (a b : Int) : sgnV a b true = sgnV b a true := by
  unfold sgnV uw
  rw [hiV_comm b a]
  simp only [IntKind.wrap_u64, true_and]
  (repeat' split) <;> omega
theorem mul_dist (a b c : Int) : uw (a * uw (b + c)) = uw (uw (a * b) + uw (a * c)) := by
  have h1 := mul_mod64 (a := a) (x := a) (b := b + c) (y := uw (b + c)) (by omega) (uw_sub _)
  have h2 := uw_sub (a * b)
  have h3 := uw_sub (a * c)
  rw [Int.mul_add] at h1
  exact uw_congr (by omega)

theorem long_math {a b : Int} (ha : 0 ≤ a) (hb : 0 ≤ b) (ha' : a < 18446744073709551616) (hb' : b < 18446744073709551615) :
    uw (b + 1) = b + 1 ∧ uw (a * (b + 1)) = uw (uw (a * b) + a) ∧
    (uw (uw (a * b) + a) < uw (a * b) → hiV a (b + 1) = uw (hiV a b + 1)) ∧ (uw (a * b) ≤ uw (uw (a * b) + a) → hiV a (b + 1) = hiV a b) ∧ 0 ≤ uw (a * b) := by
  have hl := hiV_lt ha (show 0 ≤ b + 1 by omega) ha' (by omega)
  have h0 := hiV_nonneg ha hb
  have e : a * (b + 1) = a * b + a := by rw [Int.mul_add]; simp
  unfold hiV at *
  rw [e] at hl
  rw [e]
  have hp := Int.mul_nonneg ha hb
  generalize a * b = P at *
  unfold uw; simp only [IntKind.wrap_u64]
  omega

theorem s32_idem (x : Int) : s32 (s32 x) = s32 x := uw_mod _ _ (s32_mod x)
theorem l32_mod {x y : Int} (h : (x - y) % 4294967296 = 0) : l32 x = l32 y := by unfold l32; omega
theorem narrow_arg {a high : Int} : (IntKind.u64.wrap (a + IntKind.u64.wrap (high * 4294967296)) - a) % 4294967296 = 0 := by
  simp only [IntKind.wrap_u64]; omega
theorem narrow_do {fn a b a' b' : Int} (h1 : (a' - a) % 4294967296 = 0) (h2 : (b' - b) % 4294967296 = 0) : doV fn true a' b' = doV fn true a b := by
  unfold doV wordV
  rw [uw_mod a' a h1, uw_mod b' b h2, l32_mod h1, l32_mod h2]
  have h3 := mul_mod32 h1 h2
  have h4 := uw_mod64 (a * b)
  have h5 := uw_mod64 (a' * b')
  rw [uw_mod (uw (a' * b')) (uw (a * b)) (by omega)]
  simp
theorem narrow_amo {fn a b a' b' : Int} (h1 : (a' - a) % 4294967296 = 0) (h2 : (b' - b) % 4294967296 = 0) : amoV fn 4 a' b' = amoV fn 4 a b := by
  unfold amoV
  rw [uw_mod a' a h1, uw_mod b' b h2]
  simp
theorem narrow_same (fn a b : Int) : s32 (doV fn true a b) = doV fn true a b := by
  unfold doV wordV
  (repeat' split) <;> first | exact s32_idem _ | exact (by decide +kernel : s32 0 = 0) | (exfalso; simp_all; done)
theorem narrow_lt (fn a b : Int) : amoV fn 4 a b < 4294967296 := by
  unfold amoV l32
  (repeat' split) <;> omega
theorem wrap_in {x : Int} : 0 ≤ IntKind.u64.wrap x ∧ IntKind.u64.wrap x < 18446744073709551616 := ⟨uw_nonneg x, uw_lt x⟩
theorem doV_range (fn : Int) (w : Bool) {a b : Int} (ha : 0 ≤ a) (hb : 0 ≤ b) : 0 ≤ doV fn w a b := by
  unfold doV wordV
  (repeat' split) <;> first | exact s32_nonneg _ | exact wideV_nonneg _ ha hb | omega
end Go.Proofs.Ytbklmhpbaddbkaa
