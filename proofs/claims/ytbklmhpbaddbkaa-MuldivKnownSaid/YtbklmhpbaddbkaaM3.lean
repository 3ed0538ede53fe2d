/-
  Plain arithmetic of the layer muldiv: what the document's own answer comes to.
-/
import Derived.Test.YtbklmhpbaddbkaaM2
namespace Go.Proofs.Ytbklmhpbaddbkaa
open Go.RowKit

theorem mul_le_32 {x y : Int} (hx : 0 ≤ x) (hy : 0 ≤ y) (hx' : x ≤ 4294967295) (hy' : y ≤ 4294967295) : 0 ≤ x * y ∧ x * y ≤ 18446744065119617025 := by
  refine ⟨Int.mul_nonneg hx hy, ?_⟩
  have h1 : x * y ≤ 4294967295 * y := Int.mul_le_mul_of_nonneg_right hx' hy
  omega

theorem high_math {a b : Int} (ha : 0 ≤ a) (hb : 0 ≤ b) (ha' : a < 18446744073709551616) (hb' : b < 18446744073709551616) :
    IntKind.u64.wrap
      (IntKind.u64.wrap
          (IntKind.u64.wrap (IntKind.u64.wrap (a.tdiv 4294967296) * IntKind.u64.wrap (b.tdiv 4294967296)) +
            IntKind.u64.wrap
              ((IntKind.u64.wrap
                    (IntKind.u64.wrap (IntKind.u64.wrap (a.tdiv 4294967296) * (b % 4294967296)) +
                      IntKind.u64.wrap ((IntKind.u64.wrap (a % 4294967296 * (b % 4294967296))).tdiv 4294967296))).tdiv
                4294967296)) +
        IntKind.u64.wrap
          ((IntKind.u64.wrap
                (IntKind.u64.wrap (a % 4294967296 * IntKind.u64.wrap (b.tdiv 4294967296)) +
                  (IntKind.u64.wrap
                        (IntKind.u64.wrap (IntKind.u64.wrap (a.tdiv 4294967296) * (b % 4294967296)) +
                          IntKind.u64.wrap
                            ((IntKind.u64.wrap (a % 4294967296 * (b % 4294967296))).tdiv 4294967296))).tmod
                    4294967296)).tdiv
            4294967296)) =
    hiV a b := by
  simp only [IntKind.wrap_u64]
  obtain ⟨al, hal⟩ : ∃ x, x = a % 4294967296 := ⟨_, rfl⟩
  obtain ⟨ah, hah⟩ : ∃ x, x = a / 4294967296 := ⟨_, rfl⟩
  obtain ⟨bl, hbl⟩ : ∃ x, x = b % 4294967296 := ⟨_, rfl⟩
  obtain ⟨bh, hbh⟩ : ∃ x, x = b / 4294967296 := ⟨_, rfl⟩
  have e1 : (a.tdiv 4294967296) % 18446744073709551616 = ah := by rw [Int.tdiv_eq_ediv_of_nonneg ha]; omega
  have e2 : (b.tdiv 4294967296) % 18446744073709551616 = bh := by rw [Int.tdiv_eq_ediv_of_nonneg hb]; omega
  rw [e1, e2, ← hal, ← hbl]
  have p := mul_le_32 (x := ah) (y := bh) (by omega) (by omega) (by omega) (by omega)
  have q := mul_le_32 (x := ah) (y := bl) (by omega) (by omega) (by omega) (by omega)
  have r := mul_le_32 (x := al) (y := bh) (by omega) (by omega) (by omega) (by omega)
  have s := mul_le_32 (x := al) (y := bl) (by omega) (by omega) (by omega) (by omega)
  have hab : a * b = 18446744073709551616 * (ah * bh) + 4294967296 * (ah * bl) + 4294967296 * (al * bh) + al * bl := by
    have h1 : a = 4294967296 * ah + al := by omega
    have h2 : b = 4294967296 * bh + bl := by omega
    rw [h1, h2]; grind
  unfold hiV
  rw [hab]
  generalize ah * bh = P at *
  generalize ah * bl = Q at *
  generalize al * bh = R at *
  generalize al * bl = S at *
  have f1 : S % 18446744073709551616 = S := by omega
  have f2 : Q % 18446744073709551616 = Q := by omega
  have f3 : R % 18446744073709551616 = R := by omega
  have f4 : P % 18446744073709551616 = P := by omega
  rw [f1, f2, f3, f4]
  rw [Int.tdiv_eq_ediv_of_nonneg s.1]
  have f5 : S / 4294967296 % 18446744073709551616 = S / 4294967296 := by omega
  rw [f5]
  have f6 : (Q + S / 4294967296) % 18446744073709551616 = Q + S / 4294967296 := by omega
  rw [f6, Int.tdiv_eq_ediv_of_nonneg (by omega), Int.tmod_eq_emod_of_nonneg (by omega), Int.tdiv_eq_ediv_of_nonneg (by omega)]
  omega
theorem Sign_math1 (a : Int) : 2147483648 ≤ a % 4294967296 → IntKind.u64.wrap (a % 4294967296 - 4294967296) = s32 a := by
  intro h; unfold s32 uw wrap64 wrap32; simp only [IntKind.wrap_u64]; omega
theorem Sign_math2 (a : Int) : a % 4294967296 < 2147483648 → a % 4294967296 = s32 a := by
  intro h; unfold s32 uw wrap64 wrap32; simp only [IntKind.wrap_u64]; omega
def sizeV (a : Int) : Int := if 9223372036854775808 ≤ a then uw (0 - a) else a
def lessV (a b : Int) : Bool := if (decide (9223372036854775808 ≤ a) != decide (9223372036854775808 ≤ b)) = true then decide (9223372036854775808 ≤ a) else decide (a < b)
/-- quotient and rest of what stands above the lowest j bits of a -/
def dq (a b : Int) (j : Nat) : Int := a / 2 ^ j / b
def dr (a b : Int) (j : Nat) : Int := a / 2 ^ j % b

theorem div_unique {A b q r : Int} (hb : 0 < b) (h : A = b * q + r) (h0 : 0 ≤ r) (h1 : r < b) : q = A / b ∧ r = A % b := by
  have hq : A / b = q := by
    rw [h, Int.add_comm, Int.add_mul_ediv_left _ _ (by omega), Int.ediv_eq_zero_of_lt h0 h1]; omega
  refine ⟨hq.symm, ?_⟩
  have := Int.mul_ediv_add_emod A b
  rw [hq] at this
  omega

theorem div_facts {a b : Int} (ha : 0 ≤ a) (hb : 0 < b) (ha' : a < 18446744073709551616) (i : Nat) :
    ∃ A q r bit : Int, A = a / 2 ^ i ∧ bit = A % 2 ∧ dq a b (i + 1) = q ∧ dr a b (i + 1) = r ∧ A = b * (2 * q) + (2 * r + bit) ∧ 0 ≤ r ∧ r < b ∧ 0 ≤ A ∧ A < 18446744073709551616 ∧ 0 ≤ q ∧ q ≤ A ∧ (a / 2 ^ i).tmod 2 = bit := by
  have hp : (0 : Int) < 2 ^ i := Int.pow_pos (by decide)
  have hA0 : 0 ≤ a / 2 ^ i := Int.ediv_nonneg ha (by omega)
  have hA1 : a / 2 ^ i ≤ a := Int.ediv_le_self _ ha
  have h2 : a / 2 ^ (i + 1) = a / 2 ^ i / 2 := by
    rw [Int.pow_succ, Int.ediv_ediv_of_nonneg (by omega)]
  refine ⟨a / 2 ^ i, a / 2 ^ i / 2 / b, a / 2 ^ i / 2 % b, a / 2 ^ i % 2, rfl, rfl, by rw [dq, h2], by rw [dr, h2], ?_, Int.emod_nonneg _ (by omega), Int.emod_lt_of_pos _ hb, hA0, by omega, Int.ediv_nonneg (by omega) (by omega), ?_, Int.tmod_eq_emod_of_nonneg hA0⟩
  · have e := Int.mul_ediv_add_emod (a / 2 ^ i / 2) b
    generalize a / 2 ^ i / 2 / b = q at *
    have e2 : b * (2 * q) = 2 * (b * q) := by grind
    rw [e2]
    omega
  · have := Int.ediv_le_self b (a := a / 2 ^ i / 2) (by omega)
    omega

theorem div_yes {a b : Int} (ha : 0 ≤ a) (hb : 0 < b) (ha' : a < 18446744073709551616) (hb' : b < 18446744073709551616) (i : Nat)
    (h : 9223372036854775808 ≤ dr a b (i + 1) ∨ b ≤ IntKind.u64.wrap (IntKind.u64.wrap (2 * dr a b (i + 1)) + (a / 2 ^ i).tmod 2)) :
    IntKind.u64.wrap (IntKind.u64.wrap (2 * dq a b (i + 1)) + 1) = dq a b i ∧
    IntKind.u64.wrap (IntKind.u64.wrap (IntKind.u64.wrap (2 * dr a b (i + 1)) + (a / 2 ^ i).tmod 2) - b) = dr a b i := by
  obtain ⟨A, q, r, bit, hA, hbit, hq, hr, e, r0, r1, A0, A1, q0, q1, ht⟩ := div_facts ha hb ha' i
  rw [hr, ht] at h
  rw [hq, hr, ht]
  simp only [IntKind.wrap_u64] at h
  simp only [IntKind.wrap_u64]
  have hge : b ≤ 2 * r + bit := by omega
  have hu := div_unique (q := 2 * q + 1) (r := 2 * r + bit - b) (A := A) hb (by
    have : b * (2 * q + 1) = b * (2 * q) + b := by grind
    rw [this]; omega) (by omega) (by omega)
  have hle : 2 * q + 1 ≤ A := by
    rw [hu.1]; exact Int.ediv_le_self _ A0
  unfold dq dr
  rw [← hA, ← hu.1, ← hu.2]
  omega

theorem div_no {a b : Int} (ha : 0 ≤ a) (hb : 0 < b) (ha' : a < 18446744073709551616) (hb' : b < 18446744073709551616) (i : Nat)
    (h : dr a b (i + 1) < 9223372036854775808 ∧ IntKind.u64.wrap (IntKind.u64.wrap (2 * dr a b (i + 1)) + (a / 2 ^ i).tmod 2) < b) :
    IntKind.u64.wrap (2 * dq a b (i + 1)) = dq a b i ∧
    IntKind.u64.wrap (IntKind.u64.wrap (2 * dr a b (i + 1)) + (a / 2 ^ i).tmod 2) = dr a b i := by
  obtain ⟨A, q, r, bit, hA, hbit, hq, hr, e, r0, r1, A0, A1, q0, q1, ht⟩ := div_facts ha hb ha' i
  rw [hr, ht] at h
  rw [hq, hr, ht]
  simp only [IntKind.wrap_u64] at h
  simp only [IntKind.wrap_u64]
  have hlt : 2 * r + bit < b := by omega
  have hu := div_unique (q := 2 * q) (r := 2 * r + bit) (A := A) hb e (by omega) hlt
  have hle : 2 * q ≤ A := by
    rw [hu.1]; exact Int.ediv_le_self _ A0
  unfold dq dr
  rw [← hA, ← hu.1, ← hu.2]
  omega
theorem div_start {a b : Int} (ha : 0 ≤ a) (ha' : a < 18446744073709551616) : dq a b 64 = 0 ∧ dr a b 64 = 0 := by
  unfold dq dr
  rw [show a / 2 ^ 64 = 0 from by omega]; simp
theorem div_end (a b : Int) : dq a b 0 = a / b ∧ dr a b 0 = a % b := by
  unfold dq dr; simp

theorem size_pos {b : Int} (hb : 0 < b) (hb' : b < 18446744073709551616) : 0 < sizeV b ∧ sizeV b < 18446744073709551616 := by
  unfold sizeV uw; simp only [IntKind.wrap_u64]; split <;> omega
theorem size_nonneg {b : Int} (hb : 0 ≤ b) (hb' : b < 18446744073709551616) : 0 ≤ sizeV b ∧ sizeV b < 18446744073709551616 := by
  unfold sizeV uw; simp only [IntKind.wrap_u64]; split <;> omega

/-- what the document's Signed tells -/
def sQ (a b : Int) : Int := if (decide (9223372036854775808 ≤ a) != decide (9223372036854775808 ≤ b)) = true then uw (0 - sizeV a / sizeV b) else sizeV a / sizeV b
def sR (a b : Int) : Int := if 9223372036854775808 ≤ a then uw (0 - sizeV a % sizeV b) else sizeV a % sizeV b

theorem size_eq {a : Int} (ha : 0 ≤ a) (ha' : a < 18446744073709551616) : sizeV a = (wrap64 a).natAbs ∧ (9223372036854775808 ≤ a ↔ wrap64 a < 0) := by
  unfold sizeV uw wrap64; simp only [IntKind.wrap_u64]; split <;> omega

theorem tdiv_signs (x y : Int) : x.tdiv y = if (decide (x < 0) != decide (y < 0)) = true then -((x.natAbs : Int) / (y.natAbs : Int)) else (x.natAbs : Int) / (y.natAbs : Int) := by
  by_cases hx : x < 0 <;> by_cases hy : y < 0 <;> simp only [hx, hy, decide_true, decide_false, bne_self_eq_false, Bool.false_eq_true, if_false, Bool.true_bne, Bool.false_bne, Bool.not_false, if_true]
  · rw [show (x.natAbs : Int) = -x from by omega, show (y.natAbs : Int) = -y from by omega, ← Int.tdiv_eq_ediv_of_nonneg (by omega), Int.neg_tdiv, Int.tdiv_neg]; omega
  · rw [show (x.natAbs : Int) = -x from by omega, show (y.natAbs : Int) = y from by omega, ← Int.tdiv_eq_ediv_of_nonneg (by omega), Int.neg_tdiv]; omega
  · rw [show (x.natAbs : Int) = x from by omega, show (y.natAbs : Int) = -y from by omega, ← Int.tdiv_eq_ediv_of_nonneg (by omega), Int.tdiv_neg]; omega
  · rw [show (x.natAbs : Int) = x from by omega, show (y.natAbs : Int) = y from by omega, ← Int.tdiv_eq_ediv_of_nonneg (by omega)]
theorem tmod_signs (x y : Int) : x.tmod y = if x < 0 then -((x.natAbs : Int) % (y.natAbs : Int)) else (x.natAbs : Int) % (y.natAbs : Int) := by
  have h : x.tmod y = x.tmod (y.natAbs : Int) := by
    rcases Int.natAbs_eq y with e | e
    · rw [← e]
    · rw [show (y.natAbs : Int) = -y from by omega, Int.tmod_neg]
  rw [h]
  by_cases hx : x < 0
  · rw [if_pos hx, show (x.natAbs : Int) = -x from by omega, ← Int.tmod_eq_emod_of_nonneg (by omega), Int.neg_tmod]; omega
  · rw [if_neg hx, show (x.natAbs : Int) = x from by omega, ← Int.tmod_eq_emod_of_nonneg (by omega)]

theorem natAbs_ediv_le (x y : Int) : 0 ≤ (x.natAbs : Int) / (y.natAbs : Int) ∧ (x.natAbs : Int) / (y.natAbs : Int) ≤ x.natAbs :=
  ⟨Int.ediv_nonneg (by omega) (by omega), Int.ediv_le_self _ (by omega)⟩
theorem natAbs_emod_le (x y : Int) : 0 ≤ (x.natAbs : Int) % (y.natAbs : Int) ∧ (x.natAbs : Int) % (y.natAbs : Int) ≤ x.natAbs := by
  have h1 : (x.natAbs : Int) % (y.natAbs : Int) = ((x.natAbs % y.natAbs : Nat) : Int) := by simp
  rw [h1]
  have := Nat.mod_le x.natAbs y.natAbs
  omega

theorem uw_neg_wrap (q : Int) : uw (0 - q) = uw (wrap64 (-q)) := by
  unfold uw wrap64; simp only [IntKind.wrap_u64]; omega
theorem uw_wrap_id {q : Int} (h0 : 0 ≤ q) (h1 : q < 18446744073709551616) : q = uw (wrap64 q) := by
  unfold uw wrap64; simp only [IntKind.wrap_u64]; omega
theorem signed_q {a b : Int} (ha : 0 ≤ a) (hb : 0 < b) (ha' : a < 18446744073709551616) (hb' : b < 18446744073709551616) : sQ a b = divV a b := by
  obtain ⟨ea, ga⟩ := size_eq ha ha'
  obtain ⟨eb, gb⟩ := size_eq (Int.le_of_lt hb) hb'
  have ra : -9223372036854775808 ≤ wrap64 a ∧ wrap64 a < 9223372036854775808 ∧ (wrap64 a - a) % 18446744073709551616 = 0 := by unfold wrap64; omega
  unfold sQ divV
  rw [if_neg (show ¬ b = 0 by omega), ea, eb, tdiv_signs]
  simp only [ga, gb]
  generalize wrap64 a = x at *
  generalize wrap64 b = y at *
  have hl := natAbs_ediv_le x y
  by_cases h : y = -1
  · subst h
    rw [if_pos rfl]
    simp only [Int.reduceNeg, Int.natAbs_neg, Int.natAbs_one, Int.natCast_one, Int.ediv_one]
    unfold uw; simp only [IntKind.wrap_u64]
    by_cases hx : x < 0 <;> simp only [hx, decide_true, decide_false] <;> simp <;> omega
  · rw [if_neg h]
    generalize (x.natAbs : Int) / (y.natAbs : Int) = q at *
    have hq2 : q ≤ 9223372036854775808 := by omega
    clear ra gb ga eb ea
    by_cases hc : (decide (x < 0) != decide (y < 0)) = true
    · rw [if_pos hc, if_pos hc]; exact uw_neg_wrap q
    · rw [if_neg hc, if_neg hc]; exact uw_wrap_id hl.1 (by omega)

theorem signed_r {a b : Int} (ha : 0 ≤ a) (hb : 0 < b) (ha' : a < 18446744073709551616) (hb' : b < 18446744073709551616) : sR a b = remV a b := by
  obtain ⟨ea, ga⟩ := size_eq ha ha'
  obtain ⟨eb, gb⟩ := size_eq (Int.le_of_lt hb) hb'
  have ra : -9223372036854775808 ≤ wrap64 a ∧ wrap64 a < 9223372036854775808 := by unfold wrap64; omega
  unfold sR remV
  rw [if_neg (show ¬ b = 0 by omega), ea, eb, tmod_signs]
  generalize wrap64 a = x at *
  generalize wrap64 b = y at *
  have hl := natAbs_emod_le x y
  by_cases h : y = -1
  · subst h
    rw [if_pos rfl]
    simp only [Int.reduceNeg, Int.natAbs_neg, Int.natAbs_one, Int.natCast_one, Int.emod_one]
    unfold uw; simp only [IntKind.wrap_u64]
    split <;> omega
  · rw [if_neg h]
    unfold uw
    simp only [IntKind.wrap_u64]
    by_cases hx : x < 0
    · rw [if_pos hx, if_pos (ga.2 hx)]; omega
    · rw [if_neg hx, if_neg (fun h => hx (ga.1 h))]; omega
/-- the document's upper halves -/
def highV (fn a b : Int) : Int := if fn = 3 then hiV a b else if fn = 1 then sgnV a b true else sgnV a b false
theorem wrap_lt {a : Int} (ha : 0 ≤ a) (ha' : a < 18446744073709551616) : (wrap64 a < 0) = (9223372036854775808 ≤ a) := by
  unfold wrap64; apply propext; omega
theorem wideV_nonneg (fn : Int) {a b : Int} (ha : 0 ≤ a) (hb : 0 ≤ b) : 0 ≤ wideV fn a b := by
  have h1 := hiV_nonneg ha hb
  have h2 : 0 ≤ a / b := Int.ediv_nonneg ha hb
  have h3 : b ≠ 0 → 0 ≤ a % b := Int.emod_nonneg a
  unfold wideV sgnV divV divuV remV remuV
  (repeat' split) <;> first | exact uw_nonneg _ | omega | (apply h3; assumption)
theorem uw_mod (x y : Int) (h : (x - y) % 4294967296 = 0) : s32 x = s32 y := by
  unfold s32 uw wrap64 wrap32; simp only [IntKind.wrap_u64]; omega
theorem s32_mod (x : Int) : (s32 x - x) % 4294967296 = 0 := by
  unfold s32 uw wrap64 wrap32; simp only [IntKind.wrap_u64]; omega
theorem uw_mod64 (x : Int) : (uw x - x) % 4294967296 = 0 := by
  unfold uw; simp only [IntKind.wrap_u64]; omega
theorem mul_mod32 {a b x y : Int} (h1 : (x - a) % 4294967296 = 0) (h2 : (y - b) % 4294967296 = 0) : (x * y - a * b) % 4294967296 = 0 := by
  obtain ⟨p, hp⟩ : ∃ p, x = a + 4294967296 * p := ⟨(x - a) / 4294967296, by omega⟩
  obtain ⟨q, hq⟩ : ∃ q, y = b + 4294967296 * q := ⟨(y - b) / 4294967296, by omega⟩
  have : x * y - a * b = 4294967296 * (a * q + p * b + 4294967296 * (p * q)) := by rw [hp, hq]; grind
  rw [this]; omega
theorem word_eq_0 (a b : Int) : s32 (wideV 0 (s32 a) (s32 b)) = wordV 0 a b := by
  show s32 (uw (s32 a * s32 b)) = s32 (uw (a * b))
  apply uw_mod
  have h := mul_mod32 (s32_mod a) (s32_mod b)
  have h1 := uw_mod64 (s32 a * s32 b)
  have h2 := uw_mod64 (a * b)
  omega
theorem word_eq_4 (a b : Int) : s32 (wideV 4 (s32 a) (s32 b)) = wordV 4 a b := rfl
theorem word_eq_5 (a b : Int) : s32 (wideV 5 (l32 a) (l32 b)) = wordV 5 a b := rfl
theorem word_eq_6 (a b : Int) : s32 (wideV 6 (s32 a) (s32 b)) = wordV 6 a b := rfl
theorem word_eq_7 (a b : Int) : s32 (wideV 7 (l32 a) (l32 b)) = wordV 7 a b := rfl
theorem less_wrap {a b : Int} (ha : 0 ≤ a) (hb : 0 ≤ b) (ha' : a < 18446744073709551616) (hb' : b < 18446744073709551616) : lessV b a = decide (wrap64 b < wrap64 a) := by
  unfold lessV wrap64
  by_cases h1 : 9223372036854775808 ≤ a <;> by_cases h2 : 9223372036854775808 ≤ b <;> simp only [h1, h2, decide_true, decide_false] <;> simp <;> omega
theorem uw_wrap {a : Int} (ha : 0 ≤ a) (ha' : a < 18446744073709551616) : uw (wrap64 a) = a := (uw_wrap_id ha ha').symm
theorem less_16 {a b : Int} (ha : 0 ≤ a) (hb : 0 ≤ b) (ha' : a < 18446744073709551616) (hb' : b < 18446744073709551616) : (if lessV b a = true then b else a) = opV 16 a b := by
  rw [less_wrap ha hb ha' hb']
  simp only [opV, decide_eq_true_eq]
  rw [uw_wrap ha ha', uw_wrap hb hb']; simp
theorem less_20 {a b : Int} (ha : 0 ≤ a) (hb : 0 ≤ b) (ha' : a < 18446744073709551616) (hb' : b < 18446744073709551616) : (if lessV b a = true then a else b) = opV 20 a b := by
  rw [less_wrap ha hb ha' hb']
  simp only [opV, decide_eq_true_eq]
  rw [uw_wrap ha ha', uw_wrap hb hb']
  have e : wrap64 a = wrap64 b → a = b := by unfold wrap64; omega
  simp
  (repeat' split) <;> first | rfl | omega | (apply Eq.symm; apply e; omega) | (apply e; omega)
/-- what the laws' own helper tells -/
def ofV (fn a b : Int) : Int := if doB fn false = true then doV fn false a b else 18446744073709551615
end Go.Proofs.Ytbklmhpbaddbkaa
