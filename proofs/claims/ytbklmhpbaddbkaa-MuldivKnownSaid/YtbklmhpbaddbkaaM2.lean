/-
  Plain arithmetic of the layer muldiv: what atomic operations leave.
-/
import Derived.Test.YtbklmhpbaddbkaaM
namespace Go.Proofs.Ytbklmhpbaddbkaa
open Go.RowKit

def opV (fn a b : Int) : Int :=
  if fn = 0 then uw (a + b) else if fn = 1 then b else if fn = 4 then bits .xor .u64 a b else if fn = 8 then bits .or .u64 a b else if fn = 12 then bits .and .u64 a b
  else if fn = 16 then (if wrap64 b < wrap64 a then uw (wrap64 b) else uw (wrap64 a)) else if fn = 20 then (if wrap64 a < wrap64 b then uw (wrap64 b) else uw (wrap64 a))
  else if fn = 24 then (if b < a then b else a) else (if a < b then b else a)
def isAt (fn : Int) : Bool := decide (fn = 0 ∨ fn = 1 ∨ fn = 4 ∨ fn = 8 ∨ fn = 12 ∨ fn = 16 ∨ fn = 20 ∨ fn = 24 ∨ fn = 28)
def amoV (fn size a b : Int) : Int := if isAt fn = true then (if size = 8 then opV fn a b else if size = 4 then l32 (opV fn (s32 a) (s32 b)) else 0) else 0
def amoB (fn size : Int) : Bool := isAt fn && decide (size = 8 ∨ size = 4)
theorem opV_nonneg (fn : Int) {a b : Int} (ha : 0 ≤ a) (hb : 0 ≤ b) : 0 ≤ opV fn a b := by
  unfold opV
  (repeat' split) <;> first | exact uw_nonneg _ | exact bits_lo_u64 _ _ _ | assumption
theorem opV_lt (fn : Int) {a b : Int} (ha : a < 18446744073709551616) (hb : b < 18446744073709551616) : opV fn a b < 18446744073709551616 := by
  unfold opV
  have h1 := bits_hi_u64 .xor a b
  have h2 := bits_hi_u64 .or a b
  have h3 := bits_hi_u64 .and a b
  (repeat' split) <;> first | exact uw_lt _ | omega
end Go.Proofs.Ytbklmhpbaddbkaa
