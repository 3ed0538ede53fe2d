/-
  Regions that draw their order and whose operations change nothing that was there: worlds that are kin of one world (what was there is as it was).
-/
import Derived.WalkKit
import Derived.WalkSpells
import Derived.WalkLawsBesides
import Derived.Lib.Hide
import Derived.Deep.QuietTactic
import Derived.BigQuiet
import Derived.Below
namespace Go.Proofs.Ytbklmhpbaddbkaa
open Go.RowKit

/-- a world in which all that was in W is as it was -/
structure Kin (W : World) where
  w : World
  h : Below W.heap.size W w

instance kinInhabited (W : World) : Inhabited (Kin W) := ⟨⟨W, Below.refl _ _⟩⟩

theorem below_drewN' {B : Nat} {a w : World} (h : Below B a w) (n : Nat) : Below B a (w.drewN n) := ⟨h.os, h.tape, h.output, h.size, h.block⟩

theorem wp_region_kin {P : Program} {id : Nat} {Q : Exit → Act → World → Prop} {a : Act} {w : World} {l : List Oper} (hm : P.follows .mixedOrders = true) (hB : Region.lexB .any l.toArray = true)
    (h : wpQuiet P l.toArray (fun w' => ∃ k : Kin w, w' = k.w) (fun a' => ∀ w', (∃ k : Kin w, w' = k.w) → Q .normal a' w') l a) : (Code.region id l.toArray true).wp P Q a w :=
  wp_region_quiet (C := fun w' => ∃ k : Kin w, w' = k.w) hm hB ⟨⟨w.drewN 1, below_drewN' (Below.refl _ _) 1⟩, rfl⟩ (by simpa using h)

theorem kin_of {P : Program} {f : FuncId} {args : Array Value} {w : World} {k : Kin w} {v : Value}
    (h : Calls P f args k.w fun e w' => e = .returned v ∧ Below k.w.heap.size k.w w') : Calls P f args k.w fun e w' => e = .returned v ∧ ∃ k' : Kin w, w' = k'.w :=
  h.mono fun _ w' ⟨he, hb⟩ => ⟨he, ⟨⟨w', k.h.trans (hb.mono k.h.size)⟩, rfl⟩⟩

theorem kin_cell {W : World} (k : Kin W) {b o : Nat} {v : Value} (h : W.cell? ⟨b, o, none⟩ = some v) (hb : b < W.heap.size) : k.w.cell? ⟨b, o, none⟩ = some v := by
  have := k.h.cell (p := ⟨b, o, none⟩) hb
  rw [this]; exact h
theorem calls_below {P : Program} {f : FuncId} {args : Array Value} {w : World} {v : Value}
    (h : Calls P f args w fun e w' => e = .returned v ∧ ∃ n, w' = w.drewN n) : Calls P f args w fun e w' => e = .returned v ∧ Below w.heap.size w w' :=
  h.mono fun _ _ ⟨he, n, hn⟩ => ⟨he, by rw [hn]; exact below_drewN' (Below.refl _ _) n⟩
theorem calls_below' {P : Program} {f : FuncId} {args : Array Value} {w : World} {v : Value}
    (h : Calls P f args w fun e w' => e = .returned v ∧ w = w') : Calls P f args w fun e w' => e = .returned v ∧ Below w.heap.size w w' :=
  h.mono fun _ _ ⟨he, hn⟩ => ⟨he, by rw [← hn]; exact Below.refl _ _⟩
end Go.Proofs.Ytbklmhpbaddbkaa
