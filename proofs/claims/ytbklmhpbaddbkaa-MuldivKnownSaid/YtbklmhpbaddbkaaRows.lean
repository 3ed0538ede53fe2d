/-
  No cell of these rows narrows 'for every input' (looked for: loops, veiled, ifaces, maps, wideKeys, modest, calm, conditions, laid).
  DERIVED. THE GIVEN ROWS OF THIS SEAT. 8 by the template 'for every input the law returns true; each argument reads behind the call as it read before'; 0 by the template 'total and deterministic' (their statements: YtbklmhpbaddbkaaTotals.lean).
  GIVEN WITH THE SEED: the statements are not yours to turn. If you find one false, say at which input.
  Laid BY PROGRAM, IN A SANDBOX (cutbox-rows.mjs): the forced cells as the released guide's own fill.sh prints them over the translation 5d3e928e780f8968… (all of the seat's roots in one cut). By AI agents, Wed Nov 11 2026. No macro, syntax, notation, axiom, sorry.
-/
import Derived.Test.YtbklmhpbaddbkaaChecked
import GoSem.Claim
import GoSem.ClaimJoined
import GoSem.ClaimMapViews
import Derived.JoinedTies
import Derived.KernelRfl
namespace Go.Proofs.Ytbklmhpbaddbkaa
/- THE CELL 'sum', in the pinned program and in every row, IS THE sha256 OF THE DUMP (.gsa) THAT YtbklmhpbaddbkaaProg.lean LOADS. Nothing in Lean hashes anything: it is a label: what it is worth is what the hold of that sum in a sandbox is worth. -/
noncomputable def Try.pinned : Pinned := { name := "ytbklmhpbaddbkaa", sum := "5d3e928e780f8968525f45f29cd7c6217452d0b3ae81ce9e80eb0eba92b4f3a0", checked := Try.checked }
namespace Rows
def none {H : Type} : Left H := { results := [], args := [] }

/-- 'ravelinlaw02.MuldivDoes': WHATEVER THE INPUT: true; the input reads as it did. -/
def muldivDoesSpec : ChangeSpec := { name := "muldivDoes", fn := fun _ => fun
  | [d1, d2, d3, d4] => { results := [.lit (.bool true)], args := [d1, d2, d3, d4] }
  | _ => none }
def muldivDoesRow : OpenClaim := { program := "ytbklmhpbaddbkaa", sum := "5d3e928e780f8968525f45f29cd7c6217452d0b3ae81ce9e80eb0eba92b4f3a0", func := "ravelin/ravelinlaw02.MuldivDoes", spec := "muldivDoes", unfollowed := true, recurses := true, apart := false }
def MuldivDoesSaid : Prop := muldivDoesRow.holds Try.pinned (OpenSpec.ofChange muldivDoesSpec)

/-- ITS FALSE NEIGHBOUR: 'it returns false'. Refute it at one input. -/
def muldivDoesWrong : ChangeSpec := { name := "muldivDoes", fn := fun _ => fun
  | [d1, d2, d3, d4] => { results := [.lit (.bool false)], args := [d1, d2, d3, d4] }
  | _ => none }
def MuldivDoesWrongFalsely : Prop := muldivDoesRow.holds Try.pinned (OpenSpec.ofChange muldivDoesWrong)

/-- 'ravelinlaw02.MuldivAmos': WHATEVER THE INPUT: true; the input reads as it did. -/
def muldivAmosSpec : ChangeSpec := { name := "muldivAmos", fn := fun _ => fun
  | [d1, d2, d3, d4] => { results := [.lit (.bool true)], args := [d1, d2, d3, d4] }
  | _ => none }
def muldivAmosRow : OpenClaim := { program := "ytbklmhpbaddbkaa", sum := "5d3e928e780f8968525f45f29cd7c6217452d0b3ae81ce9e80eb0eba92b4f3a0", func := "ravelin/ravelinlaw02.MuldivAmos", spec := "muldivAmos", unfollowed := true, recurses := true, apart := false }
def MuldivAmosSaid : Prop := muldivAmosRow.holds Try.pinned (OpenSpec.ofChange muldivAmosSpec)

/-- ITS FALSE NEIGHBOUR: 'it returns false'. Refute it at one input. -/
def muldivAmosWrong : ChangeSpec := { name := "muldivAmos", fn := fun _ => fun
  | [d1, d2, d3, d4] => { results := [.lit (.bool false)], args := [d1, d2, d3, d4] }
  | _ => none }
def MuldivAmosWrongFalsely : Prop := muldivAmosRow.holds Try.pinned (OpenSpec.ofChange muldivAmosWrong)

/-- 'ravelinlaw02.MuldivRest': WHATEVER THE INPUT: true; the input reads as it did. -/
def muldivRestSpec : ChangeSpec := { name := "muldivRest", fn := fun _ => fun
  | [d1, d2] => { results := [.lit (.bool true)], args := [d1, d2] }
  | _ => none }
def muldivRestRow : OpenClaim := { program := "ytbklmhpbaddbkaa", sum := "5d3e928e780f8968525f45f29cd7c6217452d0b3ae81ce9e80eb0eba92b4f3a0", func := "ravelin/ravelinlaw02.MuldivRest", spec := "muldivRest", unfollowed := true, recurses := true, apart := false }
def MuldivRestSaid : Prop := muldivRestRow.holds Try.pinned (OpenSpec.ofChange muldivRestSpec)

/-- ITS FALSE NEIGHBOUR: 'it returns false'. Refute it at one input. -/
def muldivRestWrong : ChangeSpec := { name := "muldivRest", fn := fun _ => fun
  | [d1, d2] => { results := [.lit (.bool false)], args := [d1, d2] }
  | _ => none }
def MuldivRestWrongFalsely : Prop := muldivRestRow.holds Try.pinned (OpenSpec.ofChange muldivRestWrong)

/-- 'ravelinlaw02.MuldivHalves': WHATEVER THE INPUT: true; the input reads as it did. -/
def muldivHalvesSpec : ChangeSpec := { name := "muldivHalves", fn := fun _ => fun
  | [d1, d2, d3] => { results := [.lit (.bool true)], args := [d1, d2, d3] }
  | _ => none }
def muldivHalvesRow : OpenClaim := { program := "ytbklmhpbaddbkaa", sum := "5d3e928e780f8968525f45f29cd7c6217452d0b3ae81ce9e80eb0eba92b4f3a0", func := "ravelin/ravelinlaw02.MuldivHalves", spec := "muldivHalves", unfollowed := true, recurses := true, apart := false }
def MuldivHalvesSaid : Prop := muldivHalvesRow.holds Try.pinned (OpenSpec.ofChange muldivHalvesSpec)

/-- ITS FALSE NEIGHBOUR: 'it returns false'. Refute it at one input. -/
def muldivHalvesWrong : ChangeSpec := { name := "muldivHalves", fn := fun _ => fun
  | [d1, d2, d3] => { results := [.lit (.bool false)], args := [d1, d2, d3] }
  | _ => none }
def MuldivHalvesWrongFalsely : Prop := muldivHalvesRow.holds Try.pinned (OpenSpec.ofChange muldivHalvesWrong)

/-- 'ravelinlaw02.MuldivLong': WHATEVER THE INPUT: true; the input reads as it did. -/
def muldivLongSpec : ChangeSpec := { name := "muldivLong", fn := fun _ => fun
  | [d1, d2] => { results := [.lit (.bool true)], args := [d1, d2] }
  | _ => none }
def muldivLongRow : OpenClaim := { program := "ytbklmhpbaddbkaa", sum := "5d3e928e780f8968525f45f29cd7c6217452d0b3ae81ce9e80eb0eba92b4f3a0", func := "ravelin/ravelinlaw02.MuldivLong", spec := "muldivLong", unfollowed := true, recurses := true, apart := false }
def MuldivLongSaid : Prop := muldivLongRow.holds Try.pinned (OpenSpec.ofChange muldivLongSpec)

/-- ITS FALSE NEIGHBOUR: 'it returns false'. Refute it at one input. -/
def muldivLongWrong : ChangeSpec := { name := "muldivLong", fn := fun _ => fun
  | [d1, d2] => { results := [.lit (.bool false)], args := [d1, d2] }
  | _ => none }
def MuldivLongWrongFalsely : Prop := muldivLongRow.holds Try.pinned (OpenSpec.ofChange muldivLongWrong)

/-- 'ravelinlaw02.MuldivNarrow': WHATEVER THE INPUT: true; the input reads as it did. -/
def muldivNarrowSpec : ChangeSpec := { name := "muldivNarrow", fn := fun _ => fun
  | [d1, d2, d3, d4, d5] => { results := [.lit (.bool true)], args := [d1, d2, d3, d4, d5] }
  | _ => none }
def muldivNarrowRow : OpenClaim := { program := "ytbklmhpbaddbkaa", sum := "5d3e928e780f8968525f45f29cd7c6217452d0b3ae81ce9e80eb0eba92b4f3a0", func := "ravelin/ravelinlaw02.MuldivNarrow", spec := "muldivNarrow", unfollowed := true, recurses := true, apart := false }
def MuldivNarrowSaid : Prop := muldivNarrowRow.holds Try.pinned (OpenSpec.ofChange muldivNarrowSpec)

/-- ITS FALSE NEIGHBOUR: 'it returns false'. Refute it at one input. -/
def muldivNarrowWrong : ChangeSpec := { name := "muldivNarrow", fn := fun _ => fun
  | [d1, d2, d3, d4, d5] => { results := [.lit (.bool false)], args := [d1, d2, d3, d4, d5] }
  | _ => none }
def MuldivNarrowWrongFalsely : Prop := muldivNarrowRow.holds Try.pinned (OpenSpec.ofChange muldivNarrowWrong)

/-- 'ravelinlaw02.MuldivEither': WHATEVER THE INPUT: true; the input reads as it did. -/
def muldivEitherSpec : ChangeSpec := { name := "muldivEither", fn := fun _ => fun
  | [d1, d2] => { results := [.lit (.bool true)], args := [d1, d2] }
  | _ => none }
def muldivEitherRow : OpenClaim := { program := "ytbklmhpbaddbkaa", sum := "5d3e928e780f8968525f45f29cd7c6217452d0b3ae81ce9e80eb0eba92b4f3a0", func := "ravelin/ravelinlaw02.MuldivEither", spec := "muldivEither", unfollowed := true, recurses := true, apart := false }
def MuldivEitherSaid : Prop := muldivEitherRow.holds Try.pinned (OpenSpec.ofChange muldivEitherSpec)

/-- ITS FALSE NEIGHBOUR: 'it returns false'. Refute it at one input. -/
def muldivEitherWrong : ChangeSpec := { name := "muldivEither", fn := fun _ => fun
  | [d1, d2] => { results := [.lit (.bool false)], args := [d1, d2] }
  | _ => none }
def MuldivEitherWrongFalsely : Prop := muldivEitherRow.holds Try.pinned (OpenSpec.ofChange muldivEitherWrong)

/-- 'ravelinlaw02.MuldivKnown': WHATEVER THE INPUT: true; the input reads as it did. -/
def muldivKnownSpec : ChangeSpec := { name := "muldivKnown", fn := fun _ => fun
  | [] => { results := [.lit (.bool true)], args := [] }
  | _ => none }
def muldivKnownRow : OpenClaim := { program := "ytbklmhpbaddbkaa", sum := "5d3e928e780f8968525f45f29cd7c6217452d0b3ae81ce9e80eb0eba92b4f3a0", func := "ravelin/ravelinlaw02.MuldivKnown", spec := "muldivKnown", unfollowed := true, recurses := true, apart := false }
def MuldivKnownSaid : Prop := muldivKnownRow.holds Try.pinned (OpenSpec.ofChange muldivKnownSpec)

/-- ITS FALSE NEIGHBOUR: 'it returns false'. Refute it at one input. -/
def muldivKnownWrong : ChangeSpec := { name := "muldivKnown", fn := fun _ => fun
  | [] => { results := [.lit (.bool false)], args := [] }
  | _ => none }
def MuldivKnownWrongFalsely : Prop := muldivKnownRow.holds Try.pinned (OpenSpec.ofChange muldivKnownWrong)

/- THE SECOND FORM. 'bulk': how many values and letters a reading holds, each counted each time it is reached (what is shared counts as often as it is met; a slice's spare places count too). A statement '..UptoSaid' is the law's where the arguments, and the package variables that the reading takes, are together of bulk at most 1048576: NARROWER than '..Said'. Prove '..Said' where nothing that the law and all that it calls make is longer than what came in: it says more and counts as full. Else prove '..UptoSaid'. A law counts once. -/
mutual
def uptoBulk {H : Type} : DataW H → Nat
  | .lit (.string bytes) => bytes.length + 1
  | .lit _ => 1
  | .nil => 1
  | .ptr d => uptoBulk d + 1
  | .slice elems spare => uptoBulkAll elems + uptoBulkAll spare + 1
  | .agg parts => uptoBulkAll parts + 1
  | .iface _ d => uptoBulk d + 1
  | .map entries => uptoBulkEntries entries + 1
  | .held _ => 1
def uptoBulkAll {H : Type} : List (DataW H) → Nat
  | [] => 0
  | d :: r => uptoBulk d + uptoBulkAll r
def uptoBulkEntries {H : Type} : List (Lit × DataW H) → Nat
  | [] => 0
  | x :: r => uptoBulkEntry x + uptoBulkEntries r
def uptoBulkEntry {H : Type} : Lit × DataW H → Nat
  | (.string bytes, d) => bytes.length + uptoBulk d + 1
  | (_, d) => uptoBulk d + 1
 end
def uptoSmall : (H : Type) → List (DataW H) → Bool := fun _ ds => decide (uptoBulkAll ds ≤ 1048576)
def OpenSpec.upto (s : _root_.Go.ChangeSpec) : _root_.Go.OpenSpec := { _root_.Go.OpenSpec.ofChange s with cond := some uptoSmall }

/-- 'ravelinlaw02.MuldivDoes', WHERE WHAT IT READS IS OF BULK AT MOST 1048576: true; the input reads as it did. -/
def muldivDoesUptoRow : OpenClaim := { program := "ytbklmhpbaddbkaa", sum := "5d3e928e780f8968525f45f29cd7c6217452d0b3ae81ce9e80eb0eba92b4f3a0", func := "ravelin/ravelinlaw02.MuldivDoes", spec := "muldivDoes", unfollowed := true, recurses := true, apart := false, narrowed := true }
def MuldivDoesUptoSaid : Prop := muldivDoesUptoRow.holds Try.pinned (OpenSpec.upto muldivDoesSpec)

/-- 'ravelinlaw02.MuldivAmos', WHERE WHAT IT READS IS OF BULK AT MOST 1048576: true; the input reads as it did. -/
def muldivAmosUptoRow : OpenClaim := { program := "ytbklmhpbaddbkaa", sum := "5d3e928e780f8968525f45f29cd7c6217452d0b3ae81ce9e80eb0eba92b4f3a0", func := "ravelin/ravelinlaw02.MuldivAmos", spec := "muldivAmos", unfollowed := true, recurses := true, apart := false, narrowed := true }
def MuldivAmosUptoSaid : Prop := muldivAmosUptoRow.holds Try.pinned (OpenSpec.upto muldivAmosSpec)

/-- 'ravelinlaw02.MuldivRest', WHERE WHAT IT READS IS OF BULK AT MOST 1048576: true; the input reads as it did. -/
def muldivRestUptoRow : OpenClaim := { program := "ytbklmhpbaddbkaa", sum := "5d3e928e780f8968525f45f29cd7c6217452d0b3ae81ce9e80eb0eba92b4f3a0", func := "ravelin/ravelinlaw02.MuldivRest", spec := "muldivRest", unfollowed := true, recurses := true, apart := false, narrowed := true }
def MuldivRestUptoSaid : Prop := muldivRestUptoRow.holds Try.pinned (OpenSpec.upto muldivRestSpec)

/-- 'ravelinlaw02.MuldivHalves', WHERE WHAT IT READS IS OF BULK AT MOST 1048576: true; the input reads as it did. -/
def muldivHalvesUptoRow : OpenClaim := { program := "ytbklmhpbaddbkaa", sum := "5d3e928e780f8968525f45f29cd7c6217452d0b3ae81ce9e80eb0eba92b4f3a0", func := "ravelin/ravelinlaw02.MuldivHalves", spec := "muldivHalves", unfollowed := true, recurses := true, apart := false, narrowed := true }
def MuldivHalvesUptoSaid : Prop := muldivHalvesUptoRow.holds Try.pinned (OpenSpec.upto muldivHalvesSpec)

/-- 'ravelinlaw02.MuldivLong', WHERE WHAT IT READS IS OF BULK AT MOST 1048576: true; the input reads as it did. -/
def muldivLongUptoRow : OpenClaim := { program := "ytbklmhpbaddbkaa", sum := "5d3e928e780f8968525f45f29cd7c6217452d0b3ae81ce9e80eb0eba92b4f3a0", func := "ravelin/ravelinlaw02.MuldivLong", spec := "muldivLong", unfollowed := true, recurses := true, apart := false, narrowed := true }
def MuldivLongUptoSaid : Prop := muldivLongUptoRow.holds Try.pinned (OpenSpec.upto muldivLongSpec)

/-- 'ravelinlaw02.MuldivNarrow', WHERE WHAT IT READS IS OF BULK AT MOST 1048576: true; the input reads as it did. -/
def muldivNarrowUptoRow : OpenClaim := { program := "ytbklmhpbaddbkaa", sum := "5d3e928e780f8968525f45f29cd7c6217452d0b3ae81ce9e80eb0eba92b4f3a0", func := "ravelin/ravelinlaw02.MuldivNarrow", spec := "muldivNarrow", unfollowed := true, recurses := true, apart := false, narrowed := true }
def MuldivNarrowUptoSaid : Prop := muldivNarrowUptoRow.holds Try.pinned (OpenSpec.upto muldivNarrowSpec)

/-- 'ravelinlaw02.MuldivEither', WHERE WHAT IT READS IS OF BULK AT MOST 1048576: true; the input reads as it did. -/
def muldivEitherUptoRow : OpenClaim := { program := "ytbklmhpbaddbkaa", sum := "5d3e928e780f8968525f45f29cd7c6217452d0b3ae81ce9e80eb0eba92b4f3a0", func := "ravelin/ravelinlaw02.MuldivEither", spec := "muldivEither", unfollowed := true, recurses := true, apart := false, narrowed := true }
def MuldivEitherUptoSaid : Prop := muldivEitherUptoRow.holds Try.pinned (OpenSpec.upto muldivEitherSpec)

/-- 'ravelinlaw02.MuldivKnown', WHERE WHAT IT READS IS OF BULK AT MOST 1048576: true; the input reads as it did. -/
def muldivKnownUptoRow : OpenClaim := { program := "ytbklmhpbaddbkaa", sum := "5d3e928e780f8968525f45f29cd7c6217452d0b3ae81ce9e80eb0eba92b4f3a0", func := "ravelin/ravelinlaw02.MuldivKnown", spec := "muldivKnown", unfollowed := true, recurses := true, apart := false, narrowed := true }
def MuldivKnownUptoSaid : Prop := muldivKnownUptoRow.holds Try.pinned (OpenSpec.upto muldivKnownSpec)

end Rows
end Go.Proofs.Ytbklmhpbaddbkaa
