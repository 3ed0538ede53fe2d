/-
  What the row asks of the world behind the call, where no argument has memory and what was there is as it was.
-/
import Derived.Test.YtbklmhpbaddbkaaKin
import Derived.ProofKit
namespace Go.Proofs.Ytbklmhpbaddbkaa
open Go.RowKit Go.ChangeShapes Go.WideShapes Go.ChangeAt
theorem post_of_none {H : Type} {enc : TypeId × Value → H} {P : Program} {f : Func} {s : ChangeSpec} {apart fresh handsOn again : Bool} {W W' : World} {args : Array Value} {v : Value} {ds gs : List (DataW H)}
    (hW : DataW.Whole enc P f.params.toList s.vars apart W args.toList ds gs [])
    (hres : ∀ (b : Nat) (sp : Nat → Bool) (hd : Bool), DataW.TrodAll enc P W' b sp hd f.resultTypes.toList (v.resultList f.resultTypes.size) (s.fn H (ds ++ gs)).results [])
    (hargs : ∀ sp : Nat → Bool, (∀ p ∈ ([] : List MemPlace), sp p.block = true) → DataW.TrodAll enc P W' 0 sp true f.params.toList args.toList (s.fn H (ds ++ gs)).args [])
    (hvars : ∀ sp : Nat → Bool, (∀ p ∈ ([] : List MemPlace), sp p.block = true) → DataW.TrodVars enc P W' sp s.vars (s.fn H (ds ++ gs)).vars [])
    (hb : Below W.heap.size W W')
    (hok : ∀ (j : Nat) (t : TypeId) (r : Value), f.resultTypes[j]? = some t → (v.resultList f.resultTypes.size)[j]? = some r → Value.okWide P W' .any 0 t r) :
    s.post enc P f apart fresh handsOn again W args v W' := by
  have hk : W.keptBut W' (· ∈ ([] : List MemPlace)) := hb.frame _
  refine ⟨ds, gs, [], [], [], [], hW, hres _ _ _, hargs _ (by simp), hvars _ (by simp), World.keptBut_mono (fun p hp => by simp at hp) hk, fun _ => ?_⟩
  · refine ⟨hok, _, _, ([] ++ []) ++ [], ⟨[] ++ [], [], trodAll_append (hargs _ (fun _ _ => rfl)) (hres _ _ _), hvars _ (fun _ _ => rfl), rfl, ?_, ?_⟩, ?_⟩
    · intro b off hp
      simp at hp
    · intro _
      simp
    · intro p hp _
      simp at hp
end Go.Proofs.Ytbklmhpbaddbkaa
