/- It is proved here that EngineNil returns true. Conditions: the package variables that the row lists hold what the program's own start-up code lays in them (the card ties that to the text). -/
import Derived.Test.YtmiojdppkooikaaGreatDoorFinal
import Derived.Test.YtmiojdppkooikaaGreatDoorCards
import Derived.Test.YtmiojdppkooikaaGreatDoorTie
namespace Go.Proofs.YtmiojdppkooikaaGreatDoor
open Go.ChangeShapes Go.WideShapes Go.ChangeAt Go.RowKit
theorem plain (f : FuncId) (fn : Func) (hf : Tryz.pinned.checked.prog.funcNamed "tranche/tranchelaw20.EngineNil" = some f) (hfn : Tryz.pinned.checked.prog.funcs[f]? = some fn) :
    true = Tryz.pinned.checked.prog.looks [] ∧ ∀ (j : Nat) t, fn.params[j]? = some t → Tryz.pinned.checked.prog.wantsStandIn t = false := by
  obtain rfl : f = 3 := Option.some.inj ((show Tryz.prog.funcNamed "tranche/tranchelaw20.EngineNil" = some 3 by kernel_rfl).symm.trans hf) |>.symm
  obtain rfl : fn = Tryz.f3 := (Option.some.inj (Tryz.func3.symm.trans hfn)).symm
  refine ⟨by kernel_rfl, fun j t ht => ?_⟩
  rw [Tryz.params3] at ht
  simp at ht
theorem nogo : Tryz.prog.funcs.any Func.goes = false := by kernel_rfl
theorem goes_none {P : Program} (h : P.funcs.any Func.goes = false) (f : FuncId) : P.goes f = false := by
  have h1 : ∀ g : Nat, (P.funcs[g]?).any Func.goes = false := fun g => by
    cases hg : P.funcs[g]? with
    | none => rfl
    | some fn =>
      obtain ⟨hlt, e⟩ := Array.getElem?_eq_some_iff.1 hg
      have := Array.any_eq_false.1 h g hlt
      simpa [e] using this
  unfold Program.goes
  rw [h, Bool.and_false, Bool.or_false]
  simp [h1]
theorem goesNot : false = Rows.engineNilRow.goesBy Tryz.pinned.checked.prog := by
  have h : Program.goesFrom Tryz.pinned.checked.prog Rows.engineNilRow.func = false := by
    unfold Program.goesFrom
    rw [named0, Option.any_some]
    exact goes_none nogo 3
  have e : Rows.engineNilRow.goesBy Tryz.pinned.checked.prog = (Program.goesFrom Tryz.pinned.checked.prog Rows.engineNilRow.func || false) := rfl
  rw [e, h, Bool.or_false]
theorem wfb : Rows.engineNilRow.wfByText (OpenSpec.ofChange Rows.engineNilSpec) = true := by kernel_rfl
theorem mainIs : Tryz.pinned.checked.prog.mainIs = some (Rows.engineNilCard.stood.harness.1, Rows.engineNilCard.stood.harness.2.toList) := by kernel_rfl
theorem engineNil_holds : Rows.EngineNilCardSaid :=
  Claim7.holds_tied_plain_at .later [] _ _ _ _ said (fun _ h => by cases h) wfb (fun _ h => by cases h) engineNil_row_tie rfl ⟨rfl, rfl⟩ mainIs rfl plain goesNot
end Go.Proofs.YtmiojdppkooikaaGreatDoor
#print axioms Go.Proofs.YtmiojdppkooikaaGreatDoor.engineNil_holds
