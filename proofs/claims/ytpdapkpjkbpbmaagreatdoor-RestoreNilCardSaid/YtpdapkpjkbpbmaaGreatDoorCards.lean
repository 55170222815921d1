/-
  DERIVED. GIVEN WITH THE SEED: THE CARDS: each row of YtpdapkpjkbpbmaaGreatDoorRows.lean that lists a variable, with what it lists TIED to the program's text (the seventh form; the later family's looks); each row that meets fmt, with fmt's text TOLD by the authors' own Lean function (tested against real Go, not proved from fmt's source: count such statements apart). THE CARD IS WHAT COUNTS. Prove the row's statement (the work); the ties are given (YtpdapkpjkbpbmaaGreatDoorTie.lean); close each card by the builder's one call (the guide's Derived/Test/ToyasCard.lean, 'card_holds'). Laid BY PROGRAM, IN A SANDBOX (cutbox-door.mjs). By AI agents, Wed Nov 11 2026. No macro, syntax, notation, axiom, sorry.
-/
import Derived.Test.YtpdapkpjkbpbmaaGreatDoorRows
import GoSem.ClaimSeven
namespace Go.Proofs.YtpdapkpjkbpbmaaGreatDoor
namespace Rows

/-- THE TIED CARD OF 'tranchelaw24.RestoreNil'. -/
def restoreNilCard : Claim7 := { stood := { row := restoreNilRow, standIns := [], harness := (true, "d25ec7f285e7734a7775747f635aca33eb508fae711bf0671377ae690a1eab97"), looks := true }, kinds := [], alts := [], laidByText := true, laidKinds := [.data, .data, .data, .data, .sentinel, .sentinel, .sentinel, .pinned], laidTests := true, laidLooks := .later }
def RestoreNilCardSaid : Prop := Claim7.holds Tryz.pinned (.plain (OpenSpec.ofChange restoreNilSpec)) restoreNilCard

/-- THE SECOND FORM's CARD OF 'tranchelaw24.RestoreNil'. -/
def restoreNilUptoCard : Claim7 := { stood := { row := restoreNilUptoRow, standIns := [], harness := (true, "d25ec7f285e7734a7775747f635aca33eb508fae711bf0671377ae690a1eab97"), looks := true }, kinds := [], alts := [], laidByText := true, laidKinds := [.data, .data, .data, .data, .sentinel, .sentinel, .sentinel, .pinned], laidTests := true, laidLooks := .later }
def RestoreNilUptoCardSaid : Prop := Claim7.holds Tryz.pinned (.plain (OpenSpec.upto restoreNilSpec)) restoreNilUptoCard
end Rows
end Go.Proofs.YtpdapkpjkbpbmaaGreatDoor
