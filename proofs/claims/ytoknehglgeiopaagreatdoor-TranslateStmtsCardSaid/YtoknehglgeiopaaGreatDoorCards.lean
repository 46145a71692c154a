/-
  DERIVED. GIVEN WITH THE SEED: THE CARDS: each row of YtoknehglgeiopaaGreatDoorRows.lean that lists a variable, with what it lists TIED to the program's text (the seventh form; the later family's looks); each row that meets fmt, with fmt's text TOLD by the authors' own Lean function (tested against real Go, not proved from fmt's source: count such statements apart). THE CARD IS WHAT COUNTS. Prove the row's statement (the work); the ties are given (YtoknehglgeiopaaGreatDoorTie.lean); close each card by the builder's one call (the guide's Derived/Test/ToyasCard.lean, 'card_holds'). Laid BY PROGRAM, IN A SANDBOX (cutbox-door.mjs). By AI agents, Wed Nov 11 2026. No macro, syntax, notation, axiom, sorry.
-/
import Derived.Test.YtoknehglgeiopaaGreatDoorRows
import GoSem.ClaimSeven
namespace Go.Proofs.YtoknehglgeiopaaGreatDoor
namespace Rows

/-- THE TIED CARD OF 'schemalenslaw31.TranslateStmts'. -/
def translateStmtsCard : Claim7 := { stood := { row := translateStmtsRow, standIns := [], harness := (true, "2581bf2179a4b09db45a58a91d90e1a7e1ca8f1314b3ab57b4741e996626942d"), looks := true }, kinds := [], alts := [], laidByText := true, laidKinds := [.data, .data, .data, .data, .sentinel, .sentinel, .widerDeep, .data, .funcs, .pinned], laidTests := true, laidLooks := .later }
def TranslateStmtsCardSaid : Prop := Claim7.holds Tryz.pinned (.plain (OpenSpec.ofChange translateStmtsSpec)) translateStmtsCard

/-- THE SECOND FORM's CARD OF 'schemalenslaw31.TranslateStmts'. -/
def translateStmtsUptoCard : Claim7 := { stood := { row := translateStmtsUptoRow, standIns := [], harness := (true, "2581bf2179a4b09db45a58a91d90e1a7e1ca8f1314b3ab57b4741e996626942d"), looks := true }, kinds := [], alts := [], laidByText := true, laidKinds := [.data, .data, .data, .data, .sentinel, .sentinel, .widerDeep, .data, .funcs, .pinned], laidTests := true, laidLooks := .later }
def TranslateStmtsUptoCardSaid : Prop := Claim7.holds Tryz.pinned (.plain (OpenSpec.upto translateStmtsSpec)) translateStmtsUptoCard
end Rows
end Go.Proofs.YtoknehglgeiopaaGreatDoor
