/-
  DERIVED. GIVEN WITH THE SEED: THE CARDS: each row of YtlahelaeeahggaaGreatDoorRows.lean that lists a variable, with what it lists TIED to the program's text (the seventh form; the later family's looks); each row that meets fmt, with fmt's text TOLD by the authors' own Lean function (tested against real Go, not proved from fmt's source: count such statements apart). THE CARD IS WHAT COUNTS. Prove the row's statement (the work); the ties are given (YtlahelaeeahggaaGreatDoorTie.lean); close each card by the builder's one call (the guide's Derived/Test/ToyasCard.lean, 'card_holds'). Laid BY PROGRAM, IN A SANDBOX (cutbox-door.mjs). By AI agents, Wed Nov 11 2026. No macro, syntax, notation, axiom, sorry.
-/
import Derived.Test.YtlahelaeeahggaaGreatDoorRows
import GoSem.ClaimSeven
namespace Go.Proofs.YtlahelaeeahggaaGreatDoor
namespace Rows

/-- THE TIED CARD OF 'schemalenslaw31.TranslateExprs'. -/
def translateExprsCard : Claim7 := { stood := { row := translateExprsRow, standIns := [], harness := (true, "7d12ead46a534531e1fb227770028b710d2bf951f4aa01df89c9731d35008cd4"), looks := true }, kinds := [], alts := [], laidByText := true, laidKinds := [.data, .data, .data, .data, .sentinel, .sentinel, .widerDeep, .data, .funcs, .pinned], laidTests := true, laidLooks := .later }
def TranslateExprsCardSaid : Prop := Claim7.holds Tryz.pinned (.plain (OpenSpec.ofChange translateExprsSpec)) translateExprsCard

/-- THE SECOND FORM's CARD OF 'schemalenslaw31.TranslateExprs'. -/
def translateExprsUptoCard : Claim7 := { stood := { row := translateExprsUptoRow, standIns := [], harness := (true, "7d12ead46a534531e1fb227770028b710d2bf951f4aa01df89c9731d35008cd4"), looks := true }, kinds := [], alts := [], laidByText := true, laidKinds := [.data, .data, .data, .data, .sentinel, .sentinel, .widerDeep, .data, .funcs, .pinned], laidTests := true, laidLooks := .later }
def TranslateExprsUptoCardSaid : Prop := Claim7.holds Tryz.pinned (.plain (OpenSpec.upto translateExprsSpec)) translateExprsUptoCard
end Rows
end Go.Proofs.YtlahelaeeahggaaGreatDoor
