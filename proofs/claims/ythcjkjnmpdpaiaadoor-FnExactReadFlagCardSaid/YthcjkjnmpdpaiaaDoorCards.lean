/-
  DERIVED. GIVEN WITH THE SEED: THE CARDS: each row of YthcjkjnmpdpaiaaDoorRows.lean that lists a variable, with what it lists TIED to the program's text (the seventh form; the later family's looks); each row that meets fmt, with fmt's text TOLD by the authors' own Lean function (tested against real Go, not proved from fmt's source: count such statements apart). THE CARD IS WHAT COUNTS. Prove the row's statement (the work); the ties are given (YthcjkjnmpdpaiaaDoorTie.lean); close each card by the builder's one call (the guide's Derived/Test/ToyasCard.lean, 'card_holds'). Laid BY PROGRAM, IN A SANDBOX (cutbox-door.mjs). By AI agents, Wed Nov 11 2026. No macro, syntax, notation, axiom, sorry.
-/
import Derived.Test.YthcjkjnmpdpaiaaDoorRows
import GoSem.ClaimSeven
namespace Go.Proofs.YthcjkjnmpdpaiaaDoor
namespace Rows

/-- THE TIED CARD OF 'laws.FnExactReadFlag'. -/
def fnExactReadFlagCard : Claim7 := { stood := { row := fnExactReadFlagRow, standIns := [], harness := (true, "cac7fe7f8b80e4add21deed9300fb4de9221fa0f9a5ed93b679fdd8976c27161"), looks := true }, kinds := [], alts := [], laidByText := true, laidKinds := [.data, .data, .data, .data, .sentinel, .sentinel, .pinned], laidTests := true, laidLooks := .later }
def FnExactReadFlagCardSaid : Prop := Claim7.holds Tryd.pinned (.plain (OpenSpec.ofChange fnExactReadFlagSpec)) fnExactReadFlagCard

/-- THE SECOND FORM's CARD OF 'laws.FnExactReadFlag'. -/
def fnExactReadFlagUptoCard : Claim7 := { stood := { row := fnExactReadFlagUptoRow, standIns := [], harness := (true, "cac7fe7f8b80e4add21deed9300fb4de9221fa0f9a5ed93b679fdd8976c27161"), looks := true }, kinds := [], alts := [], laidByText := true, laidKinds := [.data, .data, .data, .data, .sentinel, .sentinel, .pinned], laidTests := true, laidLooks := .later }
def FnExactReadFlagUptoCardSaid : Prop := Claim7.holds Tryd.pinned (.plain (OpenSpec.upto fnExactReadFlagSpec)) fnExactReadFlagUptoCard
end Rows
end Go.Proofs.YthcjkjnmpdpaiaaDoor
