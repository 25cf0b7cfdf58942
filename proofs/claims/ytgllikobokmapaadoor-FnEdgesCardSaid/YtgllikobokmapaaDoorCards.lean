/-
  DERIVED. GIVEN WITH THE SEED: THE CARDS: each row of YtgllikobokmapaaDoorRows.lean that lists a variable, with what it lists TIED to the program's text (the seventh form; the later family's looks); each row that meets fmt, with fmt's text TOLD by the authors' own Lean function (tested against real Go, not proved from fmt's source: count such statements apart). THE CARD IS WHAT COUNTS. Prove the row's statement (the work); the ties are given (YtgllikobokmapaaDoorTie.lean); close each card by the builder's one call (the guide's Derived/Test/ToyasCard.lean, 'card_holds'). Laid BY PROGRAM, IN A SANDBOX (cutbox-door.mjs). By AI agents, Wed Nov 11 2026. No macro, syntax, notation, axiom, sorry.
-/
import Derived.Test.YtgllikobokmapaaDoorRows
import GoSem.ClaimSeven
namespace Go.Proofs.YtgllikobokmapaaDoor
namespace Rows

/-- THE TIED CARD OF 'laws.FnEdges'. -/
def fnEdgesCard : Claim7 := { stood := { row := fnEdgesRow, standIns := [], harness := (true, "046ef79295bcbf01279111fa5381b2f4e9d93f6241c5c19c504c70c99e8a1ed4"), looks := true }, kinds := [], alts := [], laidByText := true, laidKinds := [.data, .data, .data, .data, .sentinel, .sentinel, .pinned], laidTests := true, laidLooks := .later }
def FnEdgesCardSaid : Prop := Claim7.holds Tryd.pinned (.plain (OpenSpec.ofChange fnEdgesSpec)) fnEdgesCard

/-- THE SECOND FORM's CARD OF 'laws.FnEdges'. -/
def fnEdgesUptoCard : Claim7 := { stood := { row := fnEdgesUptoRow, standIns := [], harness := (true, "046ef79295bcbf01279111fa5381b2f4e9d93f6241c5c19c504c70c99e8a1ed4"), looks := true }, kinds := [], alts := [], laidByText := true, laidKinds := [.data, .data, .data, .data, .sentinel, .sentinel, .pinned], laidTests := true, laidLooks := .later }
def FnEdgesUptoCardSaid : Prop := Claim7.holds Tryd.pinned (.plain (OpenSpec.upto fnEdgesSpec)) fnEdgesUptoCard
end Rows
end Go.Proofs.YtgllikobokmapaaDoor
