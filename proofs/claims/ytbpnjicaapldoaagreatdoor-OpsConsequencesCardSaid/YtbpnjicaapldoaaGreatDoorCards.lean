/-
  DERIVED. GIVEN WITH THE SEED: THE CARDS: each row of YtbpnjicaapldoaaGreatDoorRows.lean that lists a variable, with what it lists TIED to the program's text (the seventh form; the later family's looks); each row that meets fmt, with fmt's text TOLD by the authors' own Lean function (tested against real Go, not proved from fmt's source: count such statements apart). THE CARD IS WHAT COUNTS. Prove the row's statement (the work); the ties are given (YtbpnjicaapldoaaGreatDoorTie.lean); close each card by the builder's one call (the guide's Derived/Test/ToyasCard.lean, 'card_holds'). Laid BY PROGRAM, IN A SANDBOX (cutbox-door.mjs). By AI agents, Wed Nov 11 2026. No macro, syntax, notation, axiom, sorry.
-/
import Derived.Test.YtbpnjicaapldoaaGreatDoorRows
import GoSem.ClaimSeven
namespace Go.Proofs.YtbpnjicaapldoaaGreatDoor
namespace Rows

/-- THE TIED CARD OF 'bowlinelaw11.OpsConsequences'. -/
def opsConsequencesCard : Claim7 := { stood := { row := opsConsequencesRow, standIns := [], harness := (true, "0192df46244758ef0f7612ea6395327efa04fbb2a2be42e3c5db3c5ccd2df540"), looks := true }, kinds := [], alts := [], laidByText := true, laidKinds := [.data, .data, .widerDeep, .widerDeep, .data, .data, .data, .data, .data, .sentinel, .sentinel, .listed, .data, .funcs, .data, .widerDeep, .pinned, .pinned], laidTests := true, laidLooks := .later }
def OpsConsequencesCardSaid : Prop := Claim7.holds Tryz.pinned (.plain (OpenSpec.ofChange opsConsequencesSpec)) opsConsequencesCard

/-- THE SECOND FORM's CARD OF 'bowlinelaw11.OpsConsequences'. -/
def opsConsequencesUptoCard : Claim7 := { stood := { row := opsConsequencesUptoRow, standIns := [], harness := (true, "0192df46244758ef0f7612ea6395327efa04fbb2a2be42e3c5db3c5ccd2df540"), looks := true }, kinds := [], alts := [], laidByText := true, laidKinds := [.data, .data, .widerDeep, .widerDeep, .data, .data, .data, .data, .data, .sentinel, .sentinel, .listed, .data, .funcs, .data, .widerDeep, .pinned, .pinned], laidTests := true, laidLooks := .later }
def OpsConsequencesUptoCardSaid : Prop := Claim7.holds Tryz.pinned (.plain (OpenSpec.upto opsConsequencesSpec)) opsConsequencesUptoCard
end Rows
end Go.Proofs.YtbpnjicaapldoaaGreatDoor
