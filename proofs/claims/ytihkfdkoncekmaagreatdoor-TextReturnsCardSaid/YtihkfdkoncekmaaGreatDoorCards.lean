/-
  DERIVED. GIVEN WITH THE SEED: THE CARDS: each row of YtihkfdkoncekmaaGreatDoorRows.lean that lists a variable, with what it lists TIED to the program's text (the seventh form; the later family's looks); each row that meets fmt, with fmt's text TOLD by the authors' own Lean function (tested against real Go, not proved from fmt's source: count such statements apart). THE CARD IS WHAT COUNTS. Prove the row's statement (the work); the ties are given (YtihkfdkoncekmaaGreatDoorTie.lean); close each card by the builder's one call (the guide's Derived/Test/ToyasCard.lean, 'card_holds'). Laid BY PROGRAM, IN A SANDBOX (cutbox-door.mjs). By AI agents, Wed Nov 11 2026. No macro, syntax, notation, axiom, sorry.
-/
import Derived.Test.YtihkfdkoncekmaaGreatDoorRows
import GoSem.ClaimSeven
namespace Go.Proofs.YtihkfdkoncekmaaGreatDoor
namespace Rows

/-- THE TIED CARD OF 'bowlinelaw38.TextReplaces'. -/
def textReplacesCard : Claim7 := { stood := { row := textReplacesRow, standIns := [], harness := (true, "e503061719a83ab20d2edd904d948c7a10fbbcd660fba6e1595d42424f680ddc"), looks := false }, kinds := [], alts := [], laidByText := true, laidKinds := [.data, .data, .funcs, .pinned], laidTests := true, laidLooks := .later }
def TextReplacesCardSaid : Prop := Claim7.holds Tryz.pinned (.plain (OpenSpec.ofChange textReplacesSpec)) textReplacesCard

/-- THE TIED CARD OF 'bowlinelaw38.TextParses'. -/
def textParsesCard : Claim7 := { stood := { row := textParsesRow, standIns := [], harness := (true, "e503061719a83ab20d2edd904d948c7a10fbbcd660fba6e1595d42424f680ddc"), looks := false }, kinds := [], alts := [], laidByText := true, laidKinds := [.data, .data, .funcs, .pinned], laidTests := true, laidLooks := .later }
def TextParsesCardSaid : Prop := Claim7.holds Tryz.pinned (.plain (OpenSpec.ofChange textParsesSpec)) textParsesCard

/-- THE TIED CARD OF 'bowlinelaw38.TextChecks'. -/
def textChecksCard : Claim7 := { stood := { row := textChecksRow, standIns := [], harness := (true, "e503061719a83ab20d2edd904d948c7a10fbbcd660fba6e1595d42424f680ddc"), looks := false }, kinds := [], alts := [], laidByText := true, laidKinds := [.data, .data, .funcs, .pinned], laidTests := true, laidLooks := .later }
def TextChecksCardSaid : Prop := Claim7.holds Tryz.pinned (.plain (OpenSpec.ofChange textChecksSpec)) textChecksCard

/-- THE TIED CARD OF 'bowlinelaw38.TextReturns'. -/
def textReturnsCard : Claim7 := { stood := { row := textReturnsRow, standIns := [], harness := (true, "e503061719a83ab20d2edd904d948c7a10fbbcd660fba6e1595d42424f680ddc"), looks := false }, kinds := [], alts := [], laidByText := true, laidKinds := [.data, .data, .funcs, .pinned], laidTests := true, laidLooks := .later }
def TextReturnsCardSaid : Prop := Claim7.holds Tryz.pinned (.plain (OpenSpec.ofChange textReturnsSpec)) textReturnsCard

/-- THE TIED CARD OF 'bowlinelaw38.TextSettles'. -/
def textSettlesCard : Claim7 := { stood := { row := textSettlesRow, standIns := [], harness := (true, "e503061719a83ab20d2edd904d948c7a10fbbcd660fba6e1595d42424f680ddc"), looks := false }, kinds := [], alts := [], laidByText := true, laidKinds := [.data, .data, .funcs, .pinned], laidTests := true, laidLooks := .later }
def TextSettlesCardSaid : Prop := Claim7.holds Tryz.pinned (.plain (OpenSpec.ofChange textSettlesSpec)) textSettlesCard

/-- THE TIED CARD OF 'bowlinelaw38.TextPoints'. -/
def textPointsCard : Claim7 := { stood := { row := textPointsRow, standIns := [], harness := (true, "e503061719a83ab20d2edd904d948c7a10fbbcd660fba6e1595d42424f680ddc"), looks := false }, kinds := [], alts := [], laidByText := true, laidKinds := [.data, .data, .funcs, .pinned], laidTests := true, laidLooks := .later }
def TextPointsCardSaid : Prop := Claim7.holds Tryz.pinned (.plain (OpenSpec.ofChange textPointsSpec)) textPointsCard

/-- THE SECOND FORM's CARD OF 'bowlinelaw38.TextReplaces'. -/
def textReplacesUptoCard : Claim7 := { stood := { row := textReplacesUptoRow, standIns := [], harness := (true, "e503061719a83ab20d2edd904d948c7a10fbbcd660fba6e1595d42424f680ddc"), looks := false }, kinds := [], alts := [], laidByText := true, laidKinds := [.data, .data, .funcs, .pinned], laidTests := true, laidLooks := .later }
def TextReplacesUptoCardSaid : Prop := Claim7.holds Tryz.pinned (.plain (OpenSpec.upto textReplacesSpec)) textReplacesUptoCard

/-- THE SECOND FORM's CARD OF 'bowlinelaw38.TextParses'. -/
def textParsesUptoCard : Claim7 := { stood := { row := textParsesUptoRow, standIns := [], harness := (true, "e503061719a83ab20d2edd904d948c7a10fbbcd660fba6e1595d42424f680ddc"), looks := false }, kinds := [], alts := [], laidByText := true, laidKinds := [.data, .data, .funcs, .pinned], laidTests := true, laidLooks := .later }
def TextParsesUptoCardSaid : Prop := Claim7.holds Tryz.pinned (.plain (OpenSpec.upto textParsesSpec)) textParsesUptoCard

/-- THE SECOND FORM's CARD OF 'bowlinelaw38.TextChecks'. -/
def textChecksUptoCard : Claim7 := { stood := { row := textChecksUptoRow, standIns := [], harness := (true, "e503061719a83ab20d2edd904d948c7a10fbbcd660fba6e1595d42424f680ddc"), looks := false }, kinds := [], alts := [], laidByText := true, laidKinds := [.data, .data, .funcs, .pinned], laidTests := true, laidLooks := .later }
def TextChecksUptoCardSaid : Prop := Claim7.holds Tryz.pinned (.plain (OpenSpec.upto textChecksSpec)) textChecksUptoCard

/-- THE SECOND FORM's CARD OF 'bowlinelaw38.TextReturns'. -/
def textReturnsUptoCard : Claim7 := { stood := { row := textReturnsUptoRow, standIns := [], harness := (true, "e503061719a83ab20d2edd904d948c7a10fbbcd660fba6e1595d42424f680ddc"), looks := false }, kinds := [], alts := [], laidByText := true, laidKinds := [.data, .data, .funcs, .pinned], laidTests := true, laidLooks := .later }
def TextReturnsUptoCardSaid : Prop := Claim7.holds Tryz.pinned (.plain (OpenSpec.upto textReturnsSpec)) textReturnsUptoCard

/-- THE SECOND FORM's CARD OF 'bowlinelaw38.TextSettles'. -/
def textSettlesUptoCard : Claim7 := { stood := { row := textSettlesUptoRow, standIns := [], harness := (true, "e503061719a83ab20d2edd904d948c7a10fbbcd660fba6e1595d42424f680ddc"), looks := false }, kinds := [], alts := [], laidByText := true, laidKinds := [.data, .data, .funcs, .pinned], laidTests := true, laidLooks := .later }
def TextSettlesUptoCardSaid : Prop := Claim7.holds Tryz.pinned (.plain (OpenSpec.upto textSettlesSpec)) textSettlesUptoCard

/-- THE SECOND FORM's CARD OF 'bowlinelaw38.TextPoints'. -/
def textPointsUptoCard : Claim7 := { stood := { row := textPointsUptoRow, standIns := [], harness := (true, "e503061719a83ab20d2edd904d948c7a10fbbcd660fba6e1595d42424f680ddc"), looks := false }, kinds := [], alts := [], laidByText := true, laidKinds := [.data, .data, .funcs, .pinned], laidTests := true, laidLooks := .later }
def TextPointsUptoCardSaid : Prop := Claim7.holds Tryz.pinned (.plain (OpenSpec.upto textPointsSpec)) textPointsUptoCard
end Rows
end Go.Proofs.YtihkfdkoncekmaaGreatDoor
