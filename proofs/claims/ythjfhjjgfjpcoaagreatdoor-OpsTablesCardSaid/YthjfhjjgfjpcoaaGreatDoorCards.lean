/-
  DERIVED. GIVEN WITH THE SEED: THE CARDS: each row of YthjfhjjgfjpcoaaGreatDoorRows.lean that lists a variable, with what it lists TIED to the program's text (the seventh form; the later family's looks); each row that meets fmt, with fmt's text TOLD by the authors' own Lean function (tested against real Go, not proved from fmt's source: count such statements apart). THE CARD IS WHAT COUNTS. Prove the row's statement (the work); the ties are given (YthjfhjjgfjpcoaaGreatDoorTie.lean); close each card by the builder's one call (the guide's Derived/Test/ToyasCard.lean, 'card_holds'). Laid BY PROGRAM, IN A SANDBOX (cutbox-door.mjs). By AI agents, Wed Nov 11 2026. No macro, syntax, notation, axiom, sorry.
-/
import Derived.Test.YthjfhjjgfjpcoaaGreatDoorRows
import GoSem.ClaimSeven
namespace Go.Proofs.YthjfhjjgfjpcoaaGreatDoor
namespace Rows

/-- THE TIED CARD OF 'bowlinelaw11.OpsConverts'. -/
def opsConvertsCard : Claim7 := { stood := { row := opsConvertsRow, standIns := [], harness := (true, "a76758e5a077aaa9ffd34132a9477292cd57bc26ff4d41b41f41596cea4b728a"), looks := true }, kinds := [], alts := [], laidByText := true, laidKinds := [.data, .data, .widerDeep, .widerDeep, .data, .data, .data, .data, .data, .sentinel, .sentinel, .listed, .data, .data, .widerDeep, .pinned, .pinned], laidTests := true, laidLooks := .later }
def OpsConvertsCardSaid : Prop := Claim7.holds Tryz.pinned (.plain (OpenSpec.ofChange opsConvertsSpec)) opsConvertsCard

/-- THE TIED CARD OF 'bowlinelaw11.OpsTables'. -/
def opsTablesCard : Claim7 := { stood := { row := opsTablesRow, standIns := [], harness := (true, "a76758e5a077aaa9ffd34132a9477292cd57bc26ff4d41b41f41596cea4b728a"), looks := true }, kinds := [], alts := [], laidByText := true, laidKinds := [.data, .data, .widerDeep, .widerDeep, .data, .data, .data, .data, .data, .sentinel, .sentinel, .listed, .data, .data, .widerDeep, .pinned, .pinned], laidTests := true, laidLooks := .later }
def OpsTablesCardSaid : Prop := Claim7.holds Tryz.pinned (.plain (OpenSpec.ofChange opsTablesSpec)) opsTablesCard

/-- THE SECOND FORM's CARD OF 'bowlinelaw11.OpsConverts'. -/
def opsConvertsUptoCard : Claim7 := { stood := { row := opsConvertsUptoRow, standIns := [], harness := (true, "a76758e5a077aaa9ffd34132a9477292cd57bc26ff4d41b41f41596cea4b728a"), looks := true }, kinds := [], alts := [], laidByText := true, laidKinds := [.data, .data, .widerDeep, .widerDeep, .data, .data, .data, .data, .data, .sentinel, .sentinel, .listed, .data, .data, .widerDeep, .pinned, .pinned], laidTests := true, laidLooks := .later }
def OpsConvertsUptoCardSaid : Prop := Claim7.holds Tryz.pinned (.plain (OpenSpec.upto opsConvertsSpec)) opsConvertsUptoCard

/-- THE SECOND FORM's CARD OF 'bowlinelaw11.OpsTables'. -/
def opsTablesUptoCard : Claim7 := { stood := { row := opsTablesUptoRow, standIns := [], harness := (true, "a76758e5a077aaa9ffd34132a9477292cd57bc26ff4d41b41f41596cea4b728a"), looks := true }, kinds := [], alts := [], laidByText := true, laidKinds := [.data, .data, .widerDeep, .widerDeep, .data, .data, .data, .data, .data, .sentinel, .sentinel, .listed, .data, .data, .widerDeep, .pinned, .pinned], laidTests := true, laidLooks := .later }
def OpsTablesUptoCardSaid : Prop := Claim7.holds Tryz.pinned (.plain (OpenSpec.upto opsTablesSpec)) opsTablesUptoCard
end Rows
end Go.Proofs.YthjfhjjgfjpcoaaGreatDoor
