/-
  DERIVED. GIVEN WITH THE SEED: THE CARDS: each row of YtjebcgbmlbemcaaGreatDoorRows.lean that lists a variable, with what it lists TIED to the program's text (the seventh form; the later family's looks); each row that meets fmt, with fmt's text TOLD by the authors' own Lean function (tested against real Go, not proved from fmt's source: count such statements apart). THE CARD IS WHAT COUNTS. Prove the row's statement (the work); the ties are given (YtjebcgbmlbemcaaGreatDoorTie.lean); close each card by the builder's one call (the guide's Derived/Test/ToyasCard.lean, 'card_holds'). Laid BY PROGRAM, IN A SANDBOX (cutbox-door.mjs). By AI agents, Wed Nov 11 2026. No macro, syntax, notation, axiom, sorry.
-/
import Derived.Test.YtjebcgbmlbemcaaGreatDoorRows
import GoSem.ClaimSeven
namespace Go.Proofs.YtjebcgbmlbemcaaGreatDoor
namespace Rows

/-- THE TIED CARD OF 'laws.FnExecuteTutte'. -/
def fnExecuteTutteCard : Claim7 := { stood := { row := fnExecuteTutteRow, standIns := [], harness := (true, "4527bb2906a56185e1abfeac405a206cf0a55e8a656c9c9e4c101f43b2b9b9b7"), looks := true }, kinds := [], alts := [], laidByText := true, laidKinds := [.data, .data, .data, .data, .sentinel, .sentinel, .pinned], laidTests := true, laidLooks := .later }
def FnExecuteTutteCardSaid : Prop := Claim7.holds Tryz.pinned (.plain (OpenSpec.ofChange fnExecuteTutteSpec)) fnExecuteTutteCard

/-- THE TIED CARD OF 'laws.FnExecuteValue'. -/
def fnExecuteValueCard : Claim7 := { stood := { row := fnExecuteValueRow, standIns := [], harness := (true, "4527bb2906a56185e1abfeac405a206cf0a55e8a656c9c9e4c101f43b2b9b9b7"), looks := true }, kinds := [], alts := [], laidByText := true, laidKinds := [.data, .data, .data, .data, .sentinel, .sentinel, .pinned], laidTests := true, laidLooks := .later }
def FnExecuteValueCardSaid : Prop := Claim7.holds Tryz.pinned (.plain (OpenSpec.ofChange fnExecuteValueSpec)) fnExecuteValueCard

/-- THE TIED CARD OF 'laws.FnExecuteContract'. -/
def fnExecuteContractCard : Claim7 := { stood := { row := fnExecuteContractRow, standIns := [], harness := (true, "4527bb2906a56185e1abfeac405a206cf0a55e8a656c9c9e4c101f43b2b9b9b7"), looks := true }, kinds := [], alts := [], laidByText := true, laidKinds := [.data, .data, .data, .data, .sentinel, .sentinel, .pinned], laidTests := true, laidLooks := .later }
def FnExecuteContractCardSaid : Prop := Claim7.holds Tryz.pinned (.plain (OpenSpec.ofChange fnExecuteContractSpec)) fnExecuteContractCard

/-- THE SECOND FORM's CARD OF 'laws.FnExecuteTutte'. -/
def fnExecuteTutteUptoCard : Claim7 := { stood := { row := fnExecuteTutteUptoRow, standIns := [], harness := (true, "4527bb2906a56185e1abfeac405a206cf0a55e8a656c9c9e4c101f43b2b9b9b7"), looks := true }, kinds := [], alts := [], laidByText := true, laidKinds := [.data, .data, .data, .data, .sentinel, .sentinel, .pinned], laidTests := true, laidLooks := .later }
def FnExecuteTutteUptoCardSaid : Prop := Claim7.holds Tryz.pinned (.plain (OpenSpec.upto fnExecuteTutteSpec)) fnExecuteTutteUptoCard

/-- THE SECOND FORM's CARD OF 'laws.FnExecuteValue'. -/
def fnExecuteValueUptoCard : Claim7 := { stood := { row := fnExecuteValueUptoRow, standIns := [], harness := (true, "4527bb2906a56185e1abfeac405a206cf0a55e8a656c9c9e4c101f43b2b9b9b7"), looks := true }, kinds := [], alts := [], laidByText := true, laidKinds := [.data, .data, .data, .data, .sentinel, .sentinel, .pinned], laidTests := true, laidLooks := .later }
def FnExecuteValueUptoCardSaid : Prop := Claim7.holds Tryz.pinned (.plain (OpenSpec.upto fnExecuteValueSpec)) fnExecuteValueUptoCard

/-- THE SECOND FORM's CARD OF 'laws.FnExecuteContract'. -/
def fnExecuteContractUptoCard : Claim7 := { stood := { row := fnExecuteContractUptoRow, standIns := [], harness := (true, "4527bb2906a56185e1abfeac405a206cf0a55e8a656c9c9e4c101f43b2b9b9b7"), looks := true }, kinds := [], alts := [], laidByText := true, laidKinds := [.data, .data, .data, .data, .sentinel, .sentinel, .pinned], laidTests := true, laidLooks := .later }
def FnExecuteContractUptoCardSaid : Prop := Claim7.holds Tryz.pinned (.plain (OpenSpec.upto fnExecuteContractSpec)) fnExecuteContractUptoCard
end Rows
end Go.Proofs.YtjebcgbmlbemcaaGreatDoor
