/-
  DERIVED. GIVEN WITH THE SEED: THE CARDS: each row of YtikkokflcgcnbaaGreatDoorRows.lean that lists a variable, with what it lists TIED to the program's text (the seventh form; the later family's looks); each row that meets fmt, with fmt's text TOLD by the authors' own Lean function (tested against real Go, not proved from fmt's source: count such statements apart). THE CARD IS WHAT COUNTS. Prove the row's statement (the work); the ties are given (YtikkokflcgcnbaaGreatDoorTie.lean); close each card by the builder's one call (the guide's Derived/Test/ToyasCard.lean, 'card_holds'). Laid BY PROGRAM, IN A SANDBOX (cutbox-door.mjs). By AI agents, Wed Nov 11 2026. No macro, syntax, notation, axiom, sorry.
-/
import Derived.Test.YtikkokflcgcnbaaGreatDoorRows
import GoSem.ClaimSeven
namespace Go.Proofs.YtikkokflcgcnbaaGreatDoor
namespace Rows

/-- THE TIED CARD OF 'laws.FnExecuteDual'. -/
def fnExecuteDualCard : Claim7 := { stood := { row := fnExecuteDualRow, standIns := [], harness := (true, "24a5fb936f715d0f19cdd236088d61fda1104869d05df14d9792c27bdc079518"), looks := true }, kinds := [], alts := [], laidByText := true, laidKinds := [.data, .data, .data, .data, .sentinel, .sentinel, .pinned], laidTests := true, laidLooks := .later }
def FnExecuteDualCardSaid : Prop := Claim7.holds Tryz.pinned (.plain (OpenSpec.ofChange fnExecuteDualSpec)) fnExecuteDualCard

/-- THE TIED CARD OF 'laws.FnExecuteClass'. -/
def fnExecuteClassCard : Claim7 := { stood := { row := fnExecuteClassRow, standIns := [], harness := (true, "24a5fb936f715d0f19cdd236088d61fda1104869d05df14d9792c27bdc079518"), looks := true }, kinds := [], alts := [], laidByText := true, laidKinds := [.data, .data, .data, .data, .sentinel, .sentinel, .pinned], laidTests := true, laidLooks := .later }
def FnExecuteClassCardSaid : Prop := Claim7.holds Tryz.pinned (.plain (OpenSpec.ofChange fnExecuteClassSpec)) fnExecuteClassCard

/-- THE TIED CARD OF 'laws.FnExecuteCounts'. -/
def fnExecuteCountsCard : Claim7 := { stood := { row := fnExecuteCountsRow, standIns := [], harness := (true, "24a5fb936f715d0f19cdd236088d61fda1104869d05df14d9792c27bdc079518"), looks := true }, kinds := [], alts := [], laidByText := true, laidKinds := [.data, .data, .data, .data, .sentinel, .sentinel, .pinned], laidTests := true, laidLooks := .later }
def FnExecuteCountsCardSaid : Prop := Claim7.holds Tryz.pinned (.plain (OpenSpec.ofChange fnExecuteCountsSpec)) fnExecuteCountsCard

/-- THE TIED CARD OF 'laws.FnExecuteForm'. -/
def fnExecuteFormCard : Claim7 := { stood := { row := fnExecuteFormRow, standIns := [], harness := (true, "24a5fb936f715d0f19cdd236088d61fda1104869d05df14d9792c27bdc079518"), looks := true }, kinds := [], alts := [], laidByText := true, laidKinds := [.data, .data, .data, .data, .sentinel, .sentinel, .pinned], laidTests := true, laidLooks := .later }
def FnExecuteFormCardSaid : Prop := Claim7.holds Tryz.pinned (.plain (OpenSpec.ofChange fnExecuteFormSpec)) fnExecuteFormCard

/-- THE SECOND FORM's CARD OF 'laws.FnExecuteDual'. -/
def fnExecuteDualUptoCard : Claim7 := { stood := { row := fnExecuteDualUptoRow, standIns := [], harness := (true, "24a5fb936f715d0f19cdd236088d61fda1104869d05df14d9792c27bdc079518"), looks := true }, kinds := [], alts := [], laidByText := true, laidKinds := [.data, .data, .data, .data, .sentinel, .sentinel, .pinned], laidTests := true, laidLooks := .later }
def FnExecuteDualUptoCardSaid : Prop := Claim7.holds Tryz.pinned (.plain (OpenSpec.upto fnExecuteDualSpec)) fnExecuteDualUptoCard

/-- THE SECOND FORM's CARD OF 'laws.FnExecuteClass'. -/
def fnExecuteClassUptoCard : Claim7 := { stood := { row := fnExecuteClassUptoRow, standIns := [], harness := (true, "24a5fb936f715d0f19cdd236088d61fda1104869d05df14d9792c27bdc079518"), looks := true }, kinds := [], alts := [], laidByText := true, laidKinds := [.data, .data, .data, .data, .sentinel, .sentinel, .pinned], laidTests := true, laidLooks := .later }
def FnExecuteClassUptoCardSaid : Prop := Claim7.holds Tryz.pinned (.plain (OpenSpec.upto fnExecuteClassSpec)) fnExecuteClassUptoCard

/-- THE SECOND FORM's CARD OF 'laws.FnExecuteCounts'. -/
def fnExecuteCountsUptoCard : Claim7 := { stood := { row := fnExecuteCountsUptoRow, standIns := [], harness := (true, "24a5fb936f715d0f19cdd236088d61fda1104869d05df14d9792c27bdc079518"), looks := true }, kinds := [], alts := [], laidByText := true, laidKinds := [.data, .data, .data, .data, .sentinel, .sentinel, .pinned], laidTests := true, laidLooks := .later }
def FnExecuteCountsUptoCardSaid : Prop := Claim7.holds Tryz.pinned (.plain (OpenSpec.upto fnExecuteCountsSpec)) fnExecuteCountsUptoCard

/-- THE SECOND FORM's CARD OF 'laws.FnExecuteForm'. -/
def fnExecuteFormUptoCard : Claim7 := { stood := { row := fnExecuteFormUptoRow, standIns := [], harness := (true, "24a5fb936f715d0f19cdd236088d61fda1104869d05df14d9792c27bdc079518"), looks := true }, kinds := [], alts := [], laidByText := true, laidKinds := [.data, .data, .data, .data, .sentinel, .sentinel, .pinned], laidTests := true, laidLooks := .later }
def FnExecuteFormUptoCardSaid : Prop := Claim7.holds Tryz.pinned (.plain (OpenSpec.upto fnExecuteFormSpec)) fnExecuteFormUptoCard
end Rows
end Go.Proofs.YtikkokflcgcnbaaGreatDoor
