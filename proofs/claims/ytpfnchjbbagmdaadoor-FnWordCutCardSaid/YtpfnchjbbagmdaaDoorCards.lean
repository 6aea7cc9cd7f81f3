/-
  DERIVED. GIVEN WITH THE SEED: THE CARDS: each row of YtpfnchjbbagmdaaDoorRows.lean that lists a variable, with what it lists TIED to the program's text (the seventh form; the later family's looks); each row that meets fmt, with fmt's text TOLD by the authors' own Lean function (tested against real Go, not proved from fmt's source: count such statements apart). THE CARD IS WHAT COUNTS. Prove the row's statement (the work); the ties are given (YtpfnchjbbagmdaaDoorTie.lean); close each card by the builder's one call (the guide's Derived/Test/ToyasCard.lean, 'card_holds'). Laid BY PROGRAM, IN A SANDBOX (cutbox-door.mjs). By AI agents, Wed Nov 11 2026. No macro, syntax, notation, axiom, sorry.
-/
import Derived.Test.YtpfnchjbbagmdaaDoorRows
import GoSem.ClaimSeven
namespace Go.Proofs.YtpfnchjbbagmdaaDoor
namespace Rows

/-- THE TIED CARD OF 'laws.FnWordTurn'. -/
def fnWordTurnCard : Claim7 := { stood := { row := fnWordTurnRow, standIns := [], harness := (true, "44d0c494ed6578cd41aac4e3b85e9bc7632d1f142fef54a0c64862da46b9afe3"), looks := false }, kinds := [], alts := [], laidByText := true, laidKinds := [.data, .data, .data], laidTests := true, laidLooks := .later }
def FnWordTurnCardSaid : Prop := Claim7.holds Tryd.pinned (.plain (OpenSpec.ofChange fnWordTurnSpec)) fnWordTurnCard

/-- THE TIED CARD OF 'laws.FnWordBack'. -/
def fnWordBackCard : Claim7 := { stood := { row := fnWordBackRow, standIns := [], harness := (true, "44d0c494ed6578cd41aac4e3b85e9bc7632d1f142fef54a0c64862da46b9afe3"), looks := false }, kinds := [], alts := [], laidByText := true, laidKinds := [.data, .data, .data], laidTests := true, laidLooks := .later }
def FnWordBackCardSaid : Prop := Claim7.holds Tryd.pinned (.plain (OpenSpec.ofChange fnWordBackSpec)) fnWordBackCard

/-- THE TIED CARD OF 'laws.FnNames'. -/
def fnNamesCard : Claim7 := { stood := { row := fnNamesRow, standIns := [], harness := (true, "44d0c494ed6578cd41aac4e3b85e9bc7632d1f142fef54a0c64862da46b9afe3"), looks := false }, kinds := [], alts := [], laidByText := true, laidKinds := [.data, .data, .data], laidTests := true, laidLooks := .later }
def FnNamesCardSaid : Prop := Claim7.holds Tryd.pinned (.plain (OpenSpec.ofChange fnNamesSpec)) fnNamesCard

/-- THE TIED CARD OF 'laws.FnJoin'. -/
def fnJoinCard : Claim7 := { stood := { row := fnJoinRow, standIns := [], harness := (true, "44d0c494ed6578cd41aac4e3b85e9bc7632d1f142fef54a0c64862da46b9afe3"), looks := false }, kinds := [], alts := [], laidByText := true, laidKinds := [.data, .data, .data], laidTests := true, laidLooks := .later }
def FnJoinCardSaid : Prop := Claim7.holds Tryd.pinned (.plain (OpenSpec.ofChange fnJoinSpec)) fnJoinCard

/-- THE TIED CARD OF 'laws.FnJoinHandle'. -/
def fnJoinHandleCard : Claim7 := { stood := { row := fnJoinHandleRow, standIns := [], harness := (true, "44d0c494ed6578cd41aac4e3b85e9bc7632d1f142fef54a0c64862da46b9afe3"), looks := false }, kinds := [], alts := [], laidByText := true, laidKinds := [.data, .data, .data], laidTests := true, laidLooks := .later }
def FnJoinHandleCardSaid : Prop := Claim7.holds Tryd.pinned (.plain (OpenSpec.ofChange fnJoinHandleSpec)) fnJoinHandleCard

/-- THE TIED CARD OF 'laws.FnWordCut'. -/
def fnWordCutCard : Claim7 := { stood := { row := fnWordCutRow, standIns := [], harness := (true, "44d0c494ed6578cd41aac4e3b85e9bc7632d1f142fef54a0c64862da46b9afe3"), looks := false }, kinds := [], alts := [], laidByText := true, laidKinds := [.data, .data, .data], laidTests := true, laidLooks := .later }
def FnWordCutCardSaid : Prop := Claim7.holds Tryd.pinned (.plain (OpenSpec.ofChange fnWordCutSpec)) fnWordCutCard

/-- THE TIED CARD OF 'laws.FnNormal'. -/
def fnNormalCard : Claim7 := { stood := { row := fnNormalRow, standIns := [], harness := (true, "44d0c494ed6578cd41aac4e3b85e9bc7632d1f142fef54a0c64862da46b9afe3"), looks := false }, kinds := [], alts := [], laidByText := true, laidKinds := [.data, .data, .data], laidTests := true, laidLooks := .later }
def FnNormalCardSaid : Prop := Claim7.holds Tryd.pinned (.plain (OpenSpec.ofChange fnNormalSpec)) fnNormalCard

/-- THE TIED CARD OF 'laws.FnClass'. -/
def fnClassCard : Claim7 := { stood := { row := fnClassRow, standIns := [], harness := (true, "44d0c494ed6578cd41aac4e3b85e9bc7632d1f142fef54a0c64862da46b9afe3"), looks := false }, kinds := [], alts := [], laidByText := true, laidKinds := [.data, .data, .data], laidTests := true, laidLooks := .later }
def FnClassCardSaid : Prop := Claim7.holds Tryd.pinned (.plain (OpenSpec.ofChange fnClassSpec)) fnClassCard

/-- THE TIED CARD OF 'laws.FnWordSame'. -/
def fnWordSameCard : Claim7 := { stood := { row := fnWordSameRow, standIns := [], harness := (true, "44d0c494ed6578cd41aac4e3b85e9bc7632d1f142fef54a0c64862da46b9afe3"), looks := false }, kinds := [], alts := [], laidByText := true, laidKinds := [.data, .data, .data], laidTests := true, laidLooks := .later }
def FnWordSameCardSaid : Prop := Claim7.holds Tryd.pinned (.plain (OpenSpec.ofChange fnWordSameSpec)) fnWordSameCard

/-- THE SECOND FORM's CARD OF 'laws.FnWordTurn'. -/
def fnWordTurnUptoCard : Claim7 := { stood := { row := fnWordTurnUptoRow, standIns := [], harness := (true, "44d0c494ed6578cd41aac4e3b85e9bc7632d1f142fef54a0c64862da46b9afe3"), looks := false }, kinds := [], alts := [], laidByText := true, laidKinds := [.data, .data, .data], laidTests := true, laidLooks := .later }
def FnWordTurnUptoCardSaid : Prop := Claim7.holds Tryd.pinned (.plain (OpenSpec.upto fnWordTurnSpec)) fnWordTurnUptoCard

/-- THE SECOND FORM's CARD OF 'laws.FnWordBack'. -/
def fnWordBackUptoCard : Claim7 := { stood := { row := fnWordBackUptoRow, standIns := [], harness := (true, "44d0c494ed6578cd41aac4e3b85e9bc7632d1f142fef54a0c64862da46b9afe3"), looks := false }, kinds := [], alts := [], laidByText := true, laidKinds := [.data, .data, .data], laidTests := true, laidLooks := .later }
def FnWordBackUptoCardSaid : Prop := Claim7.holds Tryd.pinned (.plain (OpenSpec.upto fnWordBackSpec)) fnWordBackUptoCard

/-- THE SECOND FORM's CARD OF 'laws.FnNames'. -/
def fnNamesUptoCard : Claim7 := { stood := { row := fnNamesUptoRow, standIns := [], harness := (true, "44d0c494ed6578cd41aac4e3b85e9bc7632d1f142fef54a0c64862da46b9afe3"), looks := false }, kinds := [], alts := [], laidByText := true, laidKinds := [.data, .data, .data], laidTests := true, laidLooks := .later }
def FnNamesUptoCardSaid : Prop := Claim7.holds Tryd.pinned (.plain (OpenSpec.upto fnNamesSpec)) fnNamesUptoCard

/-- THE SECOND FORM's CARD OF 'laws.FnJoin'. -/
def fnJoinUptoCard : Claim7 := { stood := { row := fnJoinUptoRow, standIns := [], harness := (true, "44d0c494ed6578cd41aac4e3b85e9bc7632d1f142fef54a0c64862da46b9afe3"), looks := false }, kinds := [], alts := [], laidByText := true, laidKinds := [.data, .data, .data], laidTests := true, laidLooks := .later }
def FnJoinUptoCardSaid : Prop := Claim7.holds Tryd.pinned (.plain (OpenSpec.upto fnJoinSpec)) fnJoinUptoCard

/-- THE SECOND FORM's CARD OF 'laws.FnJoinHandle'. -/
def fnJoinHandleUptoCard : Claim7 := { stood := { row := fnJoinHandleUptoRow, standIns := [], harness := (true, "44d0c494ed6578cd41aac4e3b85e9bc7632d1f142fef54a0c64862da46b9afe3"), looks := false }, kinds := [], alts := [], laidByText := true, laidKinds := [.data, .data, .data], laidTests := true, laidLooks := .later }
def FnJoinHandleUptoCardSaid : Prop := Claim7.holds Tryd.pinned (.plain (OpenSpec.upto fnJoinHandleSpec)) fnJoinHandleUptoCard

/-- THE SECOND FORM's CARD OF 'laws.FnWordCut'. -/
def fnWordCutUptoCard : Claim7 := { stood := { row := fnWordCutUptoRow, standIns := [], harness := (true, "44d0c494ed6578cd41aac4e3b85e9bc7632d1f142fef54a0c64862da46b9afe3"), looks := false }, kinds := [], alts := [], laidByText := true, laidKinds := [.data, .data, .data], laidTests := true, laidLooks := .later }
def FnWordCutUptoCardSaid : Prop := Claim7.holds Tryd.pinned (.plain (OpenSpec.upto fnWordCutSpec)) fnWordCutUptoCard

/-- THE SECOND FORM's CARD OF 'laws.FnNormal'. -/
def fnNormalUptoCard : Claim7 := { stood := { row := fnNormalUptoRow, standIns := [], harness := (true, "44d0c494ed6578cd41aac4e3b85e9bc7632d1f142fef54a0c64862da46b9afe3"), looks := false }, kinds := [], alts := [], laidByText := true, laidKinds := [.data, .data, .data], laidTests := true, laidLooks := .later }
def FnNormalUptoCardSaid : Prop := Claim7.holds Tryd.pinned (.plain (OpenSpec.upto fnNormalSpec)) fnNormalUptoCard

/-- THE SECOND FORM's CARD OF 'laws.FnClass'. -/
def fnClassUptoCard : Claim7 := { stood := { row := fnClassUptoRow, standIns := [], harness := (true, "44d0c494ed6578cd41aac4e3b85e9bc7632d1f142fef54a0c64862da46b9afe3"), looks := false }, kinds := [], alts := [], laidByText := true, laidKinds := [.data, .data, .data], laidTests := true, laidLooks := .later }
def FnClassUptoCardSaid : Prop := Claim7.holds Tryd.pinned (.plain (OpenSpec.upto fnClassSpec)) fnClassUptoCard

/-- THE SECOND FORM's CARD OF 'laws.FnWordSame'. -/
def fnWordSameUptoCard : Claim7 := { stood := { row := fnWordSameUptoRow, standIns := [], harness := (true, "44d0c494ed6578cd41aac4e3b85e9bc7632d1f142fef54a0c64862da46b9afe3"), looks := false }, kinds := [], alts := [], laidByText := true, laidKinds := [.data, .data, .data], laidTests := true, laidLooks := .later }
def FnWordSameUptoCardSaid : Prop := Claim7.holds Tryd.pinned (.plain (OpenSpec.upto fnWordSameSpec)) fnWordSameUptoCard
end Rows
end Go.Proofs.YtpfnchjbbagmdaaDoor
