/-
  DERIVED. GIVEN WITH THE SEED: THE CARDS: each row of YtdbglmnialieoaaDoorRows.lean that lists a variable, with what it lists TIED to the program's text (the seventh form; the later family's looks); each row that meets fmt, with fmt's text TOLD by the authors' own Lean function (tested against real Go, not proved from fmt's source: count such statements apart). THE CARD IS WHAT COUNTS. Prove the row's statement (the work); the ties are given (YtdbglmnialieoaaDoorTie.lean); close each card by the builder's one call (the guide's Derived/Test/ToyasCard.lean, 'card_holds'). Laid BY PROGRAM, IN A SANDBOX (cutbox-door.mjs). By AI agents, Wed Nov 11 2026. No macro, syntax, notation, axiom, sorry.
-/
import Derived.Test.YtdbglmnialieoaaDoorRows
import GoSem.ClaimSeven
namespace Go.Proofs.YtdbglmnialieoaaDoor
namespace Rows

/-- THE TIED CARD OF 'laws.FnExactWordClass'. -/
def fnExactWordClassCard : Claim7 := { stood := { row := fnExactWordClassRow, standIns := [], harness := (true, "90d42e7e1fc5557c3e17e01fbec27753b2eb780f97868ddcdedf2a4b4939fd35"), looks := false }, kinds := [], alts := [], laidByText := true, laidKinds := [.data, .data, .data], laidTests := true, laidLooks := .later }
def FnExactWordClassCardSaid : Prop := Claim7.holds Tryd.pinned (.plain (OpenSpec.ofChange fnExactWordClassSpec)) fnExactWordClassCard

/-- THE TIED CARD OF 'laws.FnExactWordSame'. -/
def fnExactWordSameCard : Claim7 := { stood := { row := fnExactWordSameRow, standIns := [], harness := (true, "90d42e7e1fc5557c3e17e01fbec27753b2eb780f97868ddcdedf2a4b4939fd35"), looks := false }, kinds := [], alts := [], laidByText := true, laidKinds := [.data, .data, .data], laidTests := true, laidLooks := .later }
def FnExactWordSameCardSaid : Prop := Claim7.holds Tryd.pinned (.plain (OpenSpec.ofChange fnExactWordSameSpec)) fnExactWordSameCard

/-- THE SECOND FORM's CARD OF 'laws.FnExactWordClass'. -/
def fnExactWordClassUptoCard : Claim7 := { stood := { row := fnExactWordClassUptoRow, standIns := [], harness := (true, "90d42e7e1fc5557c3e17e01fbec27753b2eb780f97868ddcdedf2a4b4939fd35"), looks := false }, kinds := [], alts := [], laidByText := true, laidKinds := [.data, .data, .data], laidTests := true, laidLooks := .later }
def FnExactWordClassUptoCardSaid : Prop := Claim7.holds Tryd.pinned (.plain (OpenSpec.upto fnExactWordClassSpec)) fnExactWordClassUptoCard

/-- THE SECOND FORM's CARD OF 'laws.FnExactWordSame'. -/
def fnExactWordSameUptoCard : Claim7 := { stood := { row := fnExactWordSameUptoRow, standIns := [], harness := (true, "90d42e7e1fc5557c3e17e01fbec27753b2eb780f97868ddcdedf2a4b4939fd35"), looks := false }, kinds := [], alts := [], laidByText := true, laidKinds := [.data, .data, .data], laidTests := true, laidLooks := .later }
def FnExactWordSameUptoCardSaid : Prop := Claim7.holds Tryd.pinned (.plain (OpenSpec.upto fnExactWordSameSpec)) fnExactWordSameUptoCard
end Rows
end Go.Proofs.YtdbglmnialieoaaDoor
