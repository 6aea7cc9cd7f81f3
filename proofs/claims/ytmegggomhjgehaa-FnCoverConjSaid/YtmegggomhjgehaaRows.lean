/-
  No cell of these rows narrows 'for every input' (looked for: loops, veiled, ifaces, maps, wideKeys, modest, calm, conditions, laid).
  DERIVED. THE GIVEN ROWS OF THIS SEAT. 8 by the template 'for every input the law returns true; each argument reads behind the call as it read before'; 0 by the template 'total and deterministic' (their statements: YtmegggomhjgehaaTotals.lean).
  GIVEN WITH THE SEED: the statements are not yours to turn. If you find one false, say at which input.
  Laid BY PROGRAM, IN A SANDBOX (cutbox-rows.mjs): the forced cells as the released guide's own fill.sh prints them over the translation 5e5d11f628a4aafc… (all of the seat's roots in one cut). By AI agents, Wed Nov 11 2026. No macro, syntax, notation, axiom, sorry.
-/
import Derived.Test.YtmegggomhjgehaaChecked
import GoSem.Claim
import GoSem.ClaimJoined
import GoSem.ClaimMapViews
import Derived.JoinedTies
import Derived.KernelRfl
namespace Go.Proofs.Ytmegggomhjgehaa
/- THE CELL 'sum', in the pinned program and in every row, IS THE sha256 OF THE DUMP (.gsa) THAT YtmegggomhjgehaaProg.lean LOADS. Nothing in Lean hashes anything: it is a label: what it is worth is what the hold of that sum in a sandbox is worth. -/
noncomputable def Try.pinned : Pinned := { name := "ytmegggomhjgehaa", sum := "5e5d11f628a4aafc76ba01a8d87a15204f501dcaae0c905496ad41ba3262869e", checked := Try.checked }
namespace Rows
def none {H : Type} : Left H := { results := [], args := [] }

/-- 'laws.FnCoverWhole': WHATEVER THE INPUT: true; the input reads as it did. -/
def fnCoverWholeSpec : ChangeSpec := { name := "fnCoverWhole", fn := fun _ => fun
  | [d] => { results := [.lit (.bool true)], args := [d] }
  | _ => none }
def fnCoverWholeRow : OpenClaim := { program := "ytmegggomhjgehaa", sum := "5e5d11f628a4aafc76ba01a8d87a15204f501dcaae0c905496ad41ba3262869e", func := "loop.example/surfacemaps/laws.FnCoverWhole", spec := "fnCoverWhole", apart := false }
def FnCoverWholeSaid : Prop := fnCoverWholeRow.holds Try.pinned (OpenSpec.ofChange fnCoverWholeSpec)

/-- ITS FALSE NEIGHBOUR: 'it returns false'. Refute it at one input. -/
def fnCoverWholeWrong : ChangeSpec := { name := "fnCoverWhole", fn := fun _ => fun
  | [d] => { results := [.lit (.bool false)], args := [d] }
  | _ => none }
def FnCoverWholeWrongFalsely : Prop := fnCoverWholeRow.holds Try.pinned (OpenSpec.ofChange fnCoverWholeWrong)

/-- 'laws.FnCoverGenus': WHATEVER THE INPUT: true; the input reads as it did. -/
def fnCoverGenusSpec : ChangeSpec := { name := "fnCoverGenus", fn := fun _ => fun
  | [d] => { results := [.lit (.bool true)], args := [d] }
  | _ => none }
def fnCoverGenusRow : OpenClaim := { program := "ytmegggomhjgehaa", sum := "5e5d11f628a4aafc76ba01a8d87a15204f501dcaae0c905496ad41ba3262869e", func := "loop.example/surfacemaps/laws.FnCoverGenus", spec := "fnCoverGenus", apart := false }
def FnCoverGenusSaid : Prop := fnCoverGenusRow.holds Try.pinned (OpenSpec.ofChange fnCoverGenusSpec)

/-- ITS FALSE NEIGHBOUR: 'it returns false'. Refute it at one input. -/
def fnCoverGenusWrong : ChangeSpec := { name := "fnCoverGenus", fn := fun _ => fun
  | [d] => { results := [.lit (.bool false)], args := [d] }
  | _ => none }
def FnCoverGenusWrongFalsely : Prop := fnCoverGenusRow.holds Try.pinned (OpenSpec.ofChange fnCoverGenusWrong)

/-- 'laws.FnBranch': WHATEVER THE INPUT: true; the input reads as it did. -/
def fnBranchSpec : ChangeSpec := { name := "fnBranch", fn := fun _ => fun
  | [d] => { results := [.lit (.bool true)], args := [d] }
  | _ => none }
def fnBranchRow : OpenClaim := { program := "ytmegggomhjgehaa", sum := "5e5d11f628a4aafc76ba01a8d87a15204f501dcaae0c905496ad41ba3262869e", func := "loop.example/surfacemaps/laws.FnBranch", spec := "fnBranch", apart := false }
def FnBranchSaid : Prop := fnBranchRow.holds Try.pinned (OpenSpec.ofChange fnBranchSpec)

/-- ITS FALSE NEIGHBOUR: 'it returns false'. Refute it at one input. -/
def fnBranchWrong : ChangeSpec := { name := "fnBranch", fn := fun _ => fun
  | [d] => { results := [.lit (.bool false)], args := [d] }
  | _ => none }
def FnBranchWrongFalsely : Prop := fnBranchRow.holds Try.pinned (OpenSpec.ofChange fnBranchWrong)

/-- 'laws.FnDeck': WHATEVER THE INPUT: true; the input reads as it did. -/
def fnDeckSpec : ChangeSpec := { name := "fnDeck", fn := fun _ => fun
  | [d] => { results := [.lit (.bool true)], args := [d] }
  | _ => none }
def fnDeckRow : OpenClaim := { program := "ytmegggomhjgehaa", sum := "5e5d11f628a4aafc76ba01a8d87a15204f501dcaae0c905496ad41ba3262869e", func := "loop.example/surfacemaps/laws.FnDeck", spec := "fnDeck", unfollowed := true, recurses := true, apart := false }
def FnDeckSaid : Prop := fnDeckRow.holds Try.pinned (OpenSpec.ofChange fnDeckSpec)

/-- ITS FALSE NEIGHBOUR: 'it returns false'. Refute it at one input. -/
def fnDeckWrong : ChangeSpec := { name := "fnDeck", fn := fun _ => fun
  | [d] => { results := [.lit (.bool false)], args := [d] }
  | _ => none }
def FnDeckWrongFalsely : Prop := fnDeckRow.holds Try.pinned (OpenSpec.ofChange fnDeckWrong)

/-- 'laws.FnCoverConj': WHATEVER THE INPUT: true; the input reads as it did. -/
def fnCoverConjSpec : ChangeSpec := { name := "fnCoverConj", fn := fun _ => fun
  | [d] => { results := [.lit (.bool true)], args := [d] }
  | _ => none }
def fnCoverConjRow : OpenClaim := { program := "ytmegggomhjgehaa", sum := "5e5d11f628a4aafc76ba01a8d87a15204f501dcaae0c905496ad41ba3262869e", func := "loop.example/surfacemaps/laws.FnCoverConj", spec := "fnCoverConj", apart := false }
def FnCoverConjSaid : Prop := fnCoverConjRow.holds Try.pinned (OpenSpec.ofChange fnCoverConjSpec)

/-- ITS FALSE NEIGHBOUR: 'it returns false'. Refute it at one input. -/
def fnCoverConjWrong : ChangeSpec := { name := "fnCoverConj", fn := fun _ => fun
  | [d] => { results := [.lit (.bool false)], args := [d] }
  | _ => none }
def FnCoverConjWrongFalsely : Prop := fnCoverConjRow.holds Try.pinned (OpenSpec.ofChange fnCoverConjWrong)

/-- 'laws.FnCoverTree': WHATEVER THE INPUT: true; the input reads as it did. -/
def fnCoverTreeSpec : ChangeSpec := { name := "fnCoverTree", fn := fun _ => fun
  | [d] => { results := [.lit (.bool true)], args := [d] }
  | _ => none }
def fnCoverTreeRow : OpenClaim := { program := "ytmegggomhjgehaa", sum := "5e5d11f628a4aafc76ba01a8d87a15204f501dcaae0c905496ad41ba3262869e", func := "loop.example/surfacemaps/laws.FnCoverTree", spec := "fnCoverTree", apart := false }
def FnCoverTreeSaid : Prop := fnCoverTreeRow.holds Try.pinned (OpenSpec.ofChange fnCoverTreeSpec)

/-- ITS FALSE NEIGHBOUR: 'it returns false'. Refute it at one input. -/
def fnCoverTreeWrong : ChangeSpec := { name := "fnCoverTree", fn := fun _ => fun
  | [d] => { results := [.lit (.bool false)], args := [d] }
  | _ => none }
def FnCoverTreeWrongFalsely : Prop := fnCoverTreeRow.holds Try.pinned (OpenSpec.ofChange fnCoverTreeWrong)

/-- 'laws.FnCover': WHATEVER THE INPUT: true; the input reads as it did. -/
def fnCoverSpec : ChangeSpec := { name := "fnCover", fn := fun _ => fun
  | [d] => { results := [.lit (.bool true)], args := [d] }
  | _ => none }
def fnCoverRow : OpenClaim := { program := "ytmegggomhjgehaa", sum := "5e5d11f628a4aafc76ba01a8d87a15204f501dcaae0c905496ad41ba3262869e", func := "loop.example/surfacemaps/laws.FnCover", spec := "fnCover", recurses := true, apart := false }
def FnCoverSaid : Prop := fnCoverRow.holds Try.pinned (OpenSpec.ofChange fnCoverSpec)

/-- ITS FALSE NEIGHBOUR: 'it returns false'. Refute it at one input. -/
def fnCoverWrong : ChangeSpec := { name := "fnCover", fn := fun _ => fun
  | [d] => { results := [.lit (.bool false)], args := [d] }
  | _ => none }
def FnCoverWrongFalsely : Prop := fnCoverRow.holds Try.pinned (OpenSpec.ofChange fnCoverWrong)

/-- 'laws.FnWinding': WHATEVER THE INPUT: true; the input reads as it did. -/
def fnWindingSpec : ChangeSpec := { name := "fnWinding", fn := fun _ => fun
  | [d] => { results := [.lit (.bool true)], args := [d] }
  | _ => none }
def fnWindingRow : OpenClaim := { program := "ytmegggomhjgehaa", sum := "5e5d11f628a4aafc76ba01a8d87a15204f501dcaae0c905496ad41ba3262869e", func := "loop.example/surfacemaps/laws.FnWinding", spec := "fnWinding", recurses := true, apart := false }
def FnWindingSaid : Prop := fnWindingRow.holds Try.pinned (OpenSpec.ofChange fnWindingSpec)

/-- ITS FALSE NEIGHBOUR: 'it returns false'. Refute it at one input. -/
def fnWindingWrong : ChangeSpec := { name := "fnWinding", fn := fun _ => fun
  | [d] => { results := [.lit (.bool false)], args := [d] }
  | _ => none }
def FnWindingWrongFalsely : Prop := fnWindingRow.holds Try.pinned (OpenSpec.ofChange fnWindingWrong)

/- THE SECOND FORM. 'bulk': how many values and letters a reading holds, each counted each time it is reached (what is shared counts as often as it is met; a slice's spare places count too). A statement '..UptoSaid' is the law's where the arguments, and the package variables that the reading takes, are together of bulk at most 1048576: NARROWER than '..Said'. Prove '..Said' where nothing that the law and all that it calls make is longer than what came in: it says more and counts as full. Else prove '..UptoSaid'. A law counts once. -/
mutual
def uptoBulk {H : Type} : DataW H → Nat
  | .lit (.string bytes) => bytes.length + 1
  | .lit _ => 1
  | .nil => 1
  | .ptr d => uptoBulk d + 1
  | .slice elems spare => uptoBulkAll elems + uptoBulkAll spare + 1
  | .agg parts => uptoBulkAll parts + 1
  | .iface _ d => uptoBulk d + 1
  | .map entries => uptoBulkEntries entries + 1
  | .held _ => 1
def uptoBulkAll {H : Type} : List (DataW H) → Nat
  | [] => 0
  | d :: r => uptoBulk d + uptoBulkAll r
def uptoBulkEntries {H : Type} : List (Lit × DataW H) → Nat
  | [] => 0
  | x :: r => uptoBulkEntry x + uptoBulkEntries r
def uptoBulkEntry {H : Type} : Lit × DataW H → Nat
  | (.string bytes, d) => bytes.length + uptoBulk d + 1
  | (_, d) => uptoBulk d + 1
 end
def uptoSmall : (H : Type) → List (DataW H) → Bool := fun _ ds => decide (uptoBulkAll ds ≤ 1048576)
def OpenSpec.upto (s : _root_.Go.ChangeSpec) : _root_.Go.OpenSpec := { _root_.Go.OpenSpec.ofChange s with cond := some uptoSmall }

/-- 'laws.FnCoverWhole', WHERE WHAT IT READS IS OF BULK AT MOST 1048576: true; the input reads as it did. -/
def fnCoverWholeUptoRow : OpenClaim := { program := "ytmegggomhjgehaa", sum := "5e5d11f628a4aafc76ba01a8d87a15204f501dcaae0c905496ad41ba3262869e", func := "loop.example/surfacemaps/laws.FnCoverWhole", spec := "fnCoverWhole", apart := false, narrowed := true }
def FnCoverWholeUptoSaid : Prop := fnCoverWholeUptoRow.holds Try.pinned (OpenSpec.upto fnCoverWholeSpec)

/-- 'laws.FnCoverGenus', WHERE WHAT IT READS IS OF BULK AT MOST 1048576: true; the input reads as it did. -/
def fnCoverGenusUptoRow : OpenClaim := { program := "ytmegggomhjgehaa", sum := "5e5d11f628a4aafc76ba01a8d87a15204f501dcaae0c905496ad41ba3262869e", func := "loop.example/surfacemaps/laws.FnCoverGenus", spec := "fnCoverGenus", apart := false, narrowed := true }
def FnCoverGenusUptoSaid : Prop := fnCoverGenusUptoRow.holds Try.pinned (OpenSpec.upto fnCoverGenusSpec)

/-- 'laws.FnBranch', WHERE WHAT IT READS IS OF BULK AT MOST 1048576: true; the input reads as it did. -/
def fnBranchUptoRow : OpenClaim := { program := "ytmegggomhjgehaa", sum := "5e5d11f628a4aafc76ba01a8d87a15204f501dcaae0c905496ad41ba3262869e", func := "loop.example/surfacemaps/laws.FnBranch", spec := "fnBranch", apart := false, narrowed := true }
def FnBranchUptoSaid : Prop := fnBranchUptoRow.holds Try.pinned (OpenSpec.upto fnBranchSpec)

/-- 'laws.FnDeck', WHERE WHAT IT READS IS OF BULK AT MOST 1048576: true; the input reads as it did. -/
def fnDeckUptoRow : OpenClaim := { program := "ytmegggomhjgehaa", sum := "5e5d11f628a4aafc76ba01a8d87a15204f501dcaae0c905496ad41ba3262869e", func := "loop.example/surfacemaps/laws.FnDeck", spec := "fnDeck", unfollowed := true, recurses := true, apart := false, narrowed := true }
def FnDeckUptoSaid : Prop := fnDeckUptoRow.holds Try.pinned (OpenSpec.upto fnDeckSpec)

/-- 'laws.FnCoverConj', WHERE WHAT IT READS IS OF BULK AT MOST 1048576: true; the input reads as it did. -/
def fnCoverConjUptoRow : OpenClaim := { program := "ytmegggomhjgehaa", sum := "5e5d11f628a4aafc76ba01a8d87a15204f501dcaae0c905496ad41ba3262869e", func := "loop.example/surfacemaps/laws.FnCoverConj", spec := "fnCoverConj", apart := false, narrowed := true }
def FnCoverConjUptoSaid : Prop := fnCoverConjUptoRow.holds Try.pinned (OpenSpec.upto fnCoverConjSpec)

/-- 'laws.FnCoverTree', WHERE WHAT IT READS IS OF BULK AT MOST 1048576: true; the input reads as it did. -/
def fnCoverTreeUptoRow : OpenClaim := { program := "ytmegggomhjgehaa", sum := "5e5d11f628a4aafc76ba01a8d87a15204f501dcaae0c905496ad41ba3262869e", func := "loop.example/surfacemaps/laws.FnCoverTree", spec := "fnCoverTree", apart := false, narrowed := true }
def FnCoverTreeUptoSaid : Prop := fnCoverTreeUptoRow.holds Try.pinned (OpenSpec.upto fnCoverTreeSpec)

/-- 'laws.FnCover', WHERE WHAT IT READS IS OF BULK AT MOST 1048576: true; the input reads as it did. -/
def fnCoverUptoRow : OpenClaim := { program := "ytmegggomhjgehaa", sum := "5e5d11f628a4aafc76ba01a8d87a15204f501dcaae0c905496ad41ba3262869e", func := "loop.example/surfacemaps/laws.FnCover", spec := "fnCover", recurses := true, apart := false, narrowed := true }
def FnCoverUptoSaid : Prop := fnCoverUptoRow.holds Try.pinned (OpenSpec.upto fnCoverSpec)

/-- 'laws.FnWinding', WHERE WHAT IT READS IS OF BULK AT MOST 1048576: true; the input reads as it did. -/
def fnWindingUptoRow : OpenClaim := { program := "ytmegggomhjgehaa", sum := "5e5d11f628a4aafc76ba01a8d87a15204f501dcaae0c905496ad41ba3262869e", func := "loop.example/surfacemaps/laws.FnWinding", spec := "fnWinding", recurses := true, apart := false, narrowed := true }
def FnWindingUptoSaid : Prop := fnWindingUptoRow.holds Try.pinned (OpenSpec.upto fnWindingSpec)

end Rows
end Go.Proofs.Ytmegggomhjgehaa
