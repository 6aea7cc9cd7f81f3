/-
  No cell of these rows narrows 'for every input' (looked for: loops, veiled, ifaces, maps, wideKeys, modest, calm, conditions, laid).
  DERIVED. THE GIVEN ROWS OF THIS SEAT. 10 by the template 'for every input the law returns true; each argument reads behind the call as it read before'; 0 by the template 'total and deterministic' (their statements: YtdbglmnialieoaaTotals.lean).
  GIVEN WITH THE SEED: the statements are not yours to turn. If you find one false, say at which input.
  Laid BY PROGRAM, IN A SANDBOX (cutbox-rows.mjs): the forced cells as the released guide's own fill.sh prints them over the translation 2e73559c300f6fe3… (all of the seat's roots in one cut). By AI agents, Wed Nov 11 2026. No macro, syntax, notation, axiom, sorry.
-/
import Derived.Test.YtdbglmnialieoaaChecked
import GoSem.Claim
import GoSem.ClaimJoined
import GoSem.ClaimMapViews
import Derived.JoinedTies
import Derived.KernelRfl
namespace Go.Proofs.Ytdbglmnialieoaa
/- THE CELL 'sum', in the pinned program and in every row, IS THE sha256 OF THE DUMP (.gsa) THAT YtdbglmnialieoaaProg.lean LOADS. Nothing in Lean hashes anything: it is a label: what it is worth is what the hold of that sum in a sandbox is worth. -/
noncomputable def Try.pinned : Pinned := { name := "ytdbglmnialieoaa", sum := "2e73559c300f6fe300a8a21710430ee35115b1aca6ec4218819b88b3b16f8a24", checked := Try.checked }
namespace Rows
def none {H : Type} : Left H := { results := [], args := [] }

/-- 'laws.FnExactWordSided': WHATEVER THE INPUT: true; the input reads as it did. -/
def fnExactWordSidedSpec : ChangeSpec := { name := "fnExactWordSided", fn := fun _ => fun
  | [d] => { results := [.lit (.bool true)], args := [d] }
  | _ => none }
def fnExactWordSidedRow : OpenClaim := { program := "ytdbglmnialieoaa", sum := "2e73559c300f6fe300a8a21710430ee35115b1aca6ec4218819b88b3b16f8a24", func := "loop.example/surfacemaps/laws.FnExactWordSided", spec := "fnExactWordSided", apart := false }
def FnExactWordSidedSaid : Prop := fnExactWordSidedRow.holds Try.pinned (OpenSpec.ofChange fnExactWordSidedSpec)

/-- ITS FALSE NEIGHBOUR: 'it returns false'. Refute it at one input. -/
def fnExactWordSidedWrong : ChangeSpec := { name := "fnExactWordSided", fn := fun _ => fun
  | [d] => { results := [.lit (.bool false)], args := [d] }
  | _ => none }
def FnExactWordSidedWrongFalsely : Prop := fnExactWordSidedRow.holds Try.pinned (OpenSpec.ofChange fnExactWordSidedWrong)

/-- 'laws.FnExactWordJoin': WHATEVER THE INPUT: true; the input reads as it did. -/
def fnExactWordJoinSpec : ChangeSpec := { name := "fnExactWordJoin", fn := fun _ => fun
  | [d1, d2] => { results := [.lit (.bool true)], args := [d1, d2] }
  | _ => none }
def fnExactWordJoinRow : OpenClaim := { program := "ytdbglmnialieoaa", sum := "2e73559c300f6fe300a8a21710430ee35115b1aca6ec4218819b88b3b16f8a24", func := "loop.example/surfacemaps/laws.FnExactWordJoin", spec := "fnExactWordJoin", apart := false }
def FnExactWordJoinSaid : Prop := fnExactWordJoinRow.holds Try.pinned (OpenSpec.ofChange fnExactWordJoinSpec)

/-- ITS FALSE NEIGHBOUR: 'it returns false'. Refute it at one input. -/
def fnExactWordJoinWrong : ChangeSpec := { name := "fnExactWordJoin", fn := fun _ => fun
  | [d1, d2] => { results := [.lit (.bool false)], args := [d1, d2] }
  | _ => none }
def FnExactWordJoinWrongFalsely : Prop := fnExactWordJoinRow.holds Try.pinned (OpenSpec.ofChange fnExactWordJoinWrong)

/-- 'laws.FnExactWordNames': WHATEVER THE INPUT: true; the input reads as it did. -/
def fnExactWordNamesSpec : ChangeSpec := { name := "fnExactWordNames", fn := fun _ => fun
  | [d] => { results := [.lit (.bool true)], args := [d] }
  | _ => none }
def fnExactWordNamesRow : OpenClaim := { program := "ytdbglmnialieoaa", sum := "2e73559c300f6fe300a8a21710430ee35115b1aca6ec4218819b88b3b16f8a24", func := "loop.example/surfacemaps/laws.FnExactWordNames", spec := "fnExactWordNames", apart := false }
def FnExactWordNamesSaid : Prop := fnExactWordNamesRow.holds Try.pinned (OpenSpec.ofChange fnExactWordNamesSpec)

/-- ITS FALSE NEIGHBOUR: 'it returns false'. Refute it at one input. -/
def fnExactWordNamesWrong : ChangeSpec := { name := "fnExactWordNames", fn := fun _ => fun
  | [d] => { results := [.lit (.bool false)], args := [d] }
  | _ => none }
def FnExactWordNamesWrongFalsely : Prop := fnExactWordNamesRow.holds Try.pinned (OpenSpec.ofChange fnExactWordNamesWrong)

/-- 'laws.FnExactWordCut': WHATEVER THE INPUT: true; the input reads as it did. -/
def fnExactWordCutSpec : ChangeSpec := { name := "fnExactWordCut", fn := fun _ => fun
  | [d1, d2, d3] => { results := [.lit (.bool true)], args := [d1, d2, d3] }
  | _ => none }
def fnExactWordCutRow : OpenClaim := { program := "ytdbglmnialieoaa", sum := "2e73559c300f6fe300a8a21710430ee35115b1aca6ec4218819b88b3b16f8a24", func := "loop.example/surfacemaps/laws.FnExactWordCut", spec := "fnExactWordCut", apart := false }
def FnExactWordCutSaid : Prop := fnExactWordCutRow.holds Try.pinned (OpenSpec.ofChange fnExactWordCutSpec)

/-- ITS FALSE NEIGHBOUR: 'it returns false'. Refute it at one input. -/
def fnExactWordCutWrong : ChangeSpec := { name := "fnExactWordCut", fn := fun _ => fun
  | [d1, d2, d3] => { results := [.lit (.bool false)], args := [d1, d2, d3] }
  | _ => none }
def FnExactWordCutWrongFalsely : Prop := fnExactWordCutRow.holds Try.pinned (OpenSpec.ofChange fnExactWordCutWrong)

/-- 'laws.FnExactWordGluing': WHATEVER THE INPUT: true; the input reads as it did. -/
def fnExactWordGluingSpec : ChangeSpec := { name := "fnExactWordGluing", fn := fun _ => fun
  | [d] => { results := [.lit (.bool true)], args := [d] }
  | _ => none }
def fnExactWordGluingRow : OpenClaim := { program := "ytdbglmnialieoaa", sum := "2e73559c300f6fe300a8a21710430ee35115b1aca6ec4218819b88b3b16f8a24", func := "loop.example/surfacemaps/laws.FnExactWordGluing", spec := "fnExactWordGluing", apart := false }
def FnExactWordGluingSaid : Prop := fnExactWordGluingRow.holds Try.pinned (OpenSpec.ofChange fnExactWordGluingSpec)

/-- ITS FALSE NEIGHBOUR: 'it returns false'. Refute it at one input. -/
def fnExactWordGluingWrong : ChangeSpec := { name := "fnExactWordGluing", fn := fun _ => fun
  | [d] => { results := [.lit (.bool false)], args := [d] }
  | _ => none }
def FnExactWordGluingWrongFalsely : Prop := fnExactWordGluingRow.holds Try.pinned (OpenSpec.ofChange fnExactWordGluingWrong)

/-- 'laws.FnWord': WHATEVER THE INPUT: true; the input reads as it did. -/
def fnWordSpec : ChangeSpec := { name := "fnWord", fn := fun _ => fun
  | [d] => { results := [.lit (.bool true)], args := [d] }
  | _ => none }
def fnWordRow : OpenClaim := { program := "ytdbglmnialieoaa", sum := "2e73559c300f6fe300a8a21710430ee35115b1aca6ec4218819b88b3b16f8a24", func := "loop.example/surfacemaps/laws.FnWord", spec := "fnWord", apart := false }
def FnWordSaid : Prop := fnWordRow.holds Try.pinned (OpenSpec.ofChange fnWordSpec)

/-- ITS FALSE NEIGHBOUR: 'it returns false'. Refute it at one input. -/
def fnWordWrong : ChangeSpec := { name := "fnWord", fn := fun _ => fun
  | [d] => { results := [.lit (.bool false)], args := [d] }
  | _ => none }
def FnWordWrongFalsely : Prop := fnWordRow.holds Try.pinned (OpenSpec.ofChange fnWordWrong)

/-- 'laws.FnExactWordCorners': WHATEVER THE INPUT: true; the input reads as it did. -/
def fnExactWordCornersSpec : ChangeSpec := { name := "fnExactWordCorners", fn := fun _ => fun
  | [d] => { results := [.lit (.bool true)], args := [d] }
  | _ => none }
def fnExactWordCornersRow : OpenClaim := { program := "ytdbglmnialieoaa", sum := "2e73559c300f6fe300a8a21710430ee35115b1aca6ec4218819b88b3b16f8a24", func := "loop.example/surfacemaps/laws.FnExactWordCorners", spec := "fnExactWordCorners", apart := false }
def FnExactWordCornersSaid : Prop := fnExactWordCornersRow.holds Try.pinned (OpenSpec.ofChange fnExactWordCornersSpec)

/-- ITS FALSE NEIGHBOUR: 'it returns false'. Refute it at one input. -/
def fnExactWordCornersWrong : ChangeSpec := { name := "fnExactWordCorners", fn := fun _ => fun
  | [d] => { results := [.lit (.bool false)], args := [d] }
  | _ => none }
def FnExactWordCornersWrongFalsely : Prop := fnExactWordCornersRow.holds Try.pinned (OpenSpec.ofChange fnExactWordCornersWrong)

/-- 'laws.FnExactWordNumber': WHATEVER THE INPUT: true; the input reads as it did. -/
def fnExactWordNumberSpec : ChangeSpec := { name := "fnExactWordNumber", fn := fun _ => fun
  | [d] => { results := [.lit (.bool true)], args := [d] }
  | _ => none }
def fnExactWordNumberRow : OpenClaim := { program := "ytdbglmnialieoaa", sum := "2e73559c300f6fe300a8a21710430ee35115b1aca6ec4218819b88b3b16f8a24", func := "loop.example/surfacemaps/laws.FnExactWordNumber", spec := "fnExactWordNumber", apart := false }
def FnExactWordNumberSaid : Prop := fnExactWordNumberRow.holds Try.pinned (OpenSpec.ofChange fnExactWordNumberSpec)

/-- ITS FALSE NEIGHBOUR: 'it returns false'. Refute it at one input. -/
def fnExactWordNumberWrong : ChangeSpec := { name := "fnExactWordNumber", fn := fun _ => fun
  | [d] => { results := [.lit (.bool false)], args := [d] }
  | _ => none }
def FnExactWordNumberWrongFalsely : Prop := fnExactWordNumberRow.holds Try.pinned (OpenSpec.ofChange fnExactWordNumberWrong)

/-- 'laws.FnExactWordNormal': WHATEVER THE INPUT: true; the input reads as it did. -/
def fnExactWordNormalSpec : ChangeSpec := { name := "fnExactWordNormal", fn := fun _ => fun
  | [d] => { results := [.lit (.bool true)], args := [d] }
  | _ => none }
def fnExactWordNormalRow : OpenClaim := { program := "ytdbglmnialieoaa", sum := "2e73559c300f6fe300a8a21710430ee35115b1aca6ec4218819b88b3b16f8a24", func := "loop.example/surfacemaps/laws.FnExactWordNormal", spec := "fnExactWordNormal", apart := false }
def FnExactWordNormalSaid : Prop := fnExactWordNormalRow.holds Try.pinned (OpenSpec.ofChange fnExactWordNormalSpec)

/-- ITS FALSE NEIGHBOUR: 'it returns false'. Refute it at one input. -/
def fnExactWordNormalWrong : ChangeSpec := { name := "fnExactWordNormal", fn := fun _ => fun
  | [d] => { results := [.lit (.bool false)], args := [d] }
  | _ => none }
def FnExactWordNormalWrongFalsely : Prop := fnExactWordNormalRow.holds Try.pinned (OpenSpec.ofChange fnExactWordNormalWrong)

/-- 'laws.FnSided': WHATEVER THE INPUT: true; the input reads as it did. -/
def fnSidedSpec : ChangeSpec := { name := "fnSided", fn := fun _ => fun
  | [d] => { results := [.lit (.bool true)], args := [d] }
  | _ => none }
def fnSidedRow : OpenClaim := { program := "ytdbglmnialieoaa", sum := "2e73559c300f6fe300a8a21710430ee35115b1aca6ec4218819b88b3b16f8a24", func := "loop.example/surfacemaps/laws.FnSided", spec := "fnSided", apart := false }
def FnSidedSaid : Prop := fnSidedRow.holds Try.pinned (OpenSpec.ofChange fnSidedSpec)

/-- ITS FALSE NEIGHBOUR: 'it returns false'. Refute it at one input. -/
def fnSidedWrong : ChangeSpec := { name := "fnSided", fn := fun _ => fun
  | [d] => { results := [.lit (.bool false)], args := [d] }
  | _ => none }
def FnSidedWrongFalsely : Prop := fnSidedRow.holds Try.pinned (OpenSpec.ofChange fnSidedWrong)

/- THE SECOND FORM. 'bulk': how many values and letters a reading holds, each counted each time it is reached (what is shared counts as often as it is met; a slice's spare places count too). A statement '..UptoSaid' is the law's where the arguments, and the package variables that the reading takes, are together of bulk at most 1048576: NARROWER than '..Said'. Prove '..Said' where nothing that the law and all that it calls make is longer than what came in: it says more and counts as full. Else prove '..UptoSaid'. A law counts once. -/
mutual
def uptoBulk {H : Type} : DataW H → Nat
  | .lit (.string bytes) => bytes.length + 1
  | .lit _ => 1
  | .nil => 1
  | .ptr d => uptoBulk d + 1
  | .slice elems spare => uptoBulkAll elems + uptoBulkAll spare + 1
  | .agg parts => uptoBulkAll parts + 1
  | .iface _ d => uptoBulk d + 1
  | .map entries => uptoBulkEntries entries + 1
  | .held _ => 1
def uptoBulkAll {H : Type} : List (DataW H) → Nat
  | [] => 0
  | d :: r => uptoBulk d + uptoBulkAll r
def uptoBulkEntries {H : Type} : List (Lit × DataW H) → Nat
  | [] => 0
  | x :: r => uptoBulkEntry x + uptoBulkEntries r
def uptoBulkEntry {H : Type} : Lit × DataW H → Nat
  | (.string bytes, d) => bytes.length + uptoBulk d + 1
  | (_, d) => uptoBulk d + 1
 end
def uptoSmall : (H : Type) → List (DataW H) → Bool := fun _ ds => decide (uptoBulkAll ds ≤ 1048576)
def OpenSpec.upto (s : _root_.Go.ChangeSpec) : _root_.Go.OpenSpec := { _root_.Go.OpenSpec.ofChange s with cond := some uptoSmall }

/-- 'laws.FnExactWordSided', WHERE WHAT IT READS IS OF BULK AT MOST 1048576: true; the input reads as it did. -/
def fnExactWordSidedUptoRow : OpenClaim := { program := "ytdbglmnialieoaa", sum := "2e73559c300f6fe300a8a21710430ee35115b1aca6ec4218819b88b3b16f8a24", func := "loop.example/surfacemaps/laws.FnExactWordSided", spec := "fnExactWordSided", apart := false, narrowed := true }
def FnExactWordSidedUptoSaid : Prop := fnExactWordSidedUptoRow.holds Try.pinned (OpenSpec.upto fnExactWordSidedSpec)

/-- 'laws.FnExactWordJoin', WHERE WHAT IT READS IS OF BULK AT MOST 1048576: true; the input reads as it did. -/
def fnExactWordJoinUptoRow : OpenClaim := { program := "ytdbglmnialieoaa", sum := "2e73559c300f6fe300a8a21710430ee35115b1aca6ec4218819b88b3b16f8a24", func := "loop.example/surfacemaps/laws.FnExactWordJoin", spec := "fnExactWordJoin", apart := false, narrowed := true }
def FnExactWordJoinUptoSaid : Prop := fnExactWordJoinUptoRow.holds Try.pinned (OpenSpec.upto fnExactWordJoinSpec)

/-- 'laws.FnExactWordNames', WHERE WHAT IT READS IS OF BULK AT MOST 1048576: true; the input reads as it did. -/
def fnExactWordNamesUptoRow : OpenClaim := { program := "ytdbglmnialieoaa", sum := "2e73559c300f6fe300a8a21710430ee35115b1aca6ec4218819b88b3b16f8a24", func := "loop.example/surfacemaps/laws.FnExactWordNames", spec := "fnExactWordNames", apart := false, narrowed := true }
def FnExactWordNamesUptoSaid : Prop := fnExactWordNamesUptoRow.holds Try.pinned (OpenSpec.upto fnExactWordNamesSpec)

/-- 'laws.FnExactWordCut', WHERE WHAT IT READS IS OF BULK AT MOST 1048576: true; the input reads as it did. -/
def fnExactWordCutUptoRow : OpenClaim := { program := "ytdbglmnialieoaa", sum := "2e73559c300f6fe300a8a21710430ee35115b1aca6ec4218819b88b3b16f8a24", func := "loop.example/surfacemaps/laws.FnExactWordCut", spec := "fnExactWordCut", apart := false, narrowed := true }
def FnExactWordCutUptoSaid : Prop := fnExactWordCutUptoRow.holds Try.pinned (OpenSpec.upto fnExactWordCutSpec)

/-- 'laws.FnExactWordGluing', WHERE WHAT IT READS IS OF BULK AT MOST 1048576: true; the input reads as it did. -/
def fnExactWordGluingUptoRow : OpenClaim := { program := "ytdbglmnialieoaa", sum := "2e73559c300f6fe300a8a21710430ee35115b1aca6ec4218819b88b3b16f8a24", func := "loop.example/surfacemaps/laws.FnExactWordGluing", spec := "fnExactWordGluing", apart := false, narrowed := true }
def FnExactWordGluingUptoSaid : Prop := fnExactWordGluingUptoRow.holds Try.pinned (OpenSpec.upto fnExactWordGluingSpec)

/-- 'laws.FnWord', WHERE WHAT IT READS IS OF BULK AT MOST 1048576: true; the input reads as it did. -/
def fnWordUptoRow : OpenClaim := { program := "ytdbglmnialieoaa", sum := "2e73559c300f6fe300a8a21710430ee35115b1aca6ec4218819b88b3b16f8a24", func := "loop.example/surfacemaps/laws.FnWord", spec := "fnWord", apart := false, narrowed := true }
def FnWordUptoSaid : Prop := fnWordUptoRow.holds Try.pinned (OpenSpec.upto fnWordSpec)

/-- 'laws.FnExactWordCorners', WHERE WHAT IT READS IS OF BULK AT MOST 1048576: true; the input reads as it did. -/
def fnExactWordCornersUptoRow : OpenClaim := { program := "ytdbglmnialieoaa", sum := "2e73559c300f6fe300a8a21710430ee35115b1aca6ec4218819b88b3b16f8a24", func := "loop.example/surfacemaps/laws.FnExactWordCorners", spec := "fnExactWordCorners", apart := false, narrowed := true }
def FnExactWordCornersUptoSaid : Prop := fnExactWordCornersUptoRow.holds Try.pinned (OpenSpec.upto fnExactWordCornersSpec)

/-- 'laws.FnExactWordNumber', WHERE WHAT IT READS IS OF BULK AT MOST 1048576: true; the input reads as it did. -/
def fnExactWordNumberUptoRow : OpenClaim := { program := "ytdbglmnialieoaa", sum := "2e73559c300f6fe300a8a21710430ee35115b1aca6ec4218819b88b3b16f8a24", func := "loop.example/surfacemaps/laws.FnExactWordNumber", spec := "fnExactWordNumber", apart := false, narrowed := true }
def FnExactWordNumberUptoSaid : Prop := fnExactWordNumberUptoRow.holds Try.pinned (OpenSpec.upto fnExactWordNumberSpec)

/-- 'laws.FnExactWordNormal', WHERE WHAT IT READS IS OF BULK AT MOST 1048576: true; the input reads as it did. -/
def fnExactWordNormalUptoRow : OpenClaim := { program := "ytdbglmnialieoaa", sum := "2e73559c300f6fe300a8a21710430ee35115b1aca6ec4218819b88b3b16f8a24", func := "loop.example/surfacemaps/laws.FnExactWordNormal", spec := "fnExactWordNormal", apart := false, narrowed := true }
def FnExactWordNormalUptoSaid : Prop := fnExactWordNormalUptoRow.holds Try.pinned (OpenSpec.upto fnExactWordNormalSpec)

/-- 'laws.FnSided', WHERE WHAT IT READS IS OF BULK AT MOST 1048576: true; the input reads as it did. -/
def fnSidedUptoRow : OpenClaim := { program := "ytdbglmnialieoaa", sum := "2e73559c300f6fe300a8a21710430ee35115b1aca6ec4218819b88b3b16f8a24", func := "loop.example/surfacemaps/laws.FnSided", spec := "fnSided", apart := false, narrowed := true }
def FnSidedUptoSaid : Prop := fnSidedUptoRow.holds Try.pinned (OpenSpec.upto fnSidedSpec)

end Rows
end Go.Proofs.Ytdbglmnialieoaa
