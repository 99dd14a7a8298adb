/-
  No cell of these rows narrows 'for every input' (looked for: loops, veiled, ifaces, maps, wideKeys, modest, calm, conditions, laid).
  DERIVED. THE GIVEN ROWS OF THIS SEAT. 9 by the template 'for every input the law returns true; each argument reads behind the call as it read before'; 0 by the template 'total and deterministic' (their statements: YtlolhnjbogfkfaaTotals.lean).
  GIVEN WITH THE SEED: the statements are not yours to turn. If you find one false, say at which input.
  Laid BY PROGRAM, IN A SANDBOX (cutbox-rows.mjs): the forced cells as the released guide's own fill.sh prints them over the translation b6c0229298ad3983… (all of the seat's roots in one cut). By AI agents, Wed Nov 11 2026. No macro, syntax, notation, axiom, sorry.
-/
import Derived.Test.YtlolhnjbogfkfaaChecked
import GoSem.Claim
import GoSem.ClaimJoined
import GoSem.ClaimMapViews
import Derived.JoinedTies
import Derived.KernelRfl
namespace Go.Proofs.Ytlolhnjbogfkfaa
/- THE CELL 'sum', in the pinned program and in every row, IS THE sha256 OF THE DUMP (.gsa) THAT YtlolhnjbogfkfaaProg.lean LOADS. Nothing in Lean hashes anything: it is a label: what it is worth is what the hold of that sum in a sandbox is worth. -/
noncomputable def Try.pinned : Pinned := { name := "ytlolhnjbogfkfaa", sum := "b6c0229298ad39832d228c6ad7f926a356b4398040b5a049826f4ae95c3f93db", checked := Try.checked }
namespace Rows
def none {H : Type} : Left H := { results := [], args := [] }

/-- 'laws.FnSlopeMean': WHATEVER THE INPUT: true; the input reads as it did. -/
def fnSlopeMeanSpec : ChangeSpec := { name := "fnSlopeMean", fn := fun _ => fun
  | [d] => { results := [.lit (.bool true)], args := [d] }
  | _ => none }
def fnSlopeMeanRow : OpenClaim := { program := "ytlolhnjbogfkfaa", sum := "b6c0229298ad39832d228c6ad7f926a356b4398040b5a049826f4ae95c3f93db", func := "loop.example/icecores/laws.FnSlopeMean", spec := "fnSlopeMean", apart := false }
def FnSlopeMeanSaid : Prop := fnSlopeMeanRow.holds Try.pinned (OpenSpec.ofChange fnSlopeMeanSpec)

/-- ITS FALSE NEIGHBOUR: 'it returns false'. Refute it at one input. -/
def fnSlopeMeanWrong : ChangeSpec := { name := "fnSlopeMean", fn := fun _ => fun
  | [d] => { results := [.lit (.bool false)], args := [d] }
  | _ => none }
def FnSlopeMeanWrongFalsely : Prop := fnSlopeMeanRow.holds Try.pinned (OpenSpec.ofChange fnSlopeMeanWrong)

/-- 'laws.FnExactCurveSlope': WHATEVER THE INPUT: true; the input reads as it did. -/
def fnExactCurveSlopeSpec : ChangeSpec := { name := "fnExactCurveSlope", fn := fun _ => fun
  | [d1, d2] => { results := [.lit (.bool true)], args := [d1, d2] }
  | _ => none }
def fnExactCurveSlopeRow : OpenClaim := { program := "ytlolhnjbogfkfaa", sum := "b6c0229298ad39832d228c6ad7f926a356b4398040b5a049826f4ae95c3f93db", func := "loop.example/icecores/laws.FnExactCurveSlope", spec := "fnExactCurveSlope", apart := false }
def FnExactCurveSlopeSaid : Prop := fnExactCurveSlopeRow.holds Try.pinned (OpenSpec.ofChange fnExactCurveSlopeSpec)

/-- ITS FALSE NEIGHBOUR: 'it returns false'. Refute it at one input. -/
def fnExactCurveSlopeWrong : ChangeSpec := { name := "fnExactCurveSlope", fn := fun _ => fun
  | [d1, d2] => { results := [.lit (.bool false)], args := [d1, d2] }
  | _ => none }
def FnExactCurveSlopeWrongFalsely : Prop := fnExactCurveSlopeRow.holds Try.pinned (OpenSpec.ofChange fnExactCurveSlopeWrong)

/-- 'laws.FnLeanSlopes': WHATEVER THE INPUT: true; the input reads as it did. -/
def fnLeanSlopesSpec : ChangeSpec := { name := "fnLeanSlopes", fn := fun _ => fun
  | [d] => { results := [.lit (.bool true)], args := [d] }
  | _ => none }
def fnLeanSlopesRow : OpenClaim := { program := "ytlolhnjbogfkfaa", sum := "b6c0229298ad39832d228c6ad7f926a356b4398040b5a049826f4ae95c3f93db", func := "loop.example/icecores/laws.FnLeanSlopes", spec := "fnLeanSlopes", apart := false }
def FnLeanSlopesSaid : Prop := fnLeanSlopesRow.holds Try.pinned (OpenSpec.ofChange fnLeanSlopesSpec)

/-- ITS FALSE NEIGHBOUR: 'it returns false'. Refute it at one input. -/
def fnLeanSlopesWrong : ChangeSpec := { name := "fnLeanSlopes", fn := fun _ => fun
  | [d] => { results := [.lit (.bool false)], args := [d] }
  | _ => none }
def FnLeanSlopesWrongFalsely : Prop := fnLeanSlopesRow.holds Try.pinned (OpenSpec.ofChange fnLeanSlopesWrong)

/-- 'laws.FnSlope': WHATEVER THE INPUT: true; the input reads as it did. -/
def fnSlopeSpec : ChangeSpec := { name := "fnSlope", fn := fun _ => fun
  | [d] => { results := [.lit (.bool true)], args := [d] }
  | _ => none }
def fnSlopeRow : OpenClaim := { program := "ytlolhnjbogfkfaa", sum := "b6c0229298ad39832d228c6ad7f926a356b4398040b5a049826f4ae95c3f93db", func := "loop.example/icecores/laws.FnSlope", spec := "fnSlope", apart := false }
def FnSlopeSaid : Prop := fnSlopeRow.holds Try.pinned (OpenSpec.ofChange fnSlopeSpec)

/-- ITS FALSE NEIGHBOUR: 'it returns false'. Refute it at one input. -/
def fnSlopeWrong : ChangeSpec := { name := "fnSlope", fn := fun _ => fun
  | [d] => { results := [.lit (.bool false)], args := [d] }
  | _ => none }
def FnSlopeWrongFalsely : Prop := fnSlopeRow.holds Try.pinned (OpenSpec.ofChange fnSlopeWrong)

/-- 'laws.FnExactCurveAt': WHATEVER THE INPUT: true; the input reads as it did. -/
def fnExactCurveAtSpec : ChangeSpec := { name := "fnExactCurveAt", fn := fun _ => fun
  | [d1, d2] => { results := [.lit (.bool true)], args := [d1, d2] }
  | _ => none }
def fnExactCurveAtRow : OpenClaim := { program := "ytlolhnjbogfkfaa", sum := "b6c0229298ad39832d228c6ad7f926a356b4398040b5a049826f4ae95c3f93db", func := "loop.example/icecores/laws.FnExactCurveAt", spec := "fnExactCurveAt", apart := false }
def FnExactCurveAtSaid : Prop := fnExactCurveAtRow.holds Try.pinned (OpenSpec.ofChange fnExactCurveAtSpec)

/-- ITS FALSE NEIGHBOUR: 'it returns false'. Refute it at one input. -/
def fnExactCurveAtWrong : ChangeSpec := { name := "fnExactCurveAt", fn := fun _ => fun
  | [d1, d2] => { results := [.lit (.bool false)], args := [d1, d2] }
  | _ => none }
def FnExactCurveAtWrongFalsely : Prop := fnExactCurveAtRow.holds Try.pinned (OpenSpec.ofChange fnExactCurveAtWrong)

/-- 'laws.FnAtRises': WHATEVER THE INPUT: true; the input reads as it did. -/
def fnAtRisesSpec : ChangeSpec := { name := "fnAtRises", fn := fun _ => fun
  | [d] => { results := [.lit (.bool true)], args := [d] }
  | _ => none }
def fnAtRisesRow : OpenClaim := { program := "ytlolhnjbogfkfaa", sum := "b6c0229298ad39832d228c6ad7f926a356b4398040b5a049826f4ae95c3f93db", func := "loop.example/icecores/laws.FnAtRises", spec := "fnAtRises", apart := false }
def FnAtRisesSaid : Prop := fnAtRisesRow.holds Try.pinned (OpenSpec.ofChange fnAtRisesSpec)

/-- ITS FALSE NEIGHBOUR: 'it returns false'. Refute it at one input. -/
def fnAtRisesWrong : ChangeSpec := { name := "fnAtRises", fn := fun _ => fun
  | [d] => { results := [.lit (.bool false)], args := [d] }
  | _ => none }
def FnAtRisesWrongFalsely : Prop := fnAtRisesRow.holds Try.pinned (OpenSpec.ofChange fnAtRisesWrong)

/-- 'laws.FnAtKnots': WHATEVER THE INPUT: true; the input reads as it did. -/
def fnAtKnotsSpec : ChangeSpec := { name := "fnAtKnots", fn := fun _ => fun
  | [d] => { results := [.lit (.bool true)], args := [d] }
  | _ => none }
def fnAtKnotsRow : OpenClaim := { program := "ytlolhnjbogfkfaa", sum := "b6c0229298ad39832d228c6ad7f926a356b4398040b5a049826f4ae95c3f93db", func := "loop.example/icecores/laws.FnAtKnots", spec := "fnAtKnots", apart := false }
def FnAtKnotsSaid : Prop := fnAtKnotsRow.holds Try.pinned (OpenSpec.ofChange fnAtKnotsSpec)

/-- ITS FALSE NEIGHBOUR: 'it returns false'. Refute it at one input. -/
def fnAtKnotsWrong : ChangeSpec := { name := "fnAtKnots", fn := fun _ => fun
  | [d] => { results := [.lit (.bool false)], args := [d] }
  | _ => none }
def FnAtKnotsWrongFalsely : Prop := fnAtKnotsRow.holds Try.pinned (OpenSpec.ofChange fnAtKnotsWrong)

/-- 'laws.FnAtDouble': WHATEVER THE INPUT: true; the input reads as it did. -/
def fnAtDoubleSpec : ChangeSpec := { name := "fnAtDouble", fn := fun _ => fun
  | [d] => { results := [.lit (.bool true)], args := [d] }
  | _ => none }
def fnAtDoubleRow : OpenClaim := { program := "ytlolhnjbogfkfaa", sum := "b6c0229298ad39832d228c6ad7f926a356b4398040b5a049826f4ae95c3f93db", func := "loop.example/icecores/laws.FnAtDouble", spec := "fnAtDouble", apart := false }
def FnAtDoubleSaid : Prop := fnAtDoubleRow.holds Try.pinned (OpenSpec.ofChange fnAtDoubleSpec)

/-- ITS FALSE NEIGHBOUR: 'it returns false'. Refute it at one input. -/
def fnAtDoubleWrong : ChangeSpec := { name := "fnAtDouble", fn := fun _ => fun
  | [d] => { results := [.lit (.bool false)], args := [d] }
  | _ => none }
def FnAtDoubleWrongFalsely : Prop := fnAtDoubleRow.holds Try.pinned (OpenSpec.ofChange fnAtDoubleWrong)

/-- 'laws.FnAtSlope': WHATEVER THE INPUT: true; the input reads as it did. -/
def fnAtSlopeSpec : ChangeSpec := { name := "fnAtSlope", fn := fun _ => fun
  | [d] => { results := [.lit (.bool true)], args := [d] }
  | _ => none }
def fnAtSlopeRow : OpenClaim := { program := "ytlolhnjbogfkfaa", sum := "b6c0229298ad39832d228c6ad7f926a356b4398040b5a049826f4ae95c3f93db", func := "loop.example/icecores/laws.FnAtSlope", spec := "fnAtSlope", apart := false }
def FnAtSlopeSaid : Prop := fnAtSlopeRow.holds Try.pinned (OpenSpec.ofChange fnAtSlopeSpec)

/-- ITS FALSE NEIGHBOUR: 'it returns false'. Refute it at one input. -/
def fnAtSlopeWrong : ChangeSpec := { name := "fnAtSlope", fn := fun _ => fun
  | [d] => { results := [.lit (.bool false)], args := [d] }
  | _ => none }
def FnAtSlopeWrongFalsely : Prop := fnAtSlopeRow.holds Try.pinned (OpenSpec.ofChange fnAtSlopeWrong)

/- THE SECOND FORM. 'bulk': how many values and letters a reading holds, each counted each time it is reached (what is shared counts as often as it is met; a slice's spare places count too). A statement '..UptoSaid' is the law's where the arguments, and the package variables that the reading takes, are together of bulk at most 1048576: NARROWER than '..Said'. Prove '..Said' where nothing that the law and all that it calls make is longer than what came in: it says more and counts as full. Else prove '..UptoSaid'. A law counts once. -/
mutual
def uptoBulk {H : Type} : DataW H → Nat
  | .lit (.string bytes) => bytes.length + 1
  | .lit _ => 1
  | .nil => 1
  | .ptr d => uptoBulk d + 1
  | .slice elems spare => uptoBulkAll elems + uptoBulkAll spare + 1
  | .agg parts => uptoBulkAll parts + 1
  | .iface _ d => uptoBulk d + 1
  | .map entries => uptoBulkEntries entries + 1
  | .held _ => 1
def uptoBulkAll {H : Type} : List (DataW H) → Nat
  | [] => 0
  | d :: r => uptoBulk d + uptoBulkAll r
def uptoBulkEntries {H : Type} : List (Lit × DataW H) → Nat
  | [] => 0
  | x :: r => uptoBulkEntry x + uptoBulkEntries r
def uptoBulkEntry {H : Type} : Lit × DataW H → Nat
  | (.string bytes, d) => bytes.length + uptoBulk d + 1
  | (_, d) => uptoBulk d + 1
 end
def uptoSmall : (H : Type) → List (DataW H) → Bool := fun _ ds => decide (uptoBulkAll ds ≤ 1048576)
def OpenSpec.upto (s : _root_.Go.ChangeSpec) : _root_.Go.OpenSpec := { _root_.Go.OpenSpec.ofChange s with cond := some uptoSmall }

/-- 'laws.FnSlopeMean', WHERE WHAT IT READS IS OF BULK AT MOST 1048576: true; the input reads as it did. -/
def fnSlopeMeanUptoRow : OpenClaim := { program := "ytlolhnjbogfkfaa", sum := "b6c0229298ad39832d228c6ad7f926a356b4398040b5a049826f4ae95c3f93db", func := "loop.example/icecores/laws.FnSlopeMean", spec := "fnSlopeMean", apart := false, narrowed := true }
def FnSlopeMeanUptoSaid : Prop := fnSlopeMeanUptoRow.holds Try.pinned (OpenSpec.upto fnSlopeMeanSpec)

/-- 'laws.FnExactCurveSlope', WHERE WHAT IT READS IS OF BULK AT MOST 1048576: true; the input reads as it did. -/
def fnExactCurveSlopeUptoRow : OpenClaim := { program := "ytlolhnjbogfkfaa", sum := "b6c0229298ad39832d228c6ad7f926a356b4398040b5a049826f4ae95c3f93db", func := "loop.example/icecores/laws.FnExactCurveSlope", spec := "fnExactCurveSlope", apart := false, narrowed := true }
def FnExactCurveSlopeUptoSaid : Prop := fnExactCurveSlopeUptoRow.holds Try.pinned (OpenSpec.upto fnExactCurveSlopeSpec)

/-- 'laws.FnLeanSlopes', WHERE WHAT IT READS IS OF BULK AT MOST 1048576: true; the input reads as it did. -/
def fnLeanSlopesUptoRow : OpenClaim := { program := "ytlolhnjbogfkfaa", sum := "b6c0229298ad39832d228c6ad7f926a356b4398040b5a049826f4ae95c3f93db", func := "loop.example/icecores/laws.FnLeanSlopes", spec := "fnLeanSlopes", apart := false, narrowed := true }
def FnLeanSlopesUptoSaid : Prop := fnLeanSlopesUptoRow.holds Try.pinned (OpenSpec.upto fnLeanSlopesSpec)

/-- 'laws.FnSlope', WHERE WHAT IT READS IS OF BULK AT MOST 1048576: true; the input reads as it did. -/
def fnSlopeUptoRow : OpenClaim := { program := "ytlolhnjbogfkfaa", sum := "b6c0229298ad39832d228c6ad7f926a356b4398040b5a049826f4ae95c3f93db", func := "loop.example/icecores/laws.FnSlope", spec := "fnSlope", apart := false, narrowed := true }
def FnSlopeUptoSaid : Prop := fnSlopeUptoRow.holds Try.pinned (OpenSpec.upto fnSlopeSpec)

/-- 'laws.FnExactCurveAt', WHERE WHAT IT READS IS OF BULK AT MOST 1048576: true; the input reads as it did. -/
def fnExactCurveAtUptoRow : OpenClaim := { program := "ytlolhnjbogfkfaa", sum := "b6c0229298ad39832d228c6ad7f926a356b4398040b5a049826f4ae95c3f93db", func := "loop.example/icecores/laws.FnExactCurveAt", spec := "fnExactCurveAt", apart := false, narrowed := true }
def FnExactCurveAtUptoSaid : Prop := fnExactCurveAtUptoRow.holds Try.pinned (OpenSpec.upto fnExactCurveAtSpec)

/-- 'laws.FnAtRises', WHERE WHAT IT READS IS OF BULK AT MOST 1048576: true; the input reads as it did. -/
def fnAtRisesUptoRow : OpenClaim := { program := "ytlolhnjbogfkfaa", sum := "b6c0229298ad39832d228c6ad7f926a356b4398040b5a049826f4ae95c3f93db", func := "loop.example/icecores/laws.FnAtRises", spec := "fnAtRises", apart := false, narrowed := true }
def FnAtRisesUptoSaid : Prop := fnAtRisesUptoRow.holds Try.pinned (OpenSpec.upto fnAtRisesSpec)

/-- 'laws.FnAtKnots', WHERE WHAT IT READS IS OF BULK AT MOST 1048576: true; the input reads as it did. -/
def fnAtKnotsUptoRow : OpenClaim := { program := "ytlolhnjbogfkfaa", sum := "b6c0229298ad39832d228c6ad7f926a356b4398040b5a049826f4ae95c3f93db", func := "loop.example/icecores/laws.FnAtKnots", spec := "fnAtKnots", apart := false, narrowed := true }
def FnAtKnotsUptoSaid : Prop := fnAtKnotsUptoRow.holds Try.pinned (OpenSpec.upto fnAtKnotsSpec)

/-- 'laws.FnAtDouble', WHERE WHAT IT READS IS OF BULK AT MOST 1048576: true; the input reads as it did. -/
def fnAtDoubleUptoRow : OpenClaim := { program := "ytlolhnjbogfkfaa", sum := "b6c0229298ad39832d228c6ad7f926a356b4398040b5a049826f4ae95c3f93db", func := "loop.example/icecores/laws.FnAtDouble", spec := "fnAtDouble", apart := false, narrowed := true }
def FnAtDoubleUptoSaid : Prop := fnAtDoubleUptoRow.holds Try.pinned (OpenSpec.upto fnAtDoubleSpec)

/-- 'laws.FnAtSlope', WHERE WHAT IT READS IS OF BULK AT MOST 1048576: true; the input reads as it did. -/
def fnAtSlopeUptoRow : OpenClaim := { program := "ytlolhnjbogfkfaa", sum := "b6c0229298ad39832d228c6ad7f926a356b4398040b5a049826f4ae95c3f93db", func := "loop.example/icecores/laws.FnAtSlope", spec := "fnAtSlope", apart := false, narrowed := true }
def FnAtSlopeUptoSaid : Prop := fnAtSlopeUptoRow.holds Try.pinned (OpenSpec.upto fnAtSlopeSpec)

end Rows
end Go.Proofs.Ytlolhnjbogfkfaa
