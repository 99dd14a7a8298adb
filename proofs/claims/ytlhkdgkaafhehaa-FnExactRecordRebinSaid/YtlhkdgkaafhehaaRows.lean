/-
  No cell of these rows narrows 'for every input' (looked for: loops, veiled, ifaces, maps, wideKeys, modest, calm, conditions, laid).
  DERIVED. THE GIVEN ROWS OF THIS SEAT. 11 by the template 'for every input the law returns true; each argument reads behind the call as it read before'; 0 by the template 'total and deterministic' (their statements: YtlhkdgkaafhehaaTotals.lean).
  GIVEN WITH THE SEED: the statements are not yours to turn. If you find one false, say at which input.
  Laid BY PROGRAM, IN A SANDBOX (cutbox-rows.mjs): the forced cells as the released guide's own fill.sh prints them over the translation 288794331d991563… (all of the seat's roots in one cut). By AI agents, Wed Nov 11 2026. No macro, syntax, notation, axiom, sorry.
-/
import Derived.Test.YtlhkdgkaafhehaaChecked
import GoSem.Claim
import GoSem.ClaimJoined
import GoSem.ClaimMapViews
import Derived.JoinedTies
import Derived.KernelRfl
namespace Go.Proofs.Ytlhkdgkaafhehaa
/- THE CELL 'sum', in the pinned program and in every row, IS THE sha256 OF THE DUMP (.gsa) THAT YtlhkdgkaafhehaaProg.lean LOADS. Nothing in Lean hashes anything: it is a label: what it is worth is what the hold of that sum in a sandbox is worth. -/
noncomputable def Try.pinned : Pinned := { name := "ytlhkdgkaafhehaa", sum := "288794331d991563f12a479a1a1cafc59b73c4093b0d881b2cb5ef4b7dbbae5a", checked := Try.checked }
namespace Rows
def none {H : Type} : Left H := { results := [], args := [] }

/-- 'laws.FnBetweenBin': WHATEVER THE INPUT: true; the input reads as it did. -/
def fnBetweenBinSpec : ChangeSpec := { name := "fnBetweenBin", fn := fun _ => fun
  | [d1, d2] => { results := [.lit (.bool true)], args := [d1, d2] }
  | _ => none }
def fnBetweenBinRow : OpenClaim := { program := "ytlhkdgkaafhehaa", sum := "288794331d991563f12a479a1a1cafc59b73c4093b0d881b2cb5ef4b7dbbae5a", func := "loop.example/icecores/laws.FnBetweenBin", spec := "fnBetweenBin", apart := false }
def FnBetweenBinSaid : Prop := fnBetweenBinRow.holds Try.pinned (OpenSpec.ofChange fnBetweenBinSpec)

/-- ITS FALSE NEIGHBOUR: 'it returns false'. Refute it at one input. -/
def fnBetweenBinWrong : ChangeSpec := { name := "fnBetweenBin", fn := fun _ => fun
  | [d1, d2] => { results := [.lit (.bool false)], args := [d1, d2] }
  | _ => none }
def FnBetweenBinWrongFalsely : Prop := fnBetweenBinRow.holds Try.pinned (OpenSpec.ofChange fnBetweenBinWrong)

/-- 'laws.FnBetweenMore': WHATEVER THE INPUT: true; the input reads as it did. -/
def fnBetweenMoreSpec : ChangeSpec := { name := "fnBetweenMore", fn := fun _ => fun
  | [d] => { results := [.lit (.bool true)], args := [d] }
  | _ => none }
def fnBetweenMoreRow : OpenClaim := { program := "ytlhkdgkaafhehaa", sum := "288794331d991563f12a479a1a1cafc59b73c4093b0d881b2cb5ef4b7dbbae5a", func := "loop.example/icecores/laws.FnBetweenMore", spec := "fnBetweenMore", apart := false }
def FnBetweenMoreSaid : Prop := fnBetweenMoreRow.holds Try.pinned (OpenSpec.ofChange fnBetweenMoreSpec)

/-- ITS FALSE NEIGHBOUR: 'it returns false'. Refute it at one input. -/
def fnBetweenMoreWrong : ChangeSpec := { name := "fnBetweenMore", fn := fun _ => fun
  | [d] => { results := [.lit (.bool false)], args := [d] }
  | _ => none }
def FnBetweenMoreWrongFalsely : Prop := fnBetweenMoreRow.holds Try.pinned (OpenSpec.ofChange fnBetweenMoreWrong)

/-- 'laws.FnExactRecordMean': WHATEVER THE INPUT: true; the input reads as it did. -/
def fnExactRecordMeanSpec : ChangeSpec := { name := "fnExactRecordMean", fn := fun _ => fun
  | [d1, d2, d3, d4] => { results := [.lit (.bool true)], args := [d1, d2, d3, d4] }
  | _ => none }
def fnExactRecordMeanRow : OpenClaim := { program := "ytlhkdgkaafhehaa", sum := "288794331d991563f12a479a1a1cafc59b73c4093b0d881b2cb5ef4b7dbbae5a", func := "loop.example/icecores/laws.FnExactRecordMean", spec := "fnExactRecordMean", apart := false }
def FnExactRecordMeanSaid : Prop := fnExactRecordMeanRow.holds Try.pinned (OpenSpec.ofChange fnExactRecordMeanSpec)

/-- ITS FALSE NEIGHBOUR: 'it returns false'. Refute it at one input. -/
def fnExactRecordMeanWrong : ChangeSpec := { name := "fnExactRecordMean", fn := fun _ => fun
  | [d1, d2, d3, d4] => { results := [.lit (.bool false)], args := [d1, d2, d3, d4] }
  | _ => none }
def FnExactRecordMeanWrongFalsely : Prop := fnExactRecordMeanRow.holds Try.pinned (OpenSpec.ofChange fnExactRecordMeanWrong)

/-- 'laws.FnBetweenTwice': WHATEVER THE INPUT: true; the input reads as it did. -/
def fnBetweenTwiceSpec : ChangeSpec := { name := "fnBetweenTwice", fn := fun _ => fun
  | [d] => { results := [.lit (.bool true)], args := [d] }
  | _ => none }
def fnBetweenTwiceRow : OpenClaim := { program := "ytlhkdgkaafhehaa", sum := "288794331d991563f12a479a1a1cafc59b73c4093b0d881b2cb5ef4b7dbbae5a", func := "loop.example/icecores/laws.FnBetweenTwice", spec := "fnBetweenTwice", apart := false }
def FnBetweenTwiceSaid : Prop := fnBetweenTwiceRow.holds Try.pinned (OpenSpec.ofChange fnBetweenTwiceSpec)

/-- ITS FALSE NEIGHBOUR: 'it returns false'. Refute it at one input. -/
def fnBetweenTwiceWrong : ChangeSpec := { name := "fnBetweenTwice", fn := fun _ => fun
  | [d] => { results := [.lit (.bool false)], args := [d] }
  | _ => none }
def FnBetweenTwiceWrongFalsely : Prop := fnBetweenTwiceRow.holds Try.pinned (OpenSpec.ofChange fnBetweenTwiceWrong)

/-- 'laws.FnBetween': WHATEVER THE INPUT: true; the input reads as it did. -/
def fnBetweenSpec : ChangeSpec := { name := "fnBetween", fn := fun _ => fun
  | [d1, d2] => { results := [.lit (.bool true)], args := [d1, d2] }
  | _ => none }
def fnBetweenRow : OpenClaim := { program := "ytlhkdgkaafhehaa", sum := "288794331d991563f12a479a1a1cafc59b73c4093b0d881b2cb5ef4b7dbbae5a", func := "loop.example/icecores/laws.FnBetween", spec := "fnBetween", apart := false }
def FnBetweenSaid : Prop := fnBetweenRow.holds Try.pinned (OpenSpec.ofChange fnBetweenSpec)

/-- ITS FALSE NEIGHBOUR: 'it returns false'. Refute it at one input. -/
def fnBetweenWrong : ChangeSpec := { name := "fnBetween", fn := fun _ => fun
  | [d1, d2] => { results := [.lit (.bool false)], args := [d1, d2] }
  | _ => none }
def FnBetweenWrongFalsely : Prop := fnBetweenRow.holds Try.pinned (OpenSpec.ofChange fnBetweenWrong)

/-- 'laws.FnMeanBin': WHATEVER THE INPUT: true; the input reads as it did. -/
def fnMeanBinSpec : ChangeSpec := { name := "fnMeanBin", fn := fun _ => fun
  | [d1, d2] => { results := [.lit (.bool true)], args := [d1, d2] }
  | _ => none }
def fnMeanBinRow : OpenClaim := { program := "ytlhkdgkaafhehaa", sum := "288794331d991563f12a479a1a1cafc59b73c4093b0d881b2cb5ef4b7dbbae5a", func := "loop.example/icecores/laws.FnMeanBin", spec := "fnMeanBin", apart := false }
def FnMeanBinSaid : Prop := fnMeanBinRow.holds Try.pinned (OpenSpec.ofChange fnMeanBinSpec)

/-- ITS FALSE NEIGHBOUR: 'it returns false'. Refute it at one input. -/
def fnMeanBinWrong : ChangeSpec := { name := "fnMeanBin", fn := fun _ => fun
  | [d1, d2] => { results := [.lit (.bool false)], args := [d1, d2] }
  | _ => none }
def FnMeanBinWrongFalsely : Prop := fnMeanBinRow.holds Try.pinned (OpenSpec.ofChange fnMeanBinWrong)

/-- 'laws.FnMeanParts': WHATEVER THE INPUT: true; the input reads as it did. -/
def fnMeanPartsSpec : ChangeSpec := { name := "fnMeanParts", fn := fun _ => fun
  | [d1, d2] => { results := [.lit (.bool true)], args := [d1, d2] }
  | _ => none }
def fnMeanPartsRow : OpenClaim := { program := "ytlhkdgkaafhehaa", sum := "288794331d991563f12a479a1a1cafc59b73c4093b0d881b2cb5ef4b7dbbae5a", func := "loop.example/icecores/laws.FnMeanParts", spec := "fnMeanParts", apart := false }
def FnMeanPartsSaid : Prop := fnMeanPartsRow.holds Try.pinned (OpenSpec.ofChange fnMeanPartsSpec)

/-- ITS FALSE NEIGHBOUR: 'it returns false'. Refute it at one input. -/
def fnMeanPartsWrong : ChangeSpec := { name := "fnMeanParts", fn := fun _ => fun
  | [d1, d2] => { results := [.lit (.bool false)], args := [d1, d2] }
  | _ => none }
def FnMeanPartsWrongFalsely : Prop := fnMeanPartsRow.holds Try.pinned (OpenSpec.ofChange fnMeanPartsWrong)

/-- 'laws.FnRebinFine': WHATEVER THE INPUT: true; the input reads as it did. -/
def fnRebinFineSpec : ChangeSpec := { name := "fnRebinFine", fn := fun _ => fun
  | [d] => { results := [.lit (.bool true)], args := [d] }
  | _ => none }
def fnRebinFineRow : OpenClaim := { program := "ytlhkdgkaafhehaa", sum := "288794331d991563f12a479a1a1cafc59b73c4093b0d881b2cb5ef4b7dbbae5a", func := "loop.example/icecores/laws.FnRebinFine", spec := "fnRebinFine", apart := false }
def FnRebinFineSaid : Prop := fnRebinFineRow.holds Try.pinned (OpenSpec.ofChange fnRebinFineSpec)

/-- ITS FALSE NEIGHBOUR: 'it returns false'. Refute it at one input. -/
def fnRebinFineWrong : ChangeSpec := { name := "fnRebinFine", fn := fun _ => fun
  | [d] => { results := [.lit (.bool false)], args := [d] }
  | _ => none }
def FnRebinFineWrongFalsely : Prop := fnRebinFineRow.holds Try.pinned (OpenSpec.ofChange fnRebinFineWrong)

/-- 'laws.FnMean': WHATEVER THE INPUT: true; the input reads as it did. -/
def fnMeanSpec : ChangeSpec := { name := "fnMean", fn := fun _ => fun
  | [d] => { results := [.lit (.bool true)], args := [d] }
  | _ => none }
def fnMeanRow : OpenClaim := { program := "ytlhkdgkaafhehaa", sum := "288794331d991563f12a479a1a1cafc59b73c4093b0d881b2cb5ef4b7dbbae5a", func := "loop.example/icecores/laws.FnMean", spec := "fnMean", apart := false }
def FnMeanSaid : Prop := fnMeanRow.holds Try.pinned (OpenSpec.ofChange fnMeanSpec)

/-- ITS FALSE NEIGHBOUR: 'it returns false'. Refute it at one input. -/
def fnMeanWrong : ChangeSpec := { name := "fnMean", fn := fun _ => fun
  | [d] => { results := [.lit (.bool false)], args := [d] }
  | _ => none }
def FnMeanWrongFalsely : Prop := fnMeanRow.holds Try.pinned (OpenSpec.ofChange fnMeanWrong)

/-- 'laws.FnExactRecordRebin': WHATEVER THE INPUT: true; the input reads as it did. -/
def fnExactRecordRebinSpec : ChangeSpec := { name := "fnExactRecordRebin", fn := fun _ => fun
  | [d1, d2, d3] => { results := [.lit (.bool true)], args := [d1, d2, d3] }
  | _ => none }
def fnExactRecordRebinRow : OpenClaim := { program := "ytlhkdgkaafhehaa", sum := "288794331d991563f12a479a1a1cafc59b73c4093b0d881b2cb5ef4b7dbbae5a", func := "loop.example/icecores/laws.FnExactRecordRebin", spec := "fnExactRecordRebin", apart := false }
def FnExactRecordRebinSaid : Prop := fnExactRecordRebinRow.holds Try.pinned (OpenSpec.ofChange fnExactRecordRebinSpec)

/-- ITS FALSE NEIGHBOUR: 'it returns false'. Refute it at one input. -/
def fnExactRecordRebinWrong : ChangeSpec := { name := "fnExactRecordRebin", fn := fun _ => fun
  | [d1, d2, d3] => { results := [.lit (.bool false)], args := [d1, d2, d3] }
  | _ => none }
def FnExactRecordRebinWrongFalsely : Prop := fnExactRecordRebinRow.holds Try.pinned (OpenSpec.ofChange fnExactRecordRebinWrong)

/-- 'laws.FnRebinSelf': WHATEVER THE INPUT: true; the input reads as it did. -/
def fnRebinSelfSpec : ChangeSpec := { name := "fnRebinSelf", fn := fun _ => fun
  | [d] => { results := [.lit (.bool true)], args := [d] }
  | _ => none }
def fnRebinSelfRow : OpenClaim := { program := "ytlhkdgkaafhehaa", sum := "288794331d991563f12a479a1a1cafc59b73c4093b0d881b2cb5ef4b7dbbae5a", func := "loop.example/icecores/laws.FnRebinSelf", spec := "fnRebinSelf", apart := false }
def FnRebinSelfSaid : Prop := fnRebinSelfRow.holds Try.pinned (OpenSpec.ofChange fnRebinSelfSpec)

/-- ITS FALSE NEIGHBOUR: 'it returns false'. Refute it at one input. -/
def fnRebinSelfWrong : ChangeSpec := { name := "fnRebinSelf", fn := fun _ => fun
  | [d] => { results := [.lit (.bool false)], args := [d] }
  | _ => none }
def FnRebinSelfWrongFalsely : Prop := fnRebinSelfRow.holds Try.pinned (OpenSpec.ofChange fnRebinSelfWrong)

/- THE SECOND FORM. 'bulk': how many values and letters a reading holds, each counted each time it is reached (what is shared counts as often as it is met; a slice's spare places count too). A statement '..UptoSaid' is the law's where the arguments, and the package variables that the reading takes, are together of bulk at most 1048576: NARROWER than '..Said'. Prove '..Said' where nothing that the law and all that it calls make is longer than what came in: it says more and counts as full. Else prove '..UptoSaid'. A law counts once. -/
mutual
def uptoBulk {H : Type} : DataW H → Nat
  | .lit (.string bytes) => bytes.length + 1
  | .lit _ => 1
  | .nil => 1
  | .ptr d => uptoBulk d + 1
  | .slice elems spare => uptoBulkAll elems + uptoBulkAll spare + 1
  | .agg parts => uptoBulkAll parts + 1
  | .iface _ d => uptoBulk d + 1
  | .map entries => uptoBulkEntries entries + 1
  | .held _ => 1
def uptoBulkAll {H : Type} : List (DataW H) → Nat
  | [] => 0
  | d :: r => uptoBulk d + uptoBulkAll r
def uptoBulkEntries {H : Type} : List (Lit × DataW H) → Nat
  | [] => 0
  | x :: r => uptoBulkEntry x + uptoBulkEntries r
def uptoBulkEntry {H : Type} : Lit × DataW H → Nat
  | (.string bytes, d) => bytes.length + uptoBulk d + 1
  | (_, d) => uptoBulk d + 1
 end
def uptoSmall : (H : Type) → List (DataW H) → Bool := fun _ ds => decide (uptoBulkAll ds ≤ 1048576)
def OpenSpec.upto (s : _root_.Go.ChangeSpec) : _root_.Go.OpenSpec := { _root_.Go.OpenSpec.ofChange s with cond := some uptoSmall }

/-- 'laws.FnBetweenBin', WHERE WHAT IT READS IS OF BULK AT MOST 1048576: true; the input reads as it did. -/
def fnBetweenBinUptoRow : OpenClaim := { program := "ytlhkdgkaafhehaa", sum := "288794331d991563f12a479a1a1cafc59b73c4093b0d881b2cb5ef4b7dbbae5a", func := "loop.example/icecores/laws.FnBetweenBin", spec := "fnBetweenBin", apart := false, narrowed := true }
def FnBetweenBinUptoSaid : Prop := fnBetweenBinUptoRow.holds Try.pinned (OpenSpec.upto fnBetweenBinSpec)

/-- 'laws.FnBetweenMore', WHERE WHAT IT READS IS OF BULK AT MOST 1048576: true; the input reads as it did. -/
def fnBetweenMoreUptoRow : OpenClaim := { program := "ytlhkdgkaafhehaa", sum := "288794331d991563f12a479a1a1cafc59b73c4093b0d881b2cb5ef4b7dbbae5a", func := "loop.example/icecores/laws.FnBetweenMore", spec := "fnBetweenMore", apart := false, narrowed := true }
def FnBetweenMoreUptoSaid : Prop := fnBetweenMoreUptoRow.holds Try.pinned (OpenSpec.upto fnBetweenMoreSpec)

/-- 'laws.FnExactRecordMean', WHERE WHAT IT READS IS OF BULK AT MOST 1048576: true; the input reads as it did. -/
def fnExactRecordMeanUptoRow : OpenClaim := { program := "ytlhkdgkaafhehaa", sum := "288794331d991563f12a479a1a1cafc59b73c4093b0d881b2cb5ef4b7dbbae5a", func := "loop.example/icecores/laws.FnExactRecordMean", spec := "fnExactRecordMean", apart := false, narrowed := true }
def FnExactRecordMeanUptoSaid : Prop := fnExactRecordMeanUptoRow.holds Try.pinned (OpenSpec.upto fnExactRecordMeanSpec)

/-- 'laws.FnBetweenTwice', WHERE WHAT IT READS IS OF BULK AT MOST 1048576: true; the input reads as it did. -/
def fnBetweenTwiceUptoRow : OpenClaim := { program := "ytlhkdgkaafhehaa", sum := "288794331d991563f12a479a1a1cafc59b73c4093b0d881b2cb5ef4b7dbbae5a", func := "loop.example/icecores/laws.FnBetweenTwice", spec := "fnBetweenTwice", apart := false, narrowed := true }
def FnBetweenTwiceUptoSaid : Prop := fnBetweenTwiceUptoRow.holds Try.pinned (OpenSpec.upto fnBetweenTwiceSpec)

/-- 'laws.FnBetween', WHERE WHAT IT READS IS OF BULK AT MOST 1048576: true; the input reads as it did. -/
def fnBetweenUptoRow : OpenClaim := { program := "ytlhkdgkaafhehaa", sum := "288794331d991563f12a479a1a1cafc59b73c4093b0d881b2cb5ef4b7dbbae5a", func := "loop.example/icecores/laws.FnBetween", spec := "fnBetween", apart := false, narrowed := true }
def FnBetweenUptoSaid : Prop := fnBetweenUptoRow.holds Try.pinned (OpenSpec.upto fnBetweenSpec)

/-- 'laws.FnMeanBin', WHERE WHAT IT READS IS OF BULK AT MOST 1048576: true; the input reads as it did. -/
def fnMeanBinUptoRow : OpenClaim := { program := "ytlhkdgkaafhehaa", sum := "288794331d991563f12a479a1a1cafc59b73c4093b0d881b2cb5ef4b7dbbae5a", func := "loop.example/icecores/laws.FnMeanBin", spec := "fnMeanBin", apart := false, narrowed := true }
def FnMeanBinUptoSaid : Prop := fnMeanBinUptoRow.holds Try.pinned (OpenSpec.upto fnMeanBinSpec)

/-- 'laws.FnMeanParts', WHERE WHAT IT READS IS OF BULK AT MOST 1048576: true; the input reads as it did. -/
def fnMeanPartsUptoRow : OpenClaim := { program := "ytlhkdgkaafhehaa", sum := "288794331d991563f12a479a1a1cafc59b73c4093b0d881b2cb5ef4b7dbbae5a", func := "loop.example/icecores/laws.FnMeanParts", spec := "fnMeanParts", apart := false, narrowed := true }
def FnMeanPartsUptoSaid : Prop := fnMeanPartsUptoRow.holds Try.pinned (OpenSpec.upto fnMeanPartsSpec)

/-- 'laws.FnRebinFine', WHERE WHAT IT READS IS OF BULK AT MOST 1048576: true; the input reads as it did. -/
def fnRebinFineUptoRow : OpenClaim := { program := "ytlhkdgkaafhehaa", sum := "288794331d991563f12a479a1a1cafc59b73c4093b0d881b2cb5ef4b7dbbae5a", func := "loop.example/icecores/laws.FnRebinFine", spec := "fnRebinFine", apart := false, narrowed := true }
def FnRebinFineUptoSaid : Prop := fnRebinFineUptoRow.holds Try.pinned (OpenSpec.upto fnRebinFineSpec)

/-- 'laws.FnMean', WHERE WHAT IT READS IS OF BULK AT MOST 1048576: true; the input reads as it did. -/
def fnMeanUptoRow : OpenClaim := { program := "ytlhkdgkaafhehaa", sum := "288794331d991563f12a479a1a1cafc59b73c4093b0d881b2cb5ef4b7dbbae5a", func := "loop.example/icecores/laws.FnMean", spec := "fnMean", apart := false, narrowed := true }
def FnMeanUptoSaid : Prop := fnMeanUptoRow.holds Try.pinned (OpenSpec.upto fnMeanSpec)

/-- 'laws.FnExactRecordRebin', WHERE WHAT IT READS IS OF BULK AT MOST 1048576: true; the input reads as it did. -/
def fnExactRecordRebinUptoRow : OpenClaim := { program := "ytlhkdgkaafhehaa", sum := "288794331d991563f12a479a1a1cafc59b73c4093b0d881b2cb5ef4b7dbbae5a", func := "loop.example/icecores/laws.FnExactRecordRebin", spec := "fnExactRecordRebin", apart := false, narrowed := true }
def FnExactRecordRebinUptoSaid : Prop := fnExactRecordRebinUptoRow.holds Try.pinned (OpenSpec.upto fnExactRecordRebinSpec)

/-- 'laws.FnRebinSelf', WHERE WHAT IT READS IS OF BULK AT MOST 1048576: true; the input reads as it did. -/
def fnRebinSelfUptoRow : OpenClaim := { program := "ytlhkdgkaafhehaa", sum := "288794331d991563f12a479a1a1cafc59b73c4093b0d881b2cb5ef4b7dbbae5a", func := "loop.example/icecores/laws.FnRebinSelf", spec := "fnRebinSelf", apart := false, narrowed := true }
def FnRebinSelfUptoSaid : Prop := fnRebinSelfUptoRow.holds Try.pinned (OpenSpec.upto fnRebinSelfSpec)

end Rows
end Go.Proofs.Ytlhkdgkaafhehaa
