/-
  No cell of these rows narrows 'for every input' (looked for: loops, veiled, ifaces, maps, wideKeys, modest, calm, conditions, laid).
  DERIVED. THE GIVEN ROWS OF THIS SEAT. 10 by the template 'for every input the law returns true; each argument reads behind the call as it read before'; 0 by the template 'total and deterministic' (their statements: YtpaemnambphldaaTotals.lean).
  GIVEN WITH THE SEED: the statements are not yours to turn. If you find one false, say at which input.
  Laid BY PROGRAM, IN A SANDBOX (cutbox-rows.mjs): the forced cells as the released guide's own fill.sh prints them over the translation e980a46c8ec50f80… (all of the seat's roots in one cut). By AI agents, Wed Nov 11 2026. No macro, syntax, notation, axiom, sorry.
-/
import Derived.Test.YtpaemnambphldaaChecked
import GoSem.Claim
import GoSem.ClaimJoined
import GoSem.ClaimMapViews
import Derived.JoinedTies
import Derived.KernelRfl
namespace Go.Proofs.Ytpaemnambphldaa
/- THE CELL 'sum', in the pinned program and in every row, IS THE sha256 OF THE DUMP (.gsa) THAT YtpaemnambphldaaProg.lean LOADS. Nothing in Lean hashes anything: it is a label: what it is worth is what the hold of that sum in a sandbox is worth. -/
noncomputable def Try.pinned : Pinned := { name := "ytpaemnambphldaa", sum := "e980a46c8ec50f80948629949de25ed9bec5e39c2dcebade6c7d26d0614423cd", checked := Try.checked }
namespace Rows
def none {H : Type} : Left H := { results := [], args := [] }

/-- 'laws.FnExactRecordValid': WHATEVER THE INPUT: true; the input reads as it did. -/
def fnExactRecordValidSpec : ChangeSpec := { name := "fnExactRecordValid", fn := fun _ => fun
  | [d1, d2] => { results := [.lit (.bool true)], args := [d1, d2] }
  | _ => none }
def fnExactRecordValidRow : OpenClaim := { program := "ytpaemnambphldaa", sum := "e980a46c8ec50f80948629949de25ed9bec5e39c2dcebade6c7d26d0614423cd", func := "loop.example/icecores/laws.FnExactRecordValid", spec := "fnExactRecordValid", apart := false }
def FnExactRecordValidSaid : Prop := fnExactRecordValidRow.holds Try.pinned (OpenSpec.ofChange fnExactRecordValidSpec)

/-- ITS FALSE NEIGHBOUR: 'it returns false'. Refute it at one input. -/
def fnExactRecordValidWrong : ChangeSpec := { name := "fnExactRecordValid", fn := fun _ => fun
  | [d1, d2] => { results := [.lit (.bool false)], args := [d1, d2] }
  | _ => none }
def FnExactRecordValidWrongFalsely : Prop := fnExactRecordValidRow.holds Try.pinned (OpenSpec.ofChange fnExactRecordValidWrong)

/-- 'laws.FnExactRecordTotal': WHATEVER THE INPUT: true; the input reads as it did. -/
def fnExactRecordTotalSpec : ChangeSpec := { name := "fnExactRecordTotal", fn := fun _ => fun
  | [d1, d2] => { results := [.lit (.bool true)], args := [d1, d2] }
  | _ => none }
def fnExactRecordTotalRow : OpenClaim := { program := "ytpaemnambphldaa", sum := "e980a46c8ec50f80948629949de25ed9bec5e39c2dcebade6c7d26d0614423cd", func := "loop.example/icecores/laws.FnExactRecordTotal", spec := "fnExactRecordTotal", apart := false }
def FnExactRecordTotalSaid : Prop := fnExactRecordTotalRow.holds Try.pinned (OpenSpec.ofChange fnExactRecordTotalSpec)

/-- ITS FALSE NEIGHBOUR: 'it returns false'. Refute it at one input. -/
def fnExactRecordTotalWrong : ChangeSpec := { name := "fnExactRecordTotal", fn := fun _ => fun
  | [d1, d2] => { results := [.lit (.bool false)], args := [d1, d2] }
  | _ => none }
def FnExactRecordTotalWrongFalsely : Prop := fnExactRecordTotalRow.holds Try.pinned (OpenSpec.ofChange fnExactRecordTotalWrong)

/-- 'laws.FnRecord': WHATEVER THE INPUT: true; the input reads as it did. -/
def fnRecordSpec : ChangeSpec := { name := "fnRecord", fn := fun _ => fun
  | [d1, d2] => { results := [.lit (.bool true)], args := [d1, d2] }
  | _ => none }
def fnRecordRow : OpenClaim := { program := "ytpaemnambphldaa", sum := "e980a46c8ec50f80948629949de25ed9bec5e39c2dcebade6c7d26d0614423cd", func := "loop.example/icecores/laws.FnRecord", spec := "fnRecord", apart := false }
def FnRecordSaid : Prop := fnRecordRow.holds Try.pinned (OpenSpec.ofChange fnRecordSpec)

/-- ITS FALSE NEIGHBOUR: 'it returns false'. Refute it at one input. -/
def fnRecordWrong : ChangeSpec := { name := "fnRecord", fn := fun _ => fun
  | [d1, d2] => { results := [.lit (.bool false)], args := [d1, d2] }
  | _ => none }
def FnRecordWrongFalsely : Prop := fnRecordRow.holds Try.pinned (OpenSpec.ofChange fnRecordWrong)

/-- 'laws.FnTotalParts': WHATEVER THE INPUT: true; the input reads as it did. -/
def fnTotalPartsSpec : ChangeSpec := { name := "fnTotalParts", fn := fun _ => fun
  | [d1, d2] => { results := [.lit (.bool true)], args := [d1, d2] }
  | _ => none }
def fnTotalPartsRow : OpenClaim := { program := "ytpaemnambphldaa", sum := "e980a46c8ec50f80948629949de25ed9bec5e39c2dcebade6c7d26d0614423cd", func := "loop.example/icecores/laws.FnTotalParts", spec := "fnTotalParts", apart := false }
def FnTotalPartsSaid : Prop := fnTotalPartsRow.holds Try.pinned (OpenSpec.ofChange fnTotalPartsSpec)

/-- ITS FALSE NEIGHBOUR: 'it returns false'. Refute it at one input. -/
def fnTotalPartsWrong : ChangeSpec := { name := "fnTotalParts", fn := fun _ => fun
  | [d1, d2] => { results := [.lit (.bool false)], args := [d1, d2] }
  | _ => none }
def FnTotalPartsWrongFalsely : Prop := fnTotalPartsRow.holds Try.pinned (OpenSpec.ofChange fnTotalPartsWrong)

/-- 'laws.FnExactRecordMerge': WHATEVER THE INPUT: true; the input reads as it did. -/
def fnExactRecordMergeSpec : ChangeSpec := { name := "fnExactRecordMerge", fn := fun _ => fun
  | [d1, d2, d3] => { results := [.lit (.bool true)], args := [d1, d2, d3] }
  | _ => none }
def fnExactRecordMergeRow : OpenClaim := { program := "ytpaemnambphldaa", sum := "e980a46c8ec50f80948629949de25ed9bec5e39c2dcebade6c7d26d0614423cd", func := "loop.example/icecores/laws.FnExactRecordMerge", spec := "fnExactRecordMerge", apart := false }
def FnExactRecordMergeSaid : Prop := fnExactRecordMergeRow.holds Try.pinned (OpenSpec.ofChange fnExactRecordMergeSpec)

/-- ITS FALSE NEIGHBOUR: 'it returns false'. Refute it at one input. -/
def fnExactRecordMergeWrong : ChangeSpec := { name := "fnExactRecordMerge", fn := fun _ => fun
  | [d1, d2, d3] => { results := [.lit (.bool false)], args := [d1, d2, d3] }
  | _ => none }
def FnExactRecordMergeWrongFalsely : Prop := fnExactRecordMergeRow.holds Try.pinned (OpenSpec.ofChange fnExactRecordMergeWrong)

/-- 'laws.FnMergeAll': WHATEVER THE INPUT: true; the input reads as it did. -/
def fnMergeAllSpec : ChangeSpec := { name := "fnMergeAll", fn := fun _ => fun
  | [d] => { results := [.lit (.bool true)], args := [d] }
  | _ => none }
def fnMergeAllRow : OpenClaim := { program := "ytpaemnambphldaa", sum := "e980a46c8ec50f80948629949de25ed9bec5e39c2dcebade6c7d26d0614423cd", func := "loop.example/icecores/laws.FnMergeAll", spec := "fnMergeAll", apart := false }
def FnMergeAllSaid : Prop := fnMergeAllRow.holds Try.pinned (OpenSpec.ofChange fnMergeAllSpec)

/-- ITS FALSE NEIGHBOUR: 'it returns false'. Refute it at one input. -/
def fnMergeAllWrong : ChangeSpec := { name := "fnMergeAll", fn := fun _ => fun
  | [d] => { results := [.lit (.bool false)], args := [d] }
  | _ => none }
def FnMergeAllWrongFalsely : Prop := fnMergeAllRow.holds Try.pinned (OpenSpec.ofChange fnMergeAllWrong)

/-- 'laws.FnRecordTotal': WHATEVER THE INPUT: true; the input reads as it did. -/
def fnRecordTotalSpec : ChangeSpec := { name := "fnRecordTotal", fn := fun _ => fun
  | [d] => { results := [.lit (.bool true)], args := [d] }
  | _ => none }
def fnRecordTotalRow : OpenClaim := { program := "ytpaemnambphldaa", sum := "e980a46c8ec50f80948629949de25ed9bec5e39c2dcebade6c7d26d0614423cd", func := "loop.example/icecores/laws.FnRecordTotal", spec := "fnRecordTotal", apart := false }
def FnRecordTotalSaid : Prop := fnRecordTotalRow.holds Try.pinned (OpenSpec.ofChange fnRecordTotalSpec)

/-- ITS FALSE NEIGHBOUR: 'it returns false'. Refute it at one input. -/
def fnRecordTotalWrong : ChangeSpec := { name := "fnRecordTotal", fn := fun _ => fun
  | [d] => { results := [.lit (.bool false)], args := [d] }
  | _ => none }
def FnRecordTotalWrongFalsely : Prop := fnRecordTotalRow.holds Try.pinned (OpenSpec.ofChange fnRecordTotalWrong)

/-- 'laws.FnExactRecordBetween': WHATEVER THE INPUT: true; the input reads as it did. -/
def fnExactRecordBetweenSpec : ChangeSpec := { name := "fnExactRecordBetween", fn := fun _ => fun
  | [d1, d2, d3, d4] => { results := [.lit (.bool true)], args := [d1, d2, d3, d4] }
  | _ => none }
def fnExactRecordBetweenRow : OpenClaim := { program := "ytpaemnambphldaa", sum := "e980a46c8ec50f80948629949de25ed9bec5e39c2dcebade6c7d26d0614423cd", func := "loop.example/icecores/laws.FnExactRecordBetween", spec := "fnExactRecordBetween", apart := false }
def FnExactRecordBetweenSaid : Prop := fnExactRecordBetweenRow.holds Try.pinned (OpenSpec.ofChange fnExactRecordBetweenSpec)

/-- ITS FALSE NEIGHBOUR: 'it returns false'. Refute it at one input. -/
def fnExactRecordBetweenWrong : ChangeSpec := { name := "fnExactRecordBetween", fn := fun _ => fun
  | [d1, d2, d3, d4] => { results := [.lit (.bool false)], args := [d1, d2, d3, d4] }
  | _ => none }
def FnExactRecordBetweenWrongFalsely : Prop := fnExactRecordBetweenRow.holds Try.pinned (OpenSpec.ofChange fnExactRecordBetweenWrong)

/-- 'laws.FnMergeBetween': WHATEVER THE INPUT: true; the input reads as it did. -/
def fnMergeBetweenSpec : ChangeSpec := { name := "fnMergeBetween", fn := fun _ => fun
  | [d1, d2] => { results := [.lit (.bool true)], args := [d1, d2] }
  | _ => none }
def fnMergeBetweenRow : OpenClaim := { program := "ytpaemnambphldaa", sum := "e980a46c8ec50f80948629949de25ed9bec5e39c2dcebade6c7d26d0614423cd", func := "loop.example/icecores/laws.FnMergeBetween", spec := "fnMergeBetween", apart := false }
def FnMergeBetweenSaid : Prop := fnMergeBetweenRow.holds Try.pinned (OpenSpec.ofChange fnMergeBetweenSpec)

/-- ITS FALSE NEIGHBOUR: 'it returns false'. Refute it at one input. -/
def fnMergeBetweenWrong : ChangeSpec := { name := "fnMergeBetween", fn := fun _ => fun
  | [d1, d2] => { results := [.lit (.bool false)], args := [d1, d2] }
  | _ => none }
def FnMergeBetweenWrongFalsely : Prop := fnMergeBetweenRow.holds Try.pinned (OpenSpec.ofChange fnMergeBetweenWrong)

/-- 'laws.FnMerge': WHATEVER THE INPUT: true; the input reads as it did. -/
def fnMergeSpec : ChangeSpec := { name := "fnMerge", fn := fun _ => fun
  | [d1, d2] => { results := [.lit (.bool true)], args := [d1, d2] }
  | _ => none }
def fnMergeRow : OpenClaim := { program := "ytpaemnambphldaa", sum := "e980a46c8ec50f80948629949de25ed9bec5e39c2dcebade6c7d26d0614423cd", func := "loop.example/icecores/laws.FnMerge", spec := "fnMerge", apart := false }
def FnMergeSaid : Prop := fnMergeRow.holds Try.pinned (OpenSpec.ofChange fnMergeSpec)

/-- ITS FALSE NEIGHBOUR: 'it returns false'. Refute it at one input. -/
def fnMergeWrong : ChangeSpec := { name := "fnMerge", fn := fun _ => fun
  | [d1, d2] => { results := [.lit (.bool false)], args := [d1, d2] }
  | _ => none }
def FnMergeWrongFalsely : Prop := fnMergeRow.holds Try.pinned (OpenSpec.ofChange fnMergeWrong)

/- THE SECOND FORM. 'bulk': how many values and letters a reading holds, each counted each time it is reached (what is shared counts as often as it is met; a slice's spare places count too). A statement '..UptoSaid' is the law's where the arguments, and the package variables that the reading takes, are together of bulk at most 1048576: NARROWER than '..Said'. Prove '..Said' where nothing that the law and all that it calls make is longer than what came in: it says more and counts as full. Else prove '..UptoSaid'. A law counts once. -/
mutual
def uptoBulk {H : Type} : DataW H → Nat
  | .lit (.string bytes) => bytes.length + 1
  | .lit _ => 1
  | .nil => 1
  | .ptr d => uptoBulk d + 1
  | .slice elems spare => uptoBulkAll elems + uptoBulkAll spare + 1
  | .agg parts => uptoBulkAll parts + 1
  | .iface _ d => uptoBulk d + 1
  | .map entries => uptoBulkEntries entries + 1
  | .held _ => 1
def uptoBulkAll {H : Type} : List (DataW H) → Nat
  | [] => 0
  | d :: r => uptoBulk d + uptoBulkAll r
def uptoBulkEntries {H : Type} : List (Lit × DataW H) → Nat
  | [] => 0
  | x :: r => uptoBulkEntry x + uptoBulkEntries r
def uptoBulkEntry {H : Type} : Lit × DataW H → Nat
  | (.string bytes, d) => bytes.length + uptoBulk d + 1
  | (_, d) => uptoBulk d + 1
 end
def uptoSmall : (H : Type) → List (DataW H) → Bool := fun _ ds => decide (uptoBulkAll ds ≤ 1048576)
def OpenSpec.upto (s : _root_.Go.ChangeSpec) : _root_.Go.OpenSpec := { _root_.Go.OpenSpec.ofChange s with cond := some uptoSmall }

/-- 'laws.FnExactRecordValid', WHERE WHAT IT READS IS OF BULK AT MOST 1048576: true; the input reads as it did. -/
def fnExactRecordValidUptoRow : OpenClaim := { program := "ytpaemnambphldaa", sum := "e980a46c8ec50f80948629949de25ed9bec5e39c2dcebade6c7d26d0614423cd", func := "loop.example/icecores/laws.FnExactRecordValid", spec := "fnExactRecordValid", apart := false, narrowed := true }
def FnExactRecordValidUptoSaid : Prop := fnExactRecordValidUptoRow.holds Try.pinned (OpenSpec.upto fnExactRecordValidSpec)

/-- 'laws.FnExactRecordTotal', WHERE WHAT IT READS IS OF BULK AT MOST 1048576: true; the input reads as it did. -/
def fnExactRecordTotalUptoRow : OpenClaim := { program := "ytpaemnambphldaa", sum := "e980a46c8ec50f80948629949de25ed9bec5e39c2dcebade6c7d26d0614423cd", func := "loop.example/icecores/laws.FnExactRecordTotal", spec := "fnExactRecordTotal", apart := false, narrowed := true }
def FnExactRecordTotalUptoSaid : Prop := fnExactRecordTotalUptoRow.holds Try.pinned (OpenSpec.upto fnExactRecordTotalSpec)

/-- 'laws.FnRecord', WHERE WHAT IT READS IS OF BULK AT MOST 1048576: true; the input reads as it did. -/
def fnRecordUptoRow : OpenClaim := { program := "ytpaemnambphldaa", sum := "e980a46c8ec50f80948629949de25ed9bec5e39c2dcebade6c7d26d0614423cd", func := "loop.example/icecores/laws.FnRecord", spec := "fnRecord", apart := false, narrowed := true }
def FnRecordUptoSaid : Prop := fnRecordUptoRow.holds Try.pinned (OpenSpec.upto fnRecordSpec)

/-- 'laws.FnTotalParts', WHERE WHAT IT READS IS OF BULK AT MOST 1048576: true; the input reads as it did. -/
def fnTotalPartsUptoRow : OpenClaim := { program := "ytpaemnambphldaa", sum := "e980a46c8ec50f80948629949de25ed9bec5e39c2dcebade6c7d26d0614423cd", func := "loop.example/icecores/laws.FnTotalParts", spec := "fnTotalParts", apart := false, narrowed := true }
def FnTotalPartsUptoSaid : Prop := fnTotalPartsUptoRow.holds Try.pinned (OpenSpec.upto fnTotalPartsSpec)

/-- 'laws.FnExactRecordMerge', WHERE WHAT IT READS IS OF BULK AT MOST 1048576: true; the input reads as it did. -/
def fnExactRecordMergeUptoRow : OpenClaim := { program := "ytpaemnambphldaa", sum := "e980a46c8ec50f80948629949de25ed9bec5e39c2dcebade6c7d26d0614423cd", func := "loop.example/icecores/laws.FnExactRecordMerge", spec := "fnExactRecordMerge", apart := false, narrowed := true }
def FnExactRecordMergeUptoSaid : Prop := fnExactRecordMergeUptoRow.holds Try.pinned (OpenSpec.upto fnExactRecordMergeSpec)

/-- 'laws.FnMergeAll', WHERE WHAT IT READS IS OF BULK AT MOST 1048576: true; the input reads as it did. -/
def fnMergeAllUptoRow : OpenClaim := { program := "ytpaemnambphldaa", sum := "e980a46c8ec50f80948629949de25ed9bec5e39c2dcebade6c7d26d0614423cd", func := "loop.example/icecores/laws.FnMergeAll", spec := "fnMergeAll", apart := false, narrowed := true }
def FnMergeAllUptoSaid : Prop := fnMergeAllUptoRow.holds Try.pinned (OpenSpec.upto fnMergeAllSpec)

/-- 'laws.FnRecordTotal', WHERE WHAT IT READS IS OF BULK AT MOST 1048576: true; the input reads as it did. -/
def fnRecordTotalUptoRow : OpenClaim := { program := "ytpaemnambphldaa", sum := "e980a46c8ec50f80948629949de25ed9bec5e39c2dcebade6c7d26d0614423cd", func := "loop.example/icecores/laws.FnRecordTotal", spec := "fnRecordTotal", apart := false, narrowed := true }
def FnRecordTotalUptoSaid : Prop := fnRecordTotalUptoRow.holds Try.pinned (OpenSpec.upto fnRecordTotalSpec)

/-- 'laws.FnExactRecordBetween', WHERE WHAT IT READS IS OF BULK AT MOST 1048576: true; the input reads as it did. -/
def fnExactRecordBetweenUptoRow : OpenClaim := { program := "ytpaemnambphldaa", sum := "e980a46c8ec50f80948629949de25ed9bec5e39c2dcebade6c7d26d0614423cd", func := "loop.example/icecores/laws.FnExactRecordBetween", spec := "fnExactRecordBetween", apart := false, narrowed := true }
def FnExactRecordBetweenUptoSaid : Prop := fnExactRecordBetweenUptoRow.holds Try.pinned (OpenSpec.upto fnExactRecordBetweenSpec)

/-- 'laws.FnMergeBetween', WHERE WHAT IT READS IS OF BULK AT MOST 1048576: true; the input reads as it did. -/
def fnMergeBetweenUptoRow : OpenClaim := { program := "ytpaemnambphldaa", sum := "e980a46c8ec50f80948629949de25ed9bec5e39c2dcebade6c7d26d0614423cd", func := "loop.example/icecores/laws.FnMergeBetween", spec := "fnMergeBetween", apart := false, narrowed := true }
def FnMergeBetweenUptoSaid : Prop := fnMergeBetweenUptoRow.holds Try.pinned (OpenSpec.upto fnMergeBetweenSpec)

/-- 'laws.FnMerge', WHERE WHAT IT READS IS OF BULK AT MOST 1048576: true; the input reads as it did. -/
def fnMergeUptoRow : OpenClaim := { program := "ytpaemnambphldaa", sum := "e980a46c8ec50f80948629949de25ed9bec5e39c2dcebade6c7d26d0614423cd", func := "loop.example/icecores/laws.FnMerge", spec := "fnMerge", apart := false, narrowed := true }
def FnMergeUptoSaid : Prop := fnMergeUptoRow.holds Try.pinned (OpenSpec.upto fnMergeSpec)

end Rows
end Go.Proofs.Ytpaemnambphldaa
