/-
  No cell of these rows narrows 'for every input' (looked for: loops, veiled, ifaces, maps, wideKeys, modest, calm, conditions, laid).
  DERIVED. THE GIVEN ROWS OF THIS SEAT. 9 by the template 'for every input the law returns true; each argument reads behind the call as it read before'; 0 by the template 'total and deterministic' (their statements: YtidcomcnieggaaaTotals.lean).
  GIVEN WITH THE SEED: the statements are not yours to turn. If you find one false, say at which input.
  Laid BY PROGRAM, IN A SANDBOX (cutbox-rows.mjs): the forced cells as the released guide's own fill.sh prints them over the translation 066b0647384d1c84… (all of the seat's roots in one cut). By AI agents, Wed Nov 11 2026. No macro, syntax, notation, axiom, sorry.
-/
import Derived.Test.YtidcomcnieggaaaChecked
import GoSem.Claim
import GoSem.ClaimJoined
import GoSem.ClaimMapViews
import Derived.JoinedTies
import Derived.KernelRfl
namespace Go.Proofs.Ytidcomcnieggaaa
/- THE CELL 'sum', in the pinned program and in every row, IS THE sha256 OF THE DUMP (.gsa) THAT YtidcomcnieggaaaProg.lean LOADS. Nothing in Lean hashes anything: it is a label: what it is worth is what the hold of that sum in a sandbox is worth. -/
noncomputable def Try.pinned : Pinned := { name := "ytidcomcnieggaaa", sum := "066b0647384d1c84463d53a14d34a2b7894556d7f97a97871844d12e7167b99f", checked := Try.checked }
namespace Rows
def none {H : Type} : Left H := { results := [], args := [] }

/-- 'laws.FnCurveAdd': WHATEVER THE INPUT: true; the input reads as it did. -/
def fnCurveAddSpec : ChangeSpec := { name := "fnCurveAdd", fn := fun _ => fun
  | [d1, d2] => { results := [.lit (.bool true)], args := [d1, d2] }
  | _ => none }
def fnCurveAddRow : OpenClaim := { program := "ytidcomcnieggaaa", sum := "066b0647384d1c84463d53a14d34a2b7894556d7f97a97871844d12e7167b99f", func := "loop.example/icecores/laws.FnCurveAdd", spec := "fnCurveAdd", inPlace := ["slices.overlaps[loop.example/icecores/impl.Knot]"], unfollowed := true, recurses := true, apart := false }
def FnCurveAddSaid : Prop := fnCurveAddRow.holds Try.pinned (OpenSpec.ofChange fnCurveAddSpec)

/-- ITS FALSE NEIGHBOUR: 'it returns false'. Refute it at one input. -/
def fnCurveAddWrong : ChangeSpec := { name := "fnCurveAdd", fn := fun _ => fun
  | [d1, d2] => { results := [.lit (.bool false)], args := [d1, d2] }
  | _ => none }
def FnCurveAddWrongFalsely : Prop := fnCurveAddRow.holds Try.pinned (OpenSpec.ofChange fnCurveAddWrong)

/-- 'laws.FnCurveTurnThen': WHATEVER THE INPUT: true; the input reads as it did. -/
def fnCurveTurnThenSpec : ChangeSpec := { name := "fnCurveTurnThen", fn := fun _ => fun
  | [d1, d2] => { results := [.lit (.bool true)], args := [d1, d2] }
  | _ => none }
def fnCurveTurnThenRow : OpenClaim := { program := "ytidcomcnieggaaa", sum := "066b0647384d1c84463d53a14d34a2b7894556d7f97a97871844d12e7167b99f", func := "loop.example/icecores/laws.FnCurveTurnThen", spec := "fnCurveTurnThen", apart := false }
def FnCurveTurnThenSaid : Prop := fnCurveTurnThenRow.holds Try.pinned (OpenSpec.ofChange fnCurveTurnThenSpec)

/-- ITS FALSE NEIGHBOUR: 'it returns false'. Refute it at one input. -/
def fnCurveTurnThenWrong : ChangeSpec := { name := "fnCurveTurnThen", fn := fun _ => fun
  | [d1, d2] => { results := [.lit (.bool false)], args := [d1, d2] }
  | _ => none }
def FnCurveTurnThenWrongFalsely : Prop := fnCurveTurnThenRow.holds Try.pinned (OpenSpec.ofChange fnCurveTurnThenWrong)

/-- 'laws.FnLean': WHATEVER THE INPUT: true; the input reads as it did. -/
def fnLeanSpec : ChangeSpec := { name := "fnLean", fn := fun _ => fun
  | [d1, d2] => { results := [.lit (.bool true)], args := [d1, d2] }
  | _ => none }
def fnLeanRow : OpenClaim := { program := "ytidcomcnieggaaa", sum := "066b0647384d1c84463d53a14d34a2b7894556d7f97a97871844d12e7167b99f", func := "loop.example/icecores/laws.FnLean", spec := "fnLean", apart := false }
def FnLeanSaid : Prop := fnLeanRow.holds Try.pinned (OpenSpec.ofChange fnLeanSpec)

/-- ITS FALSE NEIGHBOUR: 'it returns false'. Refute it at one input. -/
def fnLeanWrong : ChangeSpec := { name := "fnLean", fn := fun _ => fun
  | [d1, d2] => { results := [.lit (.bool false)], args := [d1, d2] }
  | _ => none }
def FnLeanWrongFalsely : Prop := fnLeanRow.holds Try.pinned (OpenSpec.ofChange fnLeanWrong)

/-- 'laws.FnAtEnds': WHATEVER THE INPUT: true; the input reads as it did. -/
def fnAtEndsSpec : ChangeSpec := { name := "fnAtEnds", fn := fun _ => fun
  | [d] => { results := [.lit (.bool true)], args := [d] }
  | _ => none }
def fnAtEndsRow : OpenClaim := { program := "ytidcomcnieggaaa", sum := "066b0647384d1c84463d53a14d34a2b7894556d7f97a97871844d12e7167b99f", func := "loop.example/icecores/laws.FnAtEnds", spec := "fnAtEnds", apart := false }
def FnAtEndsSaid : Prop := fnAtEndsRow.holds Try.pinned (OpenSpec.ofChange fnAtEndsSpec)

/-- ITS FALSE NEIGHBOUR: 'it returns false'. Refute it at one input. -/
def fnAtEndsWrong : ChangeSpec := { name := "fnAtEnds", fn := fun _ => fun
  | [d] => { results := [.lit (.bool false)], args := [d] }
  | _ => none }
def FnAtEndsWrongFalsely : Prop := fnAtEndsRow.holds Try.pinned (OpenSpec.ofChange fnAtEndsWrong)

/-- 'laws.FnExactCurveThen': WHATEVER THE INPUT: true; the input reads as it did. -/
def fnExactCurveThenSpec : ChangeSpec := { name := "fnExactCurveThen", fn := fun _ => fun
  | [d1, d2, d3] => { results := [.lit (.bool true)], args := [d1, d2, d3] }
  | _ => none }
def fnExactCurveThenRow : OpenClaim := { program := "ytidcomcnieggaaa", sum := "066b0647384d1c84463d53a14d34a2b7894556d7f97a97871844d12e7167b99f", func := "loop.example/icecores/laws.FnExactCurveThen", spec := "fnExactCurveThen", apart := false }
def FnExactCurveThenSaid : Prop := fnExactCurveThenRow.holds Try.pinned (OpenSpec.ofChange fnExactCurveThenSpec)

/-- ITS FALSE NEIGHBOUR: 'it returns false'. Refute it at one input. -/
def fnExactCurveThenWrong : ChangeSpec := { name := "fnExactCurveThen", fn := fun _ => fun
  | [d1, d2, d3] => { results := [.lit (.bool false)], args := [d1, d2, d3] }
  | _ => none }
def FnExactCurveThenWrongFalsely : Prop := fnExactCurveThenRow.holds Try.pinned (OpenSpec.ofChange fnExactCurveThenWrong)

/-- 'laws.FnThen': WHATEVER THE INPUT: true; the input reads as it did. -/
def fnThenSpec : ChangeSpec := { name := "fnThen", fn := fun _ => fun
  | [d] => { results := [.lit (.bool true)], args := [d] }
  | _ => none }
def fnThenRow : OpenClaim := { program := "ytidcomcnieggaaa", sum := "066b0647384d1c84463d53a14d34a2b7894556d7f97a97871844d12e7167b99f", func := "loop.example/icecores/laws.FnThen", spec := "fnThen", apart := false }
def FnThenSaid : Prop := fnThenRow.holds Try.pinned (OpenSpec.ofChange fnThenSpec)

/-- ITS FALSE NEIGHBOUR: 'it returns false'. Refute it at one input. -/
def fnThenWrong : ChangeSpec := { name := "fnThen", fn := fun _ => fun
  | [d] => { results := [.lit (.bool false)], args := [d] }
  | _ => none }
def FnThenWrongFalsely : Prop := fnThenRow.holds Try.pinned (OpenSpec.ofChange fnThenWrong)

/-- 'laws.FnThenRises': WHATEVER THE INPUT: true; the input reads as it did. -/
def fnThenRisesSpec : ChangeSpec := { name := "fnThenRises", fn := fun _ => fun
  | [d] => { results := [.lit (.bool true)], args := [d] }
  | _ => none }
def fnThenRisesRow : OpenClaim := { program := "ytidcomcnieggaaa", sum := "066b0647384d1c84463d53a14d34a2b7894556d7f97a97871844d12e7167b99f", func := "loop.example/icecores/laws.FnThenRises", spec := "fnThenRises", apart := false }
def FnThenRisesSaid : Prop := fnThenRisesRow.holds Try.pinned (OpenSpec.ofChange fnThenRisesSpec)

/-- ITS FALSE NEIGHBOUR: 'it returns false'. Refute it at one input. -/
def fnThenRisesWrong : ChangeSpec := { name := "fnThenRises", fn := fun _ => fun
  | [d] => { results := [.lit (.bool false)], args := [d] }
  | _ => none }
def FnThenRisesWrongFalsely : Prop := fnThenRisesRow.holds Try.pinned (OpenSpec.ofChange fnThenRisesWrong)

/-- 'laws.FnThenLine': WHATEVER THE INPUT: true; the input reads as it did. -/
def fnThenLineSpec : ChangeSpec := { name := "fnThenLine", fn := fun _ => fun
  | [d] => { results := [.lit (.bool true)], args := [d] }
  | _ => none }
def fnThenLineRow : OpenClaim := { program := "ytidcomcnieggaaa", sum := "066b0647384d1c84463d53a14d34a2b7894556d7f97a97871844d12e7167b99f", func := "loop.example/icecores/laws.FnThenLine", spec := "fnThenLine", apart := false }
def FnThenLineSaid : Prop := fnThenLineRow.holds Try.pinned (OpenSpec.ofChange fnThenLineSpec)

/-- ITS FALSE NEIGHBOUR: 'it returns false'. Refute it at one input. -/
def fnThenLineWrong : ChangeSpec := { name := "fnThenLine", fn := fun _ => fun
  | [d] => { results := [.lit (.bool false)], args := [d] }
  | _ => none }
def FnThenLineWrongFalsely : Prop := fnThenLineRow.holds Try.pinned (OpenSpec.ofChange fnThenLineWrong)

/-- 'laws.FnThenBack': WHATEVER THE INPUT: true; the input reads as it did. -/
def fnThenBackSpec : ChangeSpec := { name := "fnThenBack", fn := fun _ => fun
  | [d] => { results := [.lit (.bool true)], args := [d] }
  | _ => none }
def fnThenBackRow : OpenClaim := { program := "ytidcomcnieggaaa", sum := "066b0647384d1c84463d53a14d34a2b7894556d7f97a97871844d12e7167b99f", func := "loop.example/icecores/laws.FnThenBack", spec := "fnThenBack", apart := false }
def FnThenBackSaid : Prop := fnThenBackRow.holds Try.pinned (OpenSpec.ofChange fnThenBackSpec)

/-- ITS FALSE NEIGHBOUR: 'it returns false'. Refute it at one input. -/
def fnThenBackWrong : ChangeSpec := { name := "fnThenBack", fn := fun _ => fun
  | [d] => { results := [.lit (.bool false)], args := [d] }
  | _ => none }
def FnThenBackWrongFalsely : Prop := fnThenBackRow.holds Try.pinned (OpenSpec.ofChange fnThenBackWrong)

/- THE SECOND FORM. 'bulk': how many values and letters a reading holds, each counted each time it is reached (what is shared counts as often as it is met; a slice's spare places count too). A statement '..UptoSaid' is the law's where the arguments, and the package variables that the reading takes, are together of bulk at most 1048576: NARROWER than '..Said'. Prove '..Said' where nothing that the law and all that it calls make is longer than what came in: it says more and counts as full. Else prove '..UptoSaid'. A law counts once. -/
mutual
def uptoBulk {H : Type} : DataW H → Nat
  | .lit (.string bytes) => bytes.length + 1
  | .lit _ => 1
  | .nil => 1
  | .ptr d => uptoBulk d + 1
  | .slice elems spare => uptoBulkAll elems + uptoBulkAll spare + 1
  | .agg parts => uptoBulkAll parts + 1
  | .iface _ d => uptoBulk d + 1
  | .map entries => uptoBulkEntries entries + 1
  | .held _ => 1
def uptoBulkAll {H : Type} : List (DataW H) → Nat
  | [] => 0
  | d :: r => uptoBulk d + uptoBulkAll r
def uptoBulkEntries {H : Type} : List (Lit × DataW H) → Nat
  | [] => 0
  | x :: r => uptoBulkEntry x + uptoBulkEntries r
def uptoBulkEntry {H : Type} : Lit × DataW H → Nat
  | (.string bytes, d) => bytes.length + uptoBulk d + 1
  | (_, d) => uptoBulk d + 1
 end
def uptoSmall : (H : Type) → List (DataW H) → Bool := fun _ ds => decide (uptoBulkAll ds ≤ 1048576)
def OpenSpec.upto (s : _root_.Go.ChangeSpec) : _root_.Go.OpenSpec := { _root_.Go.OpenSpec.ofChange s with cond := some uptoSmall }

/-- 'laws.FnCurveAdd', WHERE WHAT IT READS IS OF BULK AT MOST 1048576: true; the input reads as it did. -/
def fnCurveAddUptoRow : OpenClaim := { program := "ytidcomcnieggaaa", sum := "066b0647384d1c84463d53a14d34a2b7894556d7f97a97871844d12e7167b99f", func := "loop.example/icecores/laws.FnCurveAdd", spec := "fnCurveAdd", inPlace := ["slices.overlaps[loop.example/icecores/impl.Knot]"], unfollowed := true, recurses := true, apart := false, narrowed := true }
def FnCurveAddUptoSaid : Prop := fnCurveAddUptoRow.holds Try.pinned (OpenSpec.upto fnCurveAddSpec)

/-- 'laws.FnCurveTurnThen', WHERE WHAT IT READS IS OF BULK AT MOST 1048576: true; the input reads as it did. -/
def fnCurveTurnThenUptoRow : OpenClaim := { program := "ytidcomcnieggaaa", sum := "066b0647384d1c84463d53a14d34a2b7894556d7f97a97871844d12e7167b99f", func := "loop.example/icecores/laws.FnCurveTurnThen", spec := "fnCurveTurnThen", apart := false, narrowed := true }
def FnCurveTurnThenUptoSaid : Prop := fnCurveTurnThenUptoRow.holds Try.pinned (OpenSpec.upto fnCurveTurnThenSpec)

/-- 'laws.FnLean', WHERE WHAT IT READS IS OF BULK AT MOST 1048576: true; the input reads as it did. -/
def fnLeanUptoRow : OpenClaim := { program := "ytidcomcnieggaaa", sum := "066b0647384d1c84463d53a14d34a2b7894556d7f97a97871844d12e7167b99f", func := "loop.example/icecores/laws.FnLean", spec := "fnLean", apart := false, narrowed := true }
def FnLeanUptoSaid : Prop := fnLeanUptoRow.holds Try.pinned (OpenSpec.upto fnLeanSpec)

/-- 'laws.FnAtEnds', WHERE WHAT IT READS IS OF BULK AT MOST 1048576: true; the input reads as it did. -/
def fnAtEndsUptoRow : OpenClaim := { program := "ytidcomcnieggaaa", sum := "066b0647384d1c84463d53a14d34a2b7894556d7f97a97871844d12e7167b99f", func := "loop.example/icecores/laws.FnAtEnds", spec := "fnAtEnds", apart := false, narrowed := true }
def FnAtEndsUptoSaid : Prop := fnAtEndsUptoRow.holds Try.pinned (OpenSpec.upto fnAtEndsSpec)

/-- 'laws.FnExactCurveThen', WHERE WHAT IT READS IS OF BULK AT MOST 1048576: true; the input reads as it did. -/
def fnExactCurveThenUptoRow : OpenClaim := { program := "ytidcomcnieggaaa", sum := "066b0647384d1c84463d53a14d34a2b7894556d7f97a97871844d12e7167b99f", func := "loop.example/icecores/laws.FnExactCurveThen", spec := "fnExactCurveThen", apart := false, narrowed := true }
def FnExactCurveThenUptoSaid : Prop := fnExactCurveThenUptoRow.holds Try.pinned (OpenSpec.upto fnExactCurveThenSpec)

/-- 'laws.FnThen', WHERE WHAT IT READS IS OF BULK AT MOST 1048576: true; the input reads as it did. -/
def fnThenUptoRow : OpenClaim := { program := "ytidcomcnieggaaa", sum := "066b0647384d1c84463d53a14d34a2b7894556d7f97a97871844d12e7167b99f", func := "loop.example/icecores/laws.FnThen", spec := "fnThen", apart := false, narrowed := true }
def FnThenUptoSaid : Prop := fnThenUptoRow.holds Try.pinned (OpenSpec.upto fnThenSpec)

/-- 'laws.FnThenRises', WHERE WHAT IT READS IS OF BULK AT MOST 1048576: true; the input reads as it did. -/
def fnThenRisesUptoRow : OpenClaim := { program := "ytidcomcnieggaaa", sum := "066b0647384d1c84463d53a14d34a2b7894556d7f97a97871844d12e7167b99f", func := "loop.example/icecores/laws.FnThenRises", spec := "fnThenRises", apart := false, narrowed := true }
def FnThenRisesUptoSaid : Prop := fnThenRisesUptoRow.holds Try.pinned (OpenSpec.upto fnThenRisesSpec)

/-- 'laws.FnThenLine', WHERE WHAT IT READS IS OF BULK AT MOST 1048576: true; the input reads as it did. -/
def fnThenLineUptoRow : OpenClaim := { program := "ytidcomcnieggaaa", sum := "066b0647384d1c84463d53a14d34a2b7894556d7f97a97871844d12e7167b99f", func := "loop.example/icecores/laws.FnThenLine", spec := "fnThenLine", apart := false, narrowed := true }
def FnThenLineUptoSaid : Prop := fnThenLineUptoRow.holds Try.pinned (OpenSpec.upto fnThenLineSpec)

/-- 'laws.FnThenBack', WHERE WHAT IT READS IS OF BULK AT MOST 1048576: true; the input reads as it did. -/
def fnThenBackUptoRow : OpenClaim := { program := "ytidcomcnieggaaa", sum := "066b0647384d1c84463d53a14d34a2b7894556d7f97a97871844d12e7167b99f", func := "loop.example/icecores/laws.FnThenBack", spec := "fnThenBack", apart := false, narrowed := true }
def FnThenBackUptoSaid : Prop := fnThenBackUptoRow.holds Try.pinned (OpenSpec.upto fnThenBackSpec)

end Rows
end Go.Proofs.Ytidcomcnieggaaa
