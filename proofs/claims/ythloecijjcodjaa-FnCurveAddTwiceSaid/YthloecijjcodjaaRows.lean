/-
  No cell of these rows narrows 'for every input' (looked for: loops, veiled, ifaces, maps, wideKeys, modest, calm, conditions, laid).
  DERIVED. THE GIVEN ROWS OF THIS SEAT. 10 by the template 'for every input the law returns true; each argument reads behind the call as it read before'; 0 by the template 'total and deterministic' (their statements: YthloecijjcodjaaTotals.lean).
  GIVEN WITH THE SEED: the statements are not yours to turn. If you find one false, say at which input.
  Laid BY PROGRAM, IN A SANDBOX (cutbox-rows.mjs): the forced cells as the released guide's own fill.sh prints them over the translation 00385a88d1f7acce… (all of the seat's roots in one cut). By AI agents, Wed Nov 11 2026. No macro, syntax, notation, axiom, sorry.
-/
import Derived.Test.YthloecijjcodjaaChecked
import GoSem.Claim
import GoSem.ClaimJoined
import GoSem.ClaimMapViews
import Derived.JoinedTies
import Derived.KernelRfl
namespace Go.Proofs.Ythloecijjcodjaa
/- THE CELL 'sum', in the pinned program and in every row, IS THE sha256 OF THE DUMP (.gsa) THAT YthloecijjcodjaaProg.lean LOADS. Nothing in Lean hashes anything: it is a label: what it is worth is what the hold of that sum in a sandbox is worth. -/
noncomputable def Try.pinned : Pinned := { name := "ythloecijjcodjaa", sum := "00385a88d1f7acce7712de33b37dad36f2ea32ebaf4156b2ee78d8ed1316349f", checked := Try.checked }
namespace Rows
def none {H : Type} : Left H := { results := [], args := [] }

/-- 'laws.FnExactCurveValid': WHATEVER THE INPUT: true; the input reads as it did. -/
def fnExactCurveValidSpec : ChangeSpec := { name := "fnExactCurveValid", fn := fun _ => fun
  | [d] => { results := [.lit (.bool true)], args := [d] }
  | _ => none }
def fnExactCurveValidRow : OpenClaim := { program := "ythloecijjcodjaa", sum := "00385a88d1f7acce7712de33b37dad36f2ea32ebaf4156b2ee78d8ed1316349f", func := "loop.example/icecores/laws.FnExactCurveValid", spec := "fnExactCurveValid", apart := false }
def FnExactCurveValidSaid : Prop := fnExactCurveValidRow.holds Try.pinned (OpenSpec.ofChange fnExactCurveValidSpec)

/-- ITS FALSE NEIGHBOUR: 'it returns false'. Refute it at one input. -/
def fnExactCurveValidWrong : ChangeSpec := { name := "fnExactCurveValid", fn := fun _ => fun
  | [d] => { results := [.lit (.bool false)], args := [d] }
  | _ => none }
def FnExactCurveValidWrongFalsely : Prop := fnExactCurveValidRow.holds Try.pinned (OpenSpec.ofChange fnExactCurveValidWrong)

/-- 'laws.FnCurve': WHATEVER THE INPUT: true; the input reads as it did. -/
def fnCurveSpec : ChangeSpec := { name := "fnCurve", fn := fun _ => fun
  | [d1, d2] => { results := [.lit (.bool true)], args := [d1, d2] }
  | _ => none }
def fnCurveRow : OpenClaim := { program := "ythloecijjcodjaa", sum := "00385a88d1f7acce7712de33b37dad36f2ea32ebaf4156b2ee78d8ed1316349f", func := "loop.example/icecores/laws.FnCurve", spec := "fnCurve", apart := false }
def FnCurveSaid : Prop := fnCurveRow.holds Try.pinned (OpenSpec.ofChange fnCurveSpec)

/-- ITS FALSE NEIGHBOUR: 'it returns false'. Refute it at one input. -/
def fnCurveWrong : ChangeSpec := { name := "fnCurve", fn := fun _ => fun
  | [d1, d2] => { results := [.lit (.bool false)], args := [d1, d2] }
  | _ => none }
def FnCurveWrongFalsely : Prop := fnCurveRow.holds Try.pinned (OpenSpec.ofChange fnCurveWrong)

/-- 'laws.FnCurveTurn': WHATEVER THE INPUT: true; the input reads as it did. -/
def fnCurveTurnSpec : ChangeSpec := { name := "fnCurveTurn", fn := fun _ => fun
  | [d] => { results := [.lit (.bool true)], args := [d] }
  | _ => none }
def fnCurveTurnRow : OpenClaim := { program := "ythloecijjcodjaa", sum := "00385a88d1f7acce7712de33b37dad36f2ea32ebaf4156b2ee78d8ed1316349f", func := "loop.example/icecores/laws.FnCurveTurn", spec := "fnCurveTurn", apart := false }
def FnCurveTurnSaid : Prop := fnCurveTurnRow.holds Try.pinned (OpenSpec.ofChange fnCurveTurnSpec)

/-- ITS FALSE NEIGHBOUR: 'it returns false'. Refute it at one input. -/
def fnCurveTurnWrong : ChangeSpec := { name := "fnCurveTurn", fn := fun _ => fun
  | [d] => { results := [.lit (.bool false)], args := [d] }
  | _ => none }
def FnCurveTurnWrongFalsely : Prop := fnCurveTurnRow.holds Try.pinned (OpenSpec.ofChange fnCurveTurnWrong)

/-- 'laws.FnExactCurveTurn': WHATEVER THE INPUT: true; the input reads as it did. -/
def fnExactCurveTurnSpec : ChangeSpec := { name := "fnExactCurveTurn", fn := fun _ => fun
  | [d] => { results := [.lit (.bool true)], args := [d] }
  | _ => none }
def fnExactCurveTurnRow : OpenClaim := { program := "ythloecijjcodjaa", sum := "00385a88d1f7acce7712de33b37dad36f2ea32ebaf4156b2ee78d8ed1316349f", func := "loop.example/icecores/laws.FnExactCurveTurn", spec := "fnExactCurveTurn", apart := false }
def FnExactCurveTurnSaid : Prop := fnExactCurveTurnRow.holds Try.pinned (OpenSpec.ofChange fnExactCurveTurnSpec)

/-- ITS FALSE NEIGHBOUR: 'it returns false'. Refute it at one input. -/
def fnExactCurveTurnWrong : ChangeSpec := { name := "fnExactCurveTurn", fn := fun _ => fun
  | [d] => { results := [.lit (.bool false)], args := [d] }
  | _ => none }
def FnExactCurveTurnWrongFalsely : Prop := fnExactCurveTurnRow.holds Try.pinned (OpenSpec.ofChange fnExactCurveTurnWrong)

/-- 'laws.FnCurveAddTurn': WHATEVER THE INPUT: true; the input reads as it did. -/
def fnCurveAddTurnSpec : ChangeSpec := { name := "fnCurveAddTurn", fn := fun _ => fun
  | [d] => { results := [.lit (.bool true)], args := [d] }
  | _ => none }
def fnCurveAddTurnRow : OpenClaim := { program := "ythloecijjcodjaa", sum := "00385a88d1f7acce7712de33b37dad36f2ea32ebaf4156b2ee78d8ed1316349f", func := "loop.example/icecores/laws.FnCurveAddTurn", spec := "fnCurveAddTurn", inPlace := ["slices.overlaps[loop.example/icecores/impl.Knot]"], unfollowed := true, recurses := true, apart := false }
def FnCurveAddTurnSaid : Prop := fnCurveAddTurnRow.holds Try.pinned (OpenSpec.ofChange fnCurveAddTurnSpec)

/-- ITS FALSE NEIGHBOUR: 'it returns false'. Refute it at one input. -/
def fnCurveAddTurnWrong : ChangeSpec := { name := "fnCurveAddTurn", fn := fun _ => fun
  | [d] => { results := [.lit (.bool false)], args := [d] }
  | _ => none }
def FnCurveAddTurnWrongFalsely : Prop := fnCurveAddTurnRow.holds Try.pinned (OpenSpec.ofChange fnCurveAddTurnWrong)

/-- 'laws.FnExactCurveLean': WHATEVER THE INPUT: true; the input reads as it did. -/
def fnExactCurveLeanSpec : ChangeSpec := { name := "fnExactCurveLean", fn := fun _ => fun
  | [d] => { results := [.lit (.bool true)], args := [d] }
  | _ => none }
def fnExactCurveLeanRow : OpenClaim := { program := "ythloecijjcodjaa", sum := "00385a88d1f7acce7712de33b37dad36f2ea32ebaf4156b2ee78d8ed1316349f", func := "loop.example/icecores/laws.FnExactCurveLean", spec := "fnExactCurveLean", apart := false }
def FnExactCurveLeanSaid : Prop := fnExactCurveLeanRow.holds Try.pinned (OpenSpec.ofChange fnExactCurveLeanSpec)

/-- ITS FALSE NEIGHBOUR: 'it returns false'. Refute it at one input. -/
def fnExactCurveLeanWrong : ChangeSpec := { name := "fnExactCurveLean", fn := fun _ => fun
  | [d] => { results := [.lit (.bool false)], args := [d] }
  | _ => none }
def FnExactCurveLeanWrongFalsely : Prop := fnExactCurveLeanRow.holds Try.pinned (OpenSpec.ofChange fnExactCurveLeanWrong)

/-- 'laws.FnLeanTurn': WHATEVER THE INPUT: true; the input reads as it did. -/
def fnLeanTurnSpec : ChangeSpec := { name := "fnLeanTurn", fn := fun _ => fun
  | [d] => { results := [.lit (.bool true)], args := [d] }
  | _ => none }
def fnLeanTurnRow : OpenClaim := { program := "ythloecijjcodjaa", sum := "00385a88d1f7acce7712de33b37dad36f2ea32ebaf4156b2ee78d8ed1316349f", func := "loop.example/icecores/laws.FnLeanTurn", spec := "fnLeanTurn", apart := false }
def FnLeanTurnSaid : Prop := fnLeanTurnRow.holds Try.pinned (OpenSpec.ofChange fnLeanTurnSpec)

/-- ITS FALSE NEIGHBOUR: 'it returns false'. Refute it at one input. -/
def fnLeanTurnWrong : ChangeSpec := { name := "fnLeanTurn", fn := fun _ => fun
  | [d] => { results := [.lit (.bool false)], args := [d] }
  | _ => none }
def FnLeanTurnWrongFalsely : Prop := fnLeanTurnRow.holds Try.pinned (OpenSpec.ofChange fnLeanTurnWrong)

/-- 'laws.FnLeanAdd': WHATEVER THE INPUT: true; the input reads as it did. -/
def fnLeanAddSpec : ChangeSpec := { name := "fnLeanAdd", fn := fun _ => fun
  | [d] => { results := [.lit (.bool true)], args := [d] }
  | _ => none }
def fnLeanAddRow : OpenClaim := { program := "ythloecijjcodjaa", sum := "00385a88d1f7acce7712de33b37dad36f2ea32ebaf4156b2ee78d8ed1316349f", func := "loop.example/icecores/laws.FnLeanAdd", spec := "fnLeanAdd", inPlace := ["slices.overlaps[loop.example/icecores/impl.Knot]"], unfollowed := true, recurses := true, apart := false }
def FnLeanAddSaid : Prop := fnLeanAddRow.holds Try.pinned (OpenSpec.ofChange fnLeanAddSpec)

/-- ITS FALSE NEIGHBOUR: 'it returns false'. Refute it at one input. -/
def fnLeanAddWrong : ChangeSpec := { name := "fnLeanAdd", fn := fun _ => fun
  | [d] => { results := [.lit (.bool false)], args := [d] }
  | _ => none }
def FnLeanAddWrongFalsely : Prop := fnLeanAddRow.holds Try.pinned (OpenSpec.ofChange fnLeanAddWrong)

/-- 'laws.FnCurveAddTwice': WHATEVER THE INPUT: true; the input reads as it did. -/
def fnCurveAddTwiceSpec : ChangeSpec := { name := "fnCurveAddTwice", fn := fun _ => fun
  | [d] => { results := [.lit (.bool true)], args := [d] }
  | _ => none }
def fnCurveAddTwiceRow : OpenClaim := { program := "ythloecijjcodjaa", sum := "00385a88d1f7acce7712de33b37dad36f2ea32ebaf4156b2ee78d8ed1316349f", func := "loop.example/icecores/laws.FnCurveAddTwice", spec := "fnCurveAddTwice", inPlace := ["slices.overlaps[loop.example/icecores/impl.Knot]"], unfollowed := true, recurses := true, apart := false }
def FnCurveAddTwiceSaid : Prop := fnCurveAddTwiceRow.holds Try.pinned (OpenSpec.ofChange fnCurveAddTwiceSpec)

/-- ITS FALSE NEIGHBOUR: 'it returns false'. Refute it at one input. -/
def fnCurveAddTwiceWrong : ChangeSpec := { name := "fnCurveAddTwice", fn := fun _ => fun
  | [d] => { results := [.lit (.bool false)], args := [d] }
  | _ => none }
def FnCurveAddTwiceWrongFalsely : Prop := fnCurveAddTwiceRow.holds Try.pinned (OpenSpec.ofChange fnCurveAddTwiceWrong)

/-- 'laws.FnExactCurveAdd': WHATEVER THE INPUT: true; the input reads as it did. -/
def fnExactCurveAddSpec : ChangeSpec := { name := "fnExactCurveAdd", fn := fun _ => fun
  | [d1, d2] => { results := [.lit (.bool true)], args := [d1, d2] }
  | _ => none }
def fnExactCurveAddRow : OpenClaim := { program := "ythloecijjcodjaa", sum := "00385a88d1f7acce7712de33b37dad36f2ea32ebaf4156b2ee78d8ed1316349f", func := "loop.example/icecores/laws.FnExactCurveAdd", spec := "fnExactCurveAdd", inPlace := ["slices.overlaps[loop.example/icecores/impl.Knot]"], unfollowed := true, recurses := true, apart := false }
def FnExactCurveAddSaid : Prop := fnExactCurveAddRow.holds Try.pinned (OpenSpec.ofChange fnExactCurveAddSpec)

/-- ITS FALSE NEIGHBOUR: 'it returns false'. Refute it at one input. -/
def fnExactCurveAddWrong : ChangeSpec := { name := "fnExactCurveAdd", fn := fun _ => fun
  | [d1, d2] => { results := [.lit (.bool false)], args := [d1, d2] }
  | _ => none }
def FnExactCurveAddWrongFalsely : Prop := fnExactCurveAddRow.holds Try.pinned (OpenSpec.ofChange fnExactCurveAddWrong)

/- THE SECOND FORM. 'bulk': how many values and letters a reading holds, each counted each time it is reached (what is shared counts as often as it is met; a slice's spare places count too). A statement '..UptoSaid' is the law's where the arguments, and the package variables that the reading takes, are together of bulk at most 1048576: NARROWER than '..Said'. Prove '..Said' where nothing that the law and all that it calls make is longer than what came in: it says more and counts as full. Else prove '..UptoSaid'. A law counts once. -/
mutual
def uptoBulk {H : Type} : DataW H → Nat
  | .lit (.string bytes) => bytes.length + 1
  | .lit _ => 1
  | .nil => 1
  | .ptr d => uptoBulk d + 1
  | .slice elems spare => uptoBulkAll elems + uptoBulkAll spare + 1
  | .agg parts => uptoBulkAll parts + 1
  | .iface _ d => uptoBulk d + 1
  | .map entries => uptoBulkEntries entries + 1
  | .held _ => 1
def uptoBulkAll {H : Type} : List (DataW H) → Nat
  | [] => 0
  | d :: r => uptoBulk d + uptoBulkAll r
def uptoBulkEntries {H : Type} : List (Lit × DataW H) → Nat
  | [] => 0
  | x :: r => uptoBulkEntry x + uptoBulkEntries r
def uptoBulkEntry {H : Type} : Lit × DataW H → Nat
  | (.string bytes, d) => bytes.length + uptoBulk d + 1
  | (_, d) => uptoBulk d + 1
 end
def uptoSmall : (H : Type) → List (DataW H) → Bool := fun _ ds => decide (uptoBulkAll ds ≤ 1048576)
def OpenSpec.upto (s : _root_.Go.ChangeSpec) : _root_.Go.OpenSpec := { _root_.Go.OpenSpec.ofChange s with cond := some uptoSmall }

/-- 'laws.FnExactCurveValid', WHERE WHAT IT READS IS OF BULK AT MOST 1048576: true; the input reads as it did. -/
def fnExactCurveValidUptoRow : OpenClaim := { program := "ythloecijjcodjaa", sum := "00385a88d1f7acce7712de33b37dad36f2ea32ebaf4156b2ee78d8ed1316349f", func := "loop.example/icecores/laws.FnExactCurveValid", spec := "fnExactCurveValid", apart := false, narrowed := true }
def FnExactCurveValidUptoSaid : Prop := fnExactCurveValidUptoRow.holds Try.pinned (OpenSpec.upto fnExactCurveValidSpec)

/-- 'laws.FnCurve', WHERE WHAT IT READS IS OF BULK AT MOST 1048576: true; the input reads as it did. -/
def fnCurveUptoRow : OpenClaim := { program := "ythloecijjcodjaa", sum := "00385a88d1f7acce7712de33b37dad36f2ea32ebaf4156b2ee78d8ed1316349f", func := "loop.example/icecores/laws.FnCurve", spec := "fnCurve", apart := false, narrowed := true }
def FnCurveUptoSaid : Prop := fnCurveUptoRow.holds Try.pinned (OpenSpec.upto fnCurveSpec)

/-- 'laws.FnCurveTurn', WHERE WHAT IT READS IS OF BULK AT MOST 1048576: true; the input reads as it did. -/
def fnCurveTurnUptoRow : OpenClaim := { program := "ythloecijjcodjaa", sum := "00385a88d1f7acce7712de33b37dad36f2ea32ebaf4156b2ee78d8ed1316349f", func := "loop.example/icecores/laws.FnCurveTurn", spec := "fnCurveTurn", apart := false, narrowed := true }
def FnCurveTurnUptoSaid : Prop := fnCurveTurnUptoRow.holds Try.pinned (OpenSpec.upto fnCurveTurnSpec)

/-- 'laws.FnExactCurveTurn', WHERE WHAT IT READS IS OF BULK AT MOST 1048576: true; the input reads as it did. -/
def fnExactCurveTurnUptoRow : OpenClaim := { program := "ythloecijjcodjaa", sum := "00385a88d1f7acce7712de33b37dad36f2ea32ebaf4156b2ee78d8ed1316349f", func := "loop.example/icecores/laws.FnExactCurveTurn", spec := "fnExactCurveTurn", apart := false, narrowed := true }
def FnExactCurveTurnUptoSaid : Prop := fnExactCurveTurnUptoRow.holds Try.pinned (OpenSpec.upto fnExactCurveTurnSpec)

/-- 'laws.FnCurveAddTurn', WHERE WHAT IT READS IS OF BULK AT MOST 1048576: true; the input reads as it did. -/
def fnCurveAddTurnUptoRow : OpenClaim := { program := "ythloecijjcodjaa", sum := "00385a88d1f7acce7712de33b37dad36f2ea32ebaf4156b2ee78d8ed1316349f", func := "loop.example/icecores/laws.FnCurveAddTurn", spec := "fnCurveAddTurn", inPlace := ["slices.overlaps[loop.example/icecores/impl.Knot]"], unfollowed := true, recurses := true, apart := false, narrowed := true }
def FnCurveAddTurnUptoSaid : Prop := fnCurveAddTurnUptoRow.holds Try.pinned (OpenSpec.upto fnCurveAddTurnSpec)

/-- 'laws.FnExactCurveLean', WHERE WHAT IT READS IS OF BULK AT MOST 1048576: true; the input reads as it did. -/
def fnExactCurveLeanUptoRow : OpenClaim := { program := "ythloecijjcodjaa", sum := "00385a88d1f7acce7712de33b37dad36f2ea32ebaf4156b2ee78d8ed1316349f", func := "loop.example/icecores/laws.FnExactCurveLean", spec := "fnExactCurveLean", apart := false, narrowed := true }
def FnExactCurveLeanUptoSaid : Prop := fnExactCurveLeanUptoRow.holds Try.pinned (OpenSpec.upto fnExactCurveLeanSpec)

/-- 'laws.FnLeanTurn', WHERE WHAT IT READS IS OF BULK AT MOST 1048576: true; the input reads as it did. -/
def fnLeanTurnUptoRow : OpenClaim := { program := "ythloecijjcodjaa", sum := "00385a88d1f7acce7712de33b37dad36f2ea32ebaf4156b2ee78d8ed1316349f", func := "loop.example/icecores/laws.FnLeanTurn", spec := "fnLeanTurn", apart := false, narrowed := true }
def FnLeanTurnUptoSaid : Prop := fnLeanTurnUptoRow.holds Try.pinned (OpenSpec.upto fnLeanTurnSpec)

/-- 'laws.FnLeanAdd', WHERE WHAT IT READS IS OF BULK AT MOST 1048576: true; the input reads as it did. -/
def fnLeanAddUptoRow : OpenClaim := { program := "ythloecijjcodjaa", sum := "00385a88d1f7acce7712de33b37dad36f2ea32ebaf4156b2ee78d8ed1316349f", func := "loop.example/icecores/laws.FnLeanAdd", spec := "fnLeanAdd", inPlace := ["slices.overlaps[loop.example/icecores/impl.Knot]"], unfollowed := true, recurses := true, apart := false, narrowed := true }
def FnLeanAddUptoSaid : Prop := fnLeanAddUptoRow.holds Try.pinned (OpenSpec.upto fnLeanAddSpec)

/-- 'laws.FnCurveAddTwice', WHERE WHAT IT READS IS OF BULK AT MOST 1048576: true; the input reads as it did. -/
def fnCurveAddTwiceUptoRow : OpenClaim := { program := "ythloecijjcodjaa", sum := "00385a88d1f7acce7712de33b37dad36f2ea32ebaf4156b2ee78d8ed1316349f", func := "loop.example/icecores/laws.FnCurveAddTwice", spec := "fnCurveAddTwice", inPlace := ["slices.overlaps[loop.example/icecores/impl.Knot]"], unfollowed := true, recurses := true, apart := false, narrowed := true }
def FnCurveAddTwiceUptoSaid : Prop := fnCurveAddTwiceUptoRow.holds Try.pinned (OpenSpec.upto fnCurveAddTwiceSpec)

/-- 'laws.FnExactCurveAdd', WHERE WHAT IT READS IS OF BULK AT MOST 1048576: true; the input reads as it did. -/
def fnExactCurveAddUptoRow : OpenClaim := { program := "ythloecijjcodjaa", sum := "00385a88d1f7acce7712de33b37dad36f2ea32ebaf4156b2ee78d8ed1316349f", func := "loop.example/icecores/laws.FnExactCurveAdd", spec := "fnExactCurveAdd", inPlace := ["slices.overlaps[loop.example/icecores/impl.Knot]"], unfollowed := true, recurses := true, apart := false, narrowed := true }
def FnExactCurveAddUptoSaid : Prop := fnExactCurveAddUptoRow.holds Try.pinned (OpenSpec.upto fnExactCurveAddSpec)

end Rows
end Go.Proofs.Ythloecijjcodjaa
