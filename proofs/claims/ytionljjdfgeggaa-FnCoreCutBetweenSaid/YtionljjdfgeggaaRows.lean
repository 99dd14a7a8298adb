/-
  No cell of these rows narrows 'for every input' (looked for: loops, veiled, ifaces, maps, wideKeys, modest, calm, conditions, laid).
  DERIVED. THE GIVEN ROWS OF THIS SEAT. 10 by the template 'for every input the law returns true; each argument reads behind the call as it read before'; 0 by the template 'total and deterministic' (their statements: YtionljjdfgeggaaTotals.lean).
  GIVEN WITH THE SEED: the statements are not yours to turn. If you find one false, say at which input.
  Laid BY PROGRAM, IN A SANDBOX (cutbox-rows.mjs): the forced cells as the released guide's own fill.sh prints them over the translation 0402df1710f23ee3… (all of the seat's roots in one cut). By AI agents, Wed Nov 11 2026. No macro, syntax, notation, axiom, sorry.
-/
import Derived.Test.YtionljjdfgeggaaChecked
import GoSem.Claim
import GoSem.ClaimJoined
import GoSem.ClaimMapViews
import Derived.JoinedTies
import Derived.KernelRfl
namespace Go.Proofs.Ytionljjdfgeggaa
/- THE CELL 'sum', in the pinned program and in every row, IS THE sha256 OF THE DUMP (.gsa) THAT YtionljjdfgeggaaProg.lean LOADS. Nothing in Lean hashes anything: it is a label: what it is worth is what the hold of that sum in a sandbox is worth. -/
noncomputable def Try.pinned : Pinned := { name := "ytionljjdfgeggaa", sum := "0402df1710f23ee3bfdbe12a9ce16275060061e1575d5f8b51d255802c26b7fe", checked := Try.checked }
namespace Rows
def none {H : Type} : Left H := { results := [], args := [] }

/-- 'laws.FnCoreBetweenAll': WHATEVER THE INPUT: true; the input reads as it did. -/
def fnCoreBetweenAllSpec : ChangeSpec := { name := "fnCoreBetweenAll", fn := fun _ => fun
  | [d] => { results := [.lit (.bool true)], args := [d] }
  | _ => none }
def fnCoreBetweenAllRow : OpenClaim := { program := "ytionljjdfgeggaa", sum := "0402df1710f23ee3bfdbe12a9ce16275060061e1575d5f8b51d255802c26b7fe", func := "loop.example/icecores/laws.FnCoreBetweenAll", spec := "fnCoreBetweenAll", apart := false }
def FnCoreBetweenAllSaid : Prop := fnCoreBetweenAllRow.holds Try.pinned (OpenSpec.ofChange fnCoreBetweenAllSpec)

/-- ITS FALSE NEIGHBOUR: 'it returns false'. Refute it at one input. -/
def fnCoreBetweenAllWrong : ChangeSpec := { name := "fnCoreBetweenAll", fn := fun _ => fun
  | [d] => { results := [.lit (.bool false)], args := [d] }
  | _ => none }
def FnCoreBetweenAllWrongFalsely : Prop := fnCoreBetweenAllRow.holds Try.pinned (OpenSpec.ofChange fnCoreBetweenAllWrong)

/-- 'laws.FnCoreBetweenTwice': WHATEVER THE INPUT: true; the input reads as it did. -/
def fnCoreBetweenTwiceSpec : ChangeSpec := { name := "fnCoreBetweenTwice", fn := fun _ => fun
  | [d1, d2] => { results := [.lit (.bool true)], args := [d1, d2] }
  | _ => none }
def fnCoreBetweenTwiceRow : OpenClaim := { program := "ytionljjdfgeggaa", sum := "0402df1710f23ee3bfdbe12a9ce16275060061e1575d5f8b51d255802c26b7fe", func := "loop.example/icecores/laws.FnCoreBetweenTwice", spec := "fnCoreBetweenTwice", apart := false }
def FnCoreBetweenTwiceSaid : Prop := fnCoreBetweenTwiceRow.holds Try.pinned (OpenSpec.ofChange fnCoreBetweenTwiceSpec)

/-- ITS FALSE NEIGHBOUR: 'it returns false'. Refute it at one input. -/
def fnCoreBetweenTwiceWrong : ChangeSpec := { name := "fnCoreBetweenTwice", fn := fun _ => fun
  | [d1, d2] => { results := [.lit (.bool false)], args := [d1, d2] }
  | _ => none }
def FnCoreBetweenTwiceWrongFalsely : Prop := fnCoreBetweenTwiceRow.holds Try.pinned (OpenSpec.ofChange fnCoreBetweenTwiceWrong)

/-- 'laws.FnCoreBetweenSplit': WHATEVER THE INPUT: true; the input reads as it did. -/
def fnCoreBetweenSplitSpec : ChangeSpec := { name := "fnCoreBetweenSplit", fn := fun _ => fun
  | [d1, d2] => { results := [.lit (.bool true)], args := [d1, d2] }
  | _ => none }
def fnCoreBetweenSplitRow : OpenClaim := { program := "ytionljjdfgeggaa", sum := "0402df1710f23ee3bfdbe12a9ce16275060061e1575d5f8b51d255802c26b7fe", func := "loop.example/icecores/laws.FnCoreBetweenSplit", spec := "fnCoreBetweenSplit", apart := false }
def FnCoreBetweenSplitSaid : Prop := fnCoreBetweenSplitRow.holds Try.pinned (OpenSpec.ofChange fnCoreBetweenSplitSpec)

/-- ITS FALSE NEIGHBOUR: 'it returns false'. Refute it at one input. -/
def fnCoreBetweenSplitWrong : ChangeSpec := { name := "fnCoreBetweenSplit", fn := fun _ => fun
  | [d1, d2] => { results := [.lit (.bool false)], args := [d1, d2] }
  | _ => none }
def FnCoreBetweenSplitWrongFalsely : Prop := fnCoreBetweenSplitRow.holds Try.pinned (OpenSpec.ofChange fnCoreBetweenSplitWrong)

/-- 'laws.FnCoreBetween': WHATEVER THE INPUT: true; the input reads as it did. -/
def fnCoreBetweenSpec : ChangeSpec := { name := "fnCoreBetween", fn := fun _ => fun
  | [d1, d2] => { results := [.lit (.bool true)], args := [d1, d2] }
  | _ => none }
def fnCoreBetweenRow : OpenClaim := { program := "ytionljjdfgeggaa", sum := "0402df1710f23ee3bfdbe12a9ce16275060061e1575d5f8b51d255802c26b7fe", func := "loop.example/icecores/laws.FnCoreBetween", spec := "fnCoreBetween", apart := false }
def FnCoreBetweenSaid : Prop := fnCoreBetweenRow.holds Try.pinned (OpenSpec.ofChange fnCoreBetweenSpec)

/-- ITS FALSE NEIGHBOUR: 'it returns false'. Refute it at one input. -/
def fnCoreBetweenWrong : ChangeSpec := { name := "fnCoreBetween", fn := fun _ => fun
  | [d1, d2] => { results := [.lit (.bool false)], args := [d1, d2] }
  | _ => none }
def FnCoreBetweenWrongFalsely : Prop := fnCoreBetweenRow.holds Try.pinned (OpenSpec.ofChange fnCoreBetweenWrong)

/-- 'laws.FnCoreJoinHas': WHATEVER THE INPUT: true; the input reads as it did. -/
def fnCoreJoinHasSpec : ChangeSpec := { name := "fnCoreJoinHas", fn := fun _ => fun
  | [d1, d2] => { results := [.lit (.bool true)], args := [d1, d2] }
  | _ => none }
def fnCoreJoinHasRow : OpenClaim := { program := "ytionljjdfgeggaa", sum := "0402df1710f23ee3bfdbe12a9ce16275060061e1575d5f8b51d255802c26b7fe", func := "loop.example/icecores/laws.FnCoreJoinHas", spec := "fnCoreJoinHas", unfollowed := true, recurses := true, apart := false }
def FnCoreJoinHasSaid : Prop := fnCoreJoinHasRow.holds Try.pinned (OpenSpec.ofChange fnCoreJoinHasSpec)

/-- ITS FALSE NEIGHBOUR: 'it returns false'. Refute it at one input. -/
def fnCoreJoinHasWrong : ChangeSpec := { name := "fnCoreJoinHas", fn := fun _ => fun
  | [d1, d2] => { results := [.lit (.bool false)], args := [d1, d2] }
  | _ => none }
def FnCoreJoinHasWrongFalsely : Prop := fnCoreJoinHasRow.holds Try.pinned (OpenSpec.ofChange fnCoreJoinHasWrong)

/-- 'laws.FnCoreJoin': WHATEVER THE INPUT: true; the input reads as it did. -/
def fnCoreJoinSpec : ChangeSpec := { name := "fnCoreJoin", fn := fun _ => fun
  | [d] => { results := [.lit (.bool true)], args := [d] }
  | _ => none }
def fnCoreJoinRow : OpenClaim := { program := "ytionljjdfgeggaa", sum := "0402df1710f23ee3bfdbe12a9ce16275060061e1575d5f8b51d255802c26b7fe", func := "loop.example/icecores/laws.FnCoreJoin", spec := "fnCoreJoin", apart := false }
def FnCoreJoinSaid : Prop := fnCoreJoinRow.holds Try.pinned (OpenSpec.ofChange fnCoreJoinSpec)

/-- ITS FALSE NEIGHBOUR: 'it returns false'. Refute it at one input. -/
def fnCoreJoinWrong : ChangeSpec := { name := "fnCoreJoin", fn := fun _ => fun
  | [d] => { results := [.lit (.bool false)], args := [d] }
  | _ => none }
def FnCoreJoinWrongFalsely : Prop := fnCoreJoinRow.holds Try.pinned (OpenSpec.ofChange fnCoreJoinWrong)

/-- 'laws.FnExactCoreCut': WHATEVER THE INPUT: true; the input reads as it did. -/
def fnExactCoreCutSpec : ChangeSpec := { name := "fnExactCoreCut", fn := fun _ => fun
  | [d1, d2] => { results := [.lit (.bool true)], args := [d1, d2] }
  | _ => none }
def fnExactCoreCutRow : OpenClaim := { program := "ytionljjdfgeggaa", sum := "0402df1710f23ee3bfdbe12a9ce16275060061e1575d5f8b51d255802c26b7fe", func := "loop.example/icecores/laws.FnExactCoreCut", spec := "fnExactCoreCut", inPlace := ["slices.overlaps[loop.example/icecores/impl.Piece]"], unfollowed := true, recurses := true, apart := false }
def FnExactCoreCutSaid : Prop := fnExactCoreCutRow.holds Try.pinned (OpenSpec.ofChange fnExactCoreCutSpec)

/-- ITS FALSE NEIGHBOUR: 'it returns false'. Refute it at one input. -/
def fnExactCoreCutWrong : ChangeSpec := { name := "fnExactCoreCut", fn := fun _ => fun
  | [d1, d2] => { results := [.lit (.bool false)], args := [d1, d2] }
  | _ => none }
def FnExactCoreCutWrongFalsely : Prop := fnExactCoreCutRow.holds Try.pinned (OpenSpec.ofChange fnExactCoreCutWrong)

/-- 'laws.FnCoreCutHas': WHATEVER THE INPUT: true; the input reads as it did. -/
def fnCoreCutHasSpec : ChangeSpec := { name := "fnCoreCutHas", fn := fun _ => fun
  | [d1, d2] => { results := [.lit (.bool true)], args := [d1, d2] }
  | _ => none }
def fnCoreCutHasRow : OpenClaim := { program := "ytionljjdfgeggaa", sum := "0402df1710f23ee3bfdbe12a9ce16275060061e1575d5f8b51d255802c26b7fe", func := "loop.example/icecores/laws.FnCoreCutHas", spec := "fnCoreCutHas", inPlace := ["slices.overlaps[loop.example/icecores/impl.Piece]"], unfollowed := true, recurses := true, apart := false }
def FnCoreCutHasSaid : Prop := fnCoreCutHasRow.holds Try.pinned (OpenSpec.ofChange fnCoreCutHasSpec)

/-- ITS FALSE NEIGHBOUR: 'it returns false'. Refute it at one input. -/
def fnCoreCutHasWrong : ChangeSpec := { name := "fnCoreCutHas", fn := fun _ => fun
  | [d1, d2] => { results := [.lit (.bool false)], args := [d1, d2] }
  | _ => none }
def FnCoreCutHasWrongFalsely : Prop := fnCoreCutHasRow.holds Try.pinned (OpenSpec.ofChange fnCoreCutHasWrong)

/-- 'laws.FnCoreCutBetween': WHATEVER THE INPUT: true; the input reads as it did. -/
def fnCoreCutBetweenSpec : ChangeSpec := { name := "fnCoreCutBetween", fn := fun _ => fun
  | [d] => { results := [.lit (.bool true)], args := [d] }
  | _ => none }
def fnCoreCutBetweenRow : OpenClaim := { program := "ytionljjdfgeggaa", sum := "0402df1710f23ee3bfdbe12a9ce16275060061e1575d5f8b51d255802c26b7fe", func := "loop.example/icecores/laws.FnCoreCutBetween", spec := "fnCoreCutBetween", inPlace := ["slices.overlaps[loop.example/icecores/impl.Piece]"], unfollowed := true, recurses := true, apart := false }
def FnCoreCutBetweenSaid : Prop := fnCoreCutBetweenRow.holds Try.pinned (OpenSpec.ofChange fnCoreCutBetweenSpec)

/-- ITS FALSE NEIGHBOUR: 'it returns false'. Refute it at one input. -/
def fnCoreCutBetweenWrong : ChangeSpec := { name := "fnCoreCutBetween", fn := fun _ => fun
  | [d] => { results := [.lit (.bool false)], args := [d] }
  | _ => none }
def FnCoreCutBetweenWrongFalsely : Prop := fnCoreCutBetweenRow.holds Try.pinned (OpenSpec.ofChange fnCoreCutBetweenWrong)

/-- 'laws.FnCoreCut': WHATEVER THE INPUT: true; the input reads as it did. -/
def fnCoreCutSpec : ChangeSpec := { name := "fnCoreCut", fn := fun _ => fun
  | [d] => { results := [.lit (.bool true)], args := [d] }
  | _ => none }
def fnCoreCutRow : OpenClaim := { program := "ytionljjdfgeggaa", sum := "0402df1710f23ee3bfdbe12a9ce16275060061e1575d5f8b51d255802c26b7fe", func := "loop.example/icecores/laws.FnCoreCut", spec := "fnCoreCut", inPlace := ["slices.overlaps[loop.example/icecores/impl.Piece]"], unfollowed := true, recurses := true, apart := false }
def FnCoreCutSaid : Prop := fnCoreCutRow.holds Try.pinned (OpenSpec.ofChange fnCoreCutSpec)

/-- ITS FALSE NEIGHBOUR: 'it returns false'. Refute it at one input. -/
def fnCoreCutWrong : ChangeSpec := { name := "fnCoreCut", fn := fun _ => fun
  | [d] => { results := [.lit (.bool false)], args := [d] }
  | _ => none }
def FnCoreCutWrongFalsely : Prop := fnCoreCutRow.holds Try.pinned (OpenSpec.ofChange fnCoreCutWrong)

/- THE SECOND FORM. 'bulk': how many values and letters a reading holds, each counted each time it is reached (what is shared counts as often as it is met; a slice's spare places count too). A statement '..UptoSaid' is the law's where the arguments, and the package variables that the reading takes, are together of bulk at most 1048576: NARROWER than '..Said'. Prove '..Said' where nothing that the law and all that it calls make is longer than what came in: it says more and counts as full. Else prove '..UptoSaid'. A law counts once. -/
mutual
def uptoBulk {H : Type} : DataW H → Nat
  | .lit (.string bytes) => bytes.length + 1
  | .lit _ => 1
  | .nil => 1
  | .ptr d => uptoBulk d + 1
  | .slice elems spare => uptoBulkAll elems + uptoBulkAll spare + 1
  | .agg parts => uptoBulkAll parts + 1
  | .iface _ d => uptoBulk d + 1
  | .map entries => uptoBulkEntries entries + 1
  | .held _ => 1
def uptoBulkAll {H : Type} : List (DataW H) → Nat
  | [] => 0
  | d :: r => uptoBulk d + uptoBulkAll r
def uptoBulkEntries {H : Type} : List (Lit × DataW H) → Nat
  | [] => 0
  | x :: r => uptoBulkEntry x + uptoBulkEntries r
def uptoBulkEntry {H : Type} : Lit × DataW H → Nat
  | (.string bytes, d) => bytes.length + uptoBulk d + 1
  | (_, d) => uptoBulk d + 1
 end
def uptoSmall : (H : Type) → List (DataW H) → Bool := fun _ ds => decide (uptoBulkAll ds ≤ 1048576)
def OpenSpec.upto (s : _root_.Go.ChangeSpec) : _root_.Go.OpenSpec := { _root_.Go.OpenSpec.ofChange s with cond := some uptoSmall }

/-- 'laws.FnCoreBetweenAll', WHERE WHAT IT READS IS OF BULK AT MOST 1048576: true; the input reads as it did. -/
def fnCoreBetweenAllUptoRow : OpenClaim := { program := "ytionljjdfgeggaa", sum := "0402df1710f23ee3bfdbe12a9ce16275060061e1575d5f8b51d255802c26b7fe", func := "loop.example/icecores/laws.FnCoreBetweenAll", spec := "fnCoreBetweenAll", apart := false, narrowed := true }
def FnCoreBetweenAllUptoSaid : Prop := fnCoreBetweenAllUptoRow.holds Try.pinned (OpenSpec.upto fnCoreBetweenAllSpec)

/-- 'laws.FnCoreBetweenTwice', WHERE WHAT IT READS IS OF BULK AT MOST 1048576: true; the input reads as it did. -/
def fnCoreBetweenTwiceUptoRow : OpenClaim := { program := "ytionljjdfgeggaa", sum := "0402df1710f23ee3bfdbe12a9ce16275060061e1575d5f8b51d255802c26b7fe", func := "loop.example/icecores/laws.FnCoreBetweenTwice", spec := "fnCoreBetweenTwice", apart := false, narrowed := true }
def FnCoreBetweenTwiceUptoSaid : Prop := fnCoreBetweenTwiceUptoRow.holds Try.pinned (OpenSpec.upto fnCoreBetweenTwiceSpec)

/-- 'laws.FnCoreBetweenSplit', WHERE WHAT IT READS IS OF BULK AT MOST 1048576: true; the input reads as it did. -/
def fnCoreBetweenSplitUptoRow : OpenClaim := { program := "ytionljjdfgeggaa", sum := "0402df1710f23ee3bfdbe12a9ce16275060061e1575d5f8b51d255802c26b7fe", func := "loop.example/icecores/laws.FnCoreBetweenSplit", spec := "fnCoreBetweenSplit", apart := false, narrowed := true }
def FnCoreBetweenSplitUptoSaid : Prop := fnCoreBetweenSplitUptoRow.holds Try.pinned (OpenSpec.upto fnCoreBetweenSplitSpec)

/-- 'laws.FnCoreBetween', WHERE WHAT IT READS IS OF BULK AT MOST 1048576: true; the input reads as it did. -/
def fnCoreBetweenUptoRow : OpenClaim := { program := "ytionljjdfgeggaa", sum := "0402df1710f23ee3bfdbe12a9ce16275060061e1575d5f8b51d255802c26b7fe", func := "loop.example/icecores/laws.FnCoreBetween", spec := "fnCoreBetween", apart := false, narrowed := true }
def FnCoreBetweenUptoSaid : Prop := fnCoreBetweenUptoRow.holds Try.pinned (OpenSpec.upto fnCoreBetweenSpec)

/-- 'laws.FnCoreJoinHas', WHERE WHAT IT READS IS OF BULK AT MOST 1048576: true; the input reads as it did. -/
def fnCoreJoinHasUptoRow : OpenClaim := { program := "ytionljjdfgeggaa", sum := "0402df1710f23ee3bfdbe12a9ce16275060061e1575d5f8b51d255802c26b7fe", func := "loop.example/icecores/laws.FnCoreJoinHas", spec := "fnCoreJoinHas", unfollowed := true, recurses := true, apart := false, narrowed := true }
def FnCoreJoinHasUptoSaid : Prop := fnCoreJoinHasUptoRow.holds Try.pinned (OpenSpec.upto fnCoreJoinHasSpec)

/-- 'laws.FnCoreJoin', WHERE WHAT IT READS IS OF BULK AT MOST 1048576: true; the input reads as it did. -/
def fnCoreJoinUptoRow : OpenClaim := { program := "ytionljjdfgeggaa", sum := "0402df1710f23ee3bfdbe12a9ce16275060061e1575d5f8b51d255802c26b7fe", func := "loop.example/icecores/laws.FnCoreJoin", spec := "fnCoreJoin", apart := false, narrowed := true }
def FnCoreJoinUptoSaid : Prop := fnCoreJoinUptoRow.holds Try.pinned (OpenSpec.upto fnCoreJoinSpec)

/-- 'laws.FnExactCoreCut', WHERE WHAT IT READS IS OF BULK AT MOST 1048576: true; the input reads as it did. -/
def fnExactCoreCutUptoRow : OpenClaim := { program := "ytionljjdfgeggaa", sum := "0402df1710f23ee3bfdbe12a9ce16275060061e1575d5f8b51d255802c26b7fe", func := "loop.example/icecores/laws.FnExactCoreCut", spec := "fnExactCoreCut", inPlace := ["slices.overlaps[loop.example/icecores/impl.Piece]"], unfollowed := true, recurses := true, apart := false, narrowed := true }
def FnExactCoreCutUptoSaid : Prop := fnExactCoreCutUptoRow.holds Try.pinned (OpenSpec.upto fnExactCoreCutSpec)

/-- 'laws.FnCoreCutHas', WHERE WHAT IT READS IS OF BULK AT MOST 1048576: true; the input reads as it did. -/
def fnCoreCutHasUptoRow : OpenClaim := { program := "ytionljjdfgeggaa", sum := "0402df1710f23ee3bfdbe12a9ce16275060061e1575d5f8b51d255802c26b7fe", func := "loop.example/icecores/laws.FnCoreCutHas", spec := "fnCoreCutHas", inPlace := ["slices.overlaps[loop.example/icecores/impl.Piece]"], unfollowed := true, recurses := true, apart := false, narrowed := true }
def FnCoreCutHasUptoSaid : Prop := fnCoreCutHasUptoRow.holds Try.pinned (OpenSpec.upto fnCoreCutHasSpec)

/-- 'laws.FnCoreCutBetween', WHERE WHAT IT READS IS OF BULK AT MOST 1048576: true; the input reads as it did. -/
def fnCoreCutBetweenUptoRow : OpenClaim := { program := "ytionljjdfgeggaa", sum := "0402df1710f23ee3bfdbe12a9ce16275060061e1575d5f8b51d255802c26b7fe", func := "loop.example/icecores/laws.FnCoreCutBetween", spec := "fnCoreCutBetween", inPlace := ["slices.overlaps[loop.example/icecores/impl.Piece]"], unfollowed := true, recurses := true, apart := false, narrowed := true }
def FnCoreCutBetweenUptoSaid : Prop := fnCoreCutBetweenUptoRow.holds Try.pinned (OpenSpec.upto fnCoreCutBetweenSpec)

/-- 'laws.FnCoreCut', WHERE WHAT IT READS IS OF BULK AT MOST 1048576: true; the input reads as it did. -/
def fnCoreCutUptoRow : OpenClaim := { program := "ytionljjdfgeggaa", sum := "0402df1710f23ee3bfdbe12a9ce16275060061e1575d5f8b51d255802c26b7fe", func := "loop.example/icecores/laws.FnCoreCut", spec := "fnCoreCut", inPlace := ["slices.overlaps[loop.example/icecores/impl.Piece]"], unfollowed := true, recurses := true, apart := false, narrowed := true }
def FnCoreCutUptoSaid : Prop := fnCoreCutUptoRow.holds Try.pinned (OpenSpec.upto fnCoreCutSpec)

end Rows
end Go.Proofs.Ytionljjdfgeggaa
