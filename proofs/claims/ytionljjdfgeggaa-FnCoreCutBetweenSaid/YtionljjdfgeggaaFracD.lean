/-
  The contracts of the functions on fractions, in the plain machine's words.
-/
import Derived.Test.YtionljjdfgeggaaTy
import Derived.Test.YtionljjdfgeggaaPureQ
namespace Go.Proofs.Ytionljjdfgeggaa
open Go.RowKit
set_option linter.unusedVariables false

abbrev vF (n d : Int) : Value := .agg #[.int .i64 n, .int .i64 d]
abbrev rF (o : Fr) : RD := .tup [.v (vF (fN o) (fD o)), .v (.bool (fOk o))]
def gOf : List AD → Option RD
  | [.v (.int .i64 a), .v (.int .i64 b)] => some (rF (ofF a b))
  | _ => none
def gAdd : List AD → Option RD
  | [.v (.agg ⟨[.int .i64 a, .int .i64 b]⟩), .v (.agg ⟨[.int .i64 c, .int .i64 d]⟩)] => some (rF (addF (a, b) (c, d)))
  | _ => none
def gSub : List AD → Option RD
  | [.v (.agg ⟨[.int .i64 a, .int .i64 b]⟩), .v (.agg ⟨[.int .i64 c, .int .i64 d]⟩)] => some (rF (subF (a, b) (c, d)))
  | _ => none
def gMul : List AD → Option RD
  | [.v (.agg ⟨[.int .i64 a, .int .i64 b]⟩), .v (.agg ⟨[.int .i64 c, .int .i64 d]⟩)] => some (rF (mulF (a, b) (c, d)))
  | _ => none
def gDiv : List AD → Option RD
  | [.v (.agg ⟨[.int .i64 a, .int .i64 b]⟩), .v (.agg ⟨[.int .i64 c, .int .i64 d]⟩)] => some (rF (divF (a, b) (c, d)))
  | _ => none
def gLess : List AD → Option RD
  | [.v (.agg ⟨[.int .i64 a, .int .i64 b]⟩), .v (.agg ⟨[.int .i64 c, .int .i64 d]⟩)] => some (.one (.v (.bool (ltF (a, b) (c, d)))))
  | _ => none
end Go.Proofs.Ytionljjdfgeggaa
