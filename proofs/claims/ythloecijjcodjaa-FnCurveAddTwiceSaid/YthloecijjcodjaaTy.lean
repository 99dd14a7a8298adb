/-
  The types of this seat as the plain machine knows them.
-/
import Derived.Test.YthloecijjcodjaaDen4
namespace Go.Proofs.Ythloecijjcodjaa
open Go.RowKit
def tau : List (Nat × TK) := [(3, .int), (4, .bool), (32, .pair), (41, .pair), (25, .sl 32), (22, .sl 41), (29, .sl 5)]
theorem tauOK : TyOK Try.prog tau := by
  unfold tau
  refine TyOK.cons (TInt.of (by kernel_rfl) (by kernel_rfl)) ?_
  refine TyOK.cons (show Try.prog.underlying 4 = some .bool from by kernel_rfl) ?_
  refine TyOK.cons (TPair.of Try.underlying32 rfl rfl (by decide) (by decide) (by kernel_rfl) (by kernel_rfl) (by kernel_rfl) (by kernel_rfl) (by kernel_rfl) (by kernel_rfl) (by kernel_rfl)) ?_
  refine TyOK.cons (TPair.of Try.underlying41 rfl rfl (by decide) (by decide) (by kernel_rfl) (by kernel_rfl) (by kernel_rfl) (by kernel_rfl) (by kernel_rfl) (by kernel_rfl) (by kernel_rfl)) ?_
  refine TyOK.cons (show Try.prog.underlying 25 = some (.slice 32) from by kernel_rfl) ?_
  refine TyOK.cons (show Try.prog.underlying 22 = some (.slice 41) from by kernel_rfl) ?_
  refine TyOK.cons (show Try.prog.underlying 29 = some (.slice 5) from by kernel_rfl) ?_
  exact TyOK.nil
theorem mixed : Try.prog.follows .mixedOrders = true := by kernel_rfl
end Go.Proofs.Ythloecijjcodjaa
