/-
  The types of this seat as the plain machine knows them.
-/
import Derived.Test.YtionljjdfgeggaaDen4
namespace Go.Proofs.Ytionljjdfgeggaa
open Go.RowKit
def tau : List (Nat × TK) := [(3, .int), (4, .bool), (38, .pair), (59, .pair), (23, .sl 38), (65, .sl 3), (40, .sl 59), (22, .sl 5)]
theorem tauOK : TyOK Try.prog tau := by
  unfold tau
  refine TyOK.cons (TInt.of (by kernel_rfl) (by kernel_rfl)) ?_
  refine TyOK.cons (show Try.prog.underlying 4 = some .bool from by kernel_rfl) ?_
  refine TyOK.cons (TPair.of Try.underlying38 rfl rfl (by decide) (by decide) (by kernel_rfl) (by kernel_rfl) (by kernel_rfl) (by kernel_rfl) (by kernel_rfl) (by kernel_rfl) (by kernel_rfl)) ?_
  refine TyOK.cons (TPair.of Try.underlying59 rfl rfl (by decide) (by decide) (by kernel_rfl) (by kernel_rfl) (by kernel_rfl) (by kernel_rfl) (by kernel_rfl) (by kernel_rfl) (by kernel_rfl)) ?_
  refine TyOK.cons (show Try.prog.underlying 23 = some (.slice 38) from by kernel_rfl) ?_
  refine TyOK.cons (show Try.prog.underlying 65 = some (.slice 3) from by kernel_rfl) ?_
  refine TyOK.cons (show Try.prog.underlying 40 = some (.slice 59) from by kernel_rfl) ?_
  refine TyOK.cons (show Try.prog.underlying 22 = some (.slice 5) from by kernel_rfl) ?_
  exact TyOK.nil
theorem mixed : Try.prog.follows .mixedOrders = true := by kernel_rfl
end Go.Proofs.Ytionljjdfgeggaa
