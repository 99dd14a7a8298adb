/-
  The types of this seat as the plain machine knows them.
-/
import Derived.Test.YtidcomcnieggaaaDen4
namespace Go.Proofs.Ytidcomcnieggaaa
open Go.RowKit
def tau : List (Nat × TK) := [(3, .int), (4, .bool), (32, .pair), (25, .pair), (68, .pair), (23, .sl 25), (77, .sl 3), (44, .sl 68), (22, .sl 5)]
theorem tauOK : TyOK Try.prog tau := by
  unfold tau
  refine TyOK.cons (TInt.of (by kernel_rfl) (by kernel_rfl)) ?_
  refine TyOK.cons (show Try.prog.underlying 4 = some .bool from by kernel_rfl) ?_
  refine TyOK.cons (TPair.of Try.underlying32 rfl rfl (by decide) (by decide) (by kernel_rfl) (by kernel_rfl) (by kernel_rfl) (by kernel_rfl) (by kernel_rfl) (by kernel_rfl) (by kernel_rfl)) ?_
  refine TyOK.cons (TPair.of Try.underlying25 rfl rfl (by decide) (by decide) (by kernel_rfl) (by kernel_rfl) (by kernel_rfl) (by kernel_rfl) (by kernel_rfl) (by kernel_rfl) (by kernel_rfl)) ?_
  refine TyOK.cons (TPair.of Try.underlying68 rfl rfl (by decide) (by decide) (by kernel_rfl) (by kernel_rfl) (by kernel_rfl) (by kernel_rfl) (by kernel_rfl) (by kernel_rfl) (by kernel_rfl)) ?_
  refine TyOK.cons (show Try.prog.underlying 23 = some (.slice 25) from by kernel_rfl) ?_
  refine TyOK.cons (show Try.prog.underlying 77 = some (.slice 3) from by kernel_rfl) ?_
  refine TyOK.cons (show Try.prog.underlying 44 = some (.slice 68) from by kernel_rfl) ?_
  refine TyOK.cons (show Try.prog.underlying 22 = some (.slice 5) from by kernel_rfl) ?_
  exact TyOK.nil
theorem mixed : Try.prog.follows .mixedOrders = true := by kernel_rfl
end Go.Proofs.Ytidcomcnieggaaa
