/-
  The types of this seat as the plain machine knows them.
-/
import Derived.Test.YtlolhnjbogfkfaaDen4
namespace Go.Proofs.Ytlolhnjbogfkfaa
open Go.RowKit
def tau : List (Nat × TK) := [(3, .int), (4, .bool), (27, .pair), (31, .pair), (53, .pair), (23, .sl 31), (62, .sl 3), (34, .sl 53), (22, .sl 5)]
theorem tauOK : TyOK Try.prog tau := by
  unfold tau
  refine TyOK.cons (TInt.of (by kernel_rfl) (by kernel_rfl)) ?_
  refine TyOK.cons (show Try.prog.underlying 4 = some .bool from by kernel_rfl) ?_
  refine TyOK.cons (TPair.of Try.underlying27 rfl rfl (by decide) (by decide) (by kernel_rfl) (by kernel_rfl) (by kernel_rfl) (by kernel_rfl) (by kernel_rfl) (by kernel_rfl) (by kernel_rfl)) ?_
  refine TyOK.cons (TPair.of Try.underlying31 rfl rfl (by decide) (by decide) (by kernel_rfl) (by kernel_rfl) (by kernel_rfl) (by kernel_rfl) (by kernel_rfl) (by kernel_rfl) (by kernel_rfl)) ?_
  refine TyOK.cons (TPair.of Try.underlying53 rfl rfl (by decide) (by decide) (by kernel_rfl) (by kernel_rfl) (by kernel_rfl) (by kernel_rfl) (by kernel_rfl) (by kernel_rfl) (by kernel_rfl)) ?_
  refine TyOK.cons (show Try.prog.underlying 23 = some (.slice 31) from by kernel_rfl) ?_
  refine TyOK.cons (show Try.prog.underlying 62 = some (.slice 3) from by kernel_rfl) ?_
  refine TyOK.cons (show Try.prog.underlying 34 = some (.slice 53) from by kernel_rfl) ?_
  refine TyOK.cons (show Try.prog.underlying 22 = some (.slice 5) from by kernel_rfl) ?_
  exact TyOK.nil
theorem mixed : Try.prog.follows .mixedOrders = true := by kernel_rfl
end Go.Proofs.Ytlolhnjbogfkfaa
