/-
  The types of this seat as the plain machine knows them.
-/
import Derived.Test.YtlhkdgkaafhehaaDen4
namespace Go.Proofs.Ytlhkdgkaafhehaa
open Go.RowKit
def tau : List (Nat × TK) := [(3, .int), (4, .bool), (27, .pair), (56, .pair), (42, .sl 27), (23, .sl 3), (22, .sl 5)]
theorem tauOK : TyOK Try.prog tau := by
  unfold tau
  refine TyOK.cons (TInt.of (by kernel_rfl) (by kernel_rfl)) ?_
  refine TyOK.cons (show Try.prog.underlying 4 = some .bool from by kernel_rfl) ?_
  refine TyOK.cons (TPair.of Try.underlying27 rfl rfl (by decide) (by decide) (by kernel_rfl) (by kernel_rfl) (by kernel_rfl) (by kernel_rfl) (by kernel_rfl) (by kernel_rfl) (by kernel_rfl)) ?_
  refine TyOK.cons (TPair.of Try.underlying56 rfl rfl (by decide) (by decide) (by kernel_rfl) (by kernel_rfl) (by kernel_rfl) (by kernel_rfl) (by kernel_rfl) (by kernel_rfl) (by kernel_rfl)) ?_
  refine TyOK.cons (show Try.prog.underlying 42 = some (.slice 27) from by kernel_rfl) ?_
  refine TyOK.cons (show Try.prog.underlying 23 = some (.slice 3) from by kernel_rfl) ?_
  refine TyOK.cons (show Try.prog.underlying 22 = some (.slice 5) from by kernel_rfl) ?_
  exact TyOK.nil
theorem mixed : Try.prog.follows .mixedOrders = true := by kernel_rfl
end Go.Proofs.Ytlhkdgkaafhehaa
