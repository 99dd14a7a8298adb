/-
  The contracts of the functions on fractions, in the plain machine's words.
-/
import Derived.Test.YtlhkdgkaafhehaaTy
import Derived.Test.YtlhkdgkaafhehaaFrac4
namespace Go.Proofs.Ytlhkdgkaafhehaa
open Go.RowKit
set_option linter.unusedVariables false

abbrev vF (n d : Int) : Value := .agg #[.int .i64 n, .int .i64 d]
abbrev rF (o : Fr) : RD := .tup [.v (vF (fN o) (fD o)), .v (.bool (fOk o))]
def gOf : List AD → Option RD
  | [.v (.int .i64 a), .v (.int .i64 b)] => some (rF (ofF a b))
  | _ => none
def gAdd : List AD → Option RD
  | [.v (.agg ⟨[.int .i64 a, .int .i64 b]⟩), .v (.agg ⟨[.int .i64 c, .int .i64 d]⟩)] => some (rF (addF (a, b) (c, d)))
  | _ => none
def gSub : List AD → Option RD
  | [.v (.agg ⟨[.int .i64 a, .int .i64 b]⟩), .v (.agg ⟨[.int .i64 c, .int .i64 d]⟩)] => some (rF (subF (a, b) (c, d)))
  | _ => none
def gMul : List AD → Option RD
  | [.v (.agg ⟨[.int .i64 a, .int .i64 b]⟩), .v (.agg ⟨[.int .i64 c, .int .i64 d]⟩)] => some (rF (mulF (a, b) (c, d)))
  | _ => none
def gDiv : List AD → Option RD
  | [.v (.agg ⟨[.int .i64 a, .int .i64 b]⟩), .v (.agg ⟨[.int .i64 c, .int .i64 d]⟩)] => some (rF (divF (a, b) (c, d)))
  | _ => none
def gLess : List AD → Option RD
  | [.v (.agg ⟨[.int .i64 a, .int .i64 b]⟩), .v (.agg ⟨[.int .i64 c, .int .i64 d]⟩)] => some (.one (.v (.bool (ltF (a, b) (c, d)))))
  | _ => none
theorem fracOf_di : DFun Try.prog 28 gOf := by
  refine DFun.ofC Try.func28 rfl (by kernel_rfl) ?_
  intro w ds args r ha hg
  unfold gOf at hg
  split at hg
  case h_2 => cases hg
  rename_i a b
  cases hg
  rw [args2 ha]
  exact (fracOf_i a b w).mono (fun e w' ⟨he, hb⟩ => ⟨_, he, hb, rd_vv rfl⟩)
theorem fracAdd_di : DFun Try.prog 25 gAdd := by
  refine DFun.ofC Try.func25 rfl (by kernel_rfl) ?_
  intro w ds args r ha hg
  unfold gAdd at hg
  split at hg
  case h_2 => cases hg
  rename_i a b c d
  cases hg
  rw [args2 ha]
  exact (fracAdd_i a b c d w).mono (fun e w' ⟨he, hb⟩ => ⟨_, he, hb, rd_vv rfl⟩)
theorem fracMul_di : DFun Try.prog 24 gMul := by
  refine DFun.ofC Try.func24 rfl (by kernel_rfl) ?_
  intro w ds args r ha hg
  unfold gMul at hg
  split at hg
  case h_2 => cases hg
  rename_i a b c d
  cases hg
  rw [args2 ha]
  exact (fracMul_i a b c d w).mono (fun e w' ⟨he, hb⟩ => ⟨_, he, hb, rd_vv rfl⟩)
theorem fracDiv_di : DFun Try.prog 51 gDiv := by
  refine DFun.ofC Try.func51 rfl (by kernel_rfl) ?_
  intro w ds args r ha hg
  unfold gDiv at hg
  split at hg
  case h_2 => cases hg
  rename_i a b c d
  cases hg
  rw [args2 ha]
  exact (fracDiv_i a b c d w).mono (fun e w' ⟨he, hb⟩ => ⟨_, he, hb, rd_vv rfl⟩)
theorem fracLess_di : DFun Try.prog 18 gLess := by
  refine DFun.ofC Try.func18 rfl (by kernel_rfl) ?_
  intro w ds args r ha hg
  unfold gLess at hg
  split at hg
  case h_2 => cases hg
  rename_i a b c d
  cases hg
  rw [args2 ha]
  exact (fracLess_i a b c d w).mono (fun e w' ⟨he, hb⟩ => ⟨_, he, hb, rfl⟩)
theorem fracOf_ds : DFun Try.prog 47 gOf := by
  refine DFun.ofC Try.func47 rfl (by kernel_rfl) ?_
  intro w ds args r ha hg
  unfold gOf at hg
  split at hg
  case h_2 => cases hg
  rename_i a b
  cases hg
  rw [args2 ha]
  exact (fracOf_s a b w).mono (fun e w' ⟨he, hb⟩ => ⟨_, he, hb, rd_vv rfl⟩)
theorem fracAdd_ds : DFun Try.prog 48 gAdd := by
  refine DFun.ofC Try.func48 rfl (by kernel_rfl) ?_
  intro w ds args r ha hg
  unfold gAdd at hg
  split at hg
  case h_2 => cases hg
  rename_i a b c d
  cases hg
  rw [args2 ha]
  exact (fracAdd_s a b c d w).mono (fun e w' ⟨he, hb⟩ => ⟨_, he, hb, rd_vv rfl⟩)
theorem fracDiv_ds : DFun Try.prog 50 gDiv := by
  refine DFun.ofC Try.func50 rfl (by kernel_rfl) ?_
  intro w ds args r ha hg
  unfold gDiv at hg
  split at hg
  case h_2 => cases hg
  rename_i a b c d
  cases hg
  rw [args2 ha]
  exact (fracDiv_s a b c d w).mono (fun e w' ⟨he, hb⟩ => ⟨_, he, hb, rd_vv rfl⟩)
end Go.Proofs.Ytlhkdgkaafhehaa
