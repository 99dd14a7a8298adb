/-
  The contracts of the functions on fractions, in the plain machine's words.
-/
import Derived.Test.YtidcomcnieggaaaTy
import Derived.Test.YtidcomcnieggaaaPureQ
import Derived.Test.YtidcomcnieggaaaFrac4
namespace Go.Proofs.Ytidcomcnieggaaa
open Go.RowKit
set_option linter.unusedVariables false

abbrev vF (n d : Int) : Value := .agg #[.int .i64 n, .int .i64 d]
abbrev rF (o : Fr) : RD := .tup [.v (vF (fN o) (fD o)), .v (.bool (fOk o))]
def gOf : List AD → Option RD
  | [.v (.int .i64 a), .v (.int .i64 b)] => some (rF (ofF a b))
  | _ => none
def gAdd : List AD → Option RD
  | [.v (.agg ⟨[.int .i64 a, .int .i64 b]⟩), .v (.agg ⟨[.int .i64 c, .int .i64 d]⟩)] => some (rF (addF (a, b) (c, d)))
  | _ => none
def gSub : List AD → Option RD
  | [.v (.agg ⟨[.int .i64 a, .int .i64 b]⟩), .v (.agg ⟨[.int .i64 c, .int .i64 d]⟩)] => some (rF (subF (a, b) (c, d)))
  | _ => none
def gMul : List AD → Option RD
  | [.v (.agg ⟨[.int .i64 a, .int .i64 b]⟩), .v (.agg ⟨[.int .i64 c, .int .i64 d]⟩)] => some (rF (mulF (a, b) (c, d)))
  | _ => none
def gDiv : List AD → Option RD
  | [.v (.agg ⟨[.int .i64 a, .int .i64 b]⟩), .v (.agg ⟨[.int .i64 c, .int .i64 d]⟩)] => some (rF (divF (a, b) (c, d)))
  | _ => none
def gLess : List AD → Option RD
  | [.v (.agg ⟨[.int .i64 a, .int .i64 b]⟩), .v (.agg ⟨[.int .i64 c, .int .i64 d]⟩)] => some (.one (.v (.bool (ltF (a, b) (c, d)))))
  | _ => none
theorem fracOf_di : DFun Try.prog 61 gOf := by
  refine DFun.ofC Try.func61 rfl (by kernel_rfl) ?_
  intro w ds args r ha hg
  unfold gOf at hg
  split at hg
  case h_2 => cases hg
  rename_i a b
  cases hg
  rw [args2 ha]
  exact (fracOf_i a b w).mono (fun e w' ⟨he, hb⟩ => ⟨_, he, hb, rd_vv rfl⟩)
theorem fracLess_di : DFun Try.prog 34 gLess := by
  refine DFun.ofC Try.func34 rfl (by kernel_rfl) ?_
  intro w ds args r ha hg
  unfold gLess at hg
  split at hg
  case h_2 => cases hg
  rename_i a b c d
  cases hg
  rw [args2 ha]
  exact (fracLess_i a b c d w).mono (fun e w' ⟨he, hb⟩ => ⟨_, he, hb, rfl⟩)
theorem fracOf_ds : DFun Try.prog 63 gOf := by
  refine DFun.ofC Try.func63 rfl (by kernel_rfl) ?_
  intro w ds args r ha hg
  unfold gOf at hg
  split at hg
  case h_2 => cases hg
  rename_i a b
  cases hg
  rw [args2 ha]
  exact (fracOf_s a b w).mono (fun e w' ⟨he, hb⟩ => ⟨_, he, hb, rd_vv rfl⟩)
theorem fracAdd_ds : DFun Try.prog 66 gAdd := by
  refine DFun.ofC Try.func66 rfl (by kernel_rfl) ?_
  intro w ds args r ha hg
  unfold gAdd at hg
  split at hg
  case h_2 => cases hg
  rename_i a b c d
  cases hg
  rw [args2 ha]
  exact (fracAdd_s a b c d w).mono (fun e w' ⟨he, hb⟩ => ⟨_, he, hb, rd_vv rfl⟩)
theorem fracSub_ds : DFun Try.prog 64 gSub := by
  refine DFun.ofC Try.func64 rfl (by kernel_rfl) ?_
  intro w ds args r ha hg
  unfold gSub at hg
  split at hg
  case h_2 => cases hg
  rename_i a b c d
  cases hg
  rw [args2 ha]
  exact (fracSub_s a b c d w).mono (fun e w' ⟨he, hb⟩ => ⟨_, he, hb, rd_vv rfl⟩)
theorem fracMul_ds : DFun Try.prog 65 gMul := by
  refine DFun.ofC Try.func65 rfl (by kernel_rfl) ?_
  intro w ds args r ha hg
  unfold gMul at hg
  split at hg
  case h_2 => cases hg
  rename_i a b c d
  cases hg
  rw [args2 ha]
  exact (fracMul_s a b c d w).mono (fun e w' ⟨he, hb⟩ => ⟨_, he, hb, rd_vv rfl⟩)
def gTwo : List AD → Option RD
  | [.v (.agg ⟨[.int .i64 a, .int .i64 b]⟩), .v (.agg ⟨[.int .i64 c, .int .i64 d]⟩)] => some (.one (.v (.bool (vB a b && vB c d))))
  | _ => none
theorem l2Two_ds : DFun Try.prog 69 gTwo := by
  refine DFun.ofC Try.func69 rfl (by kernel_rfl) ?_
  intro w ds args r ha hg
  unfold gTwo at hg
  split at hg
  case h_2 => cases hg
  rename_i a b c d
  cases hg
  rw [args2 ha]
  exact (l2Two_s a b c d w).mono (fun e w' ⟨he, hb⟩ => ⟨_, he, hb, rfl⟩)
theorem ltF_no {x y : Int × Int} (h : (vB x.1 x.2 && vB y.1 y.2) = false) : ltF x y = false := by
  unfold ltF
  rw [decide_eq_false_iff_not]
  rintro ⟨h1, h2, _⟩
  rw [h1, h2] at h; cases h
theorem ltF_yes {x y : Int × Int} (h : (vB x.1 x.2 && vB y.1 y.2) = true) : ltF x y = decide (x.1 * y.2 < y.1 * x.2) := by
  rw [Bool.and_eq_true] at h
  unfold ltF
  congr 1
  exact propext ⟨fun q => q.2.2, fun q => ⟨h.1, h.2, q⟩⟩
theorem fracLess_ds : DFun Try.prog 62 gLess := by
  have hE : EnvOK Try.prog [(69, gTwo)] := EnvOK.cons l2Two_ds EnvOK.nil
  refine DFun.of tauOK (fn := Try.f62) Try.func62 rfl (by kernel_rfl) rfl rfl ?_
  intro C ds r hg hl
  unfold gLess at hg
  split at hg
  case h_2 => cases hg
  rename_i a b c d
  cases hg
  refine ⟨by simp, ?_⟩
  cases h : (vB a b && vB c d)
  · rw [ltF_no (x := (a, b)) (y := (c, d)) h]
    refine DW.seq ?_
    refine DW.region ?_
    refine DL.go1 tauOK hE rfl (GStep.box2 rfl) rfl rfl rfl ?_
    refine DL.go1 tauOK hE rfl (GStep.box2 rfl) rfl rfl rfl ?_
    refine DL.go0 tauOK hE rfl (GStep.assign rfl) rfl rfl ?_
    refine DL.nil ?_
    refine DW.sub (T' := [(2, _), (3, _)]) (Sub.cons rfl (Sub.cons rfl Sub.nil)) (Sub.refl _) ?_
    refine DW.seq ?_
    refine DW.region ?_
    refine DL.go0 tauOK hE rfl (G.lb2 rfl rfl rfl) rfl rfl ?_
    refine DL.go0 tauOK hE rfl (G.lb2 rfl rfl rfl) rfl rfl ?_
    refine DL.go0 tauOK hE rfl (G.call (v := .val _) (news := []) rfl (All2.cons (ArgOf.v rfl) (All2.cons (ArgOf.v rfl) All2.nil)) (congrArg (fun v => some (RD.one (.v (.bool v)))) h) rfl rfl) rfl rfl ?_
    refine DL.go0 tauOK hE rfl (GStep.move rfl) rfl rfl ?_
    first | refine DL.skip rfl rfl rfl ?_ | refine DL.go0 tauOK hE rfl (G.fa rfl rfl rfl (by decide)) rfl rfl ?_
    first | refine DL.skip rfl rfl rfl ?_ | refine DL.go0 tauOK hE rfl (G.lbf0 rfl rfl rfl) rfl rfl ?_
    first | refine DL.skip rfl rfl rfl ?_ | refine DL.go0 tauOK hE rfl (G.fa rfl rfl rfl (by decide)) rfl rfl ?_
    first | refine DL.skip rfl rfl rfl ?_ | refine DL.go0 tauOK hE rfl (G.lbf1 rfl rfl rfl) rfl rfl ?_
    first | refine DL.skip rfl rfl rfl ?_ | refine DL.go0 tauOK hE rfl (GStep.binI rfl rfl rfl) rfl rfl ?_
    first | refine DL.skip rfl rfl rfl ?_ | refine DL.go0 tauOK hE rfl (G.fa rfl rfl rfl (by decide)) rfl rfl ?_
    first | refine DL.skip rfl rfl rfl ?_ | refine DL.go0 tauOK hE rfl (G.lbf0 rfl rfl rfl) rfl rfl ?_
    first | refine DL.skip rfl rfl rfl ?_ | refine DL.go0 tauOK hE rfl (G.fa rfl rfl rfl (by decide)) rfl rfl ?_
    first | refine DL.skip rfl rfl rfl ?_ | refine DL.go0 tauOK hE rfl (G.lbf1 rfl rfl rfl) rfl rfl ?_
    first | refine DL.skip rfl rfl rfl ?_ | refine DL.go0 tauOK hE rfl (GStep.binI rfl rfl rfl) rfl rfl ?_
    first | refine DL.skip rfl rfl rfl ?_ | refine DL.go0 tauOK hE rfl (GStep.binI rfl rfl rfl) rfl rfl ?_
    first | refine DL.go0 tauOK hE rfl (GStep.pickT rfl rfl) rfl rfl ?_ | refine DL.go0 tauOK hE rfl (GStep.pickF rfl rfl) rfl rfl ?_
    refine DL.go0 tauOK hE rfl (GStep.assign rfl) rfl rfl ?_
    refine DL.nil ?_
    refine DW.sub (T' := [(4, _)]) (Sub.cons rfl Sub.nil) (Sub.refl _) ?_
    refine DW.ret ?_
    exact RetD.v1 rfl rfl
  · rw [ltF_yes (x := (a, b)) (y := (c, d)) h]
    rw [Bool.and_eq_true] at h
    have b1 := vB_bd h.1
    have b2 := vB_bd h.2
    have p1 := prod_bd (x := a) (y := d) (A := 1000000000) (B := 1000000000) (by omega) (by omega) (by omega)
    have p2 := prod_bd (x := c) (y := b) (A := 1000000000) (B := 1000000000) (by omega) (by omega) (by omega)
    have h' : (vB a b && vB c d) = true := by rw [h.1, h.2]; rfl
    skip
    refine DW.seq ?_
    refine DW.region ?_
    refine DL.go1 tauOK hE rfl (GStep.box2 rfl) rfl rfl rfl ?_
    refine DL.go1 tauOK hE rfl (GStep.box2 rfl) rfl rfl rfl ?_
    refine DL.go0 tauOK hE rfl (GStep.assign rfl) rfl rfl ?_
    refine DL.nil ?_
    refine DW.sub (T' := [(2, _), (3, _)]) (Sub.cons rfl (Sub.cons rfl Sub.nil)) (Sub.refl _) ?_
    refine DW.seq ?_
    refine DW.region ?_
    refine DL.go0 tauOK hE rfl (G.lb2 rfl rfl rfl) rfl rfl ?_
    refine DL.go0 tauOK hE rfl (G.lb2 rfl rfl rfl) rfl rfl ?_
    refine DL.go0 tauOK hE rfl (G.call (v := .val _) (news := []) rfl (All2.cons (ArgOf.v rfl) (All2.cons (ArgOf.v rfl) All2.nil)) (congrArg (fun v => some (RD.one (.v (.bool v)))) h') rfl rfl) rfl rfl ?_
    refine DL.go0 tauOK hE rfl (GStep.move rfl) rfl rfl ?_
    first | refine DL.skip rfl rfl rfl ?_ | refine DL.go0 tauOK hE rfl (G.fa rfl rfl rfl (by decide)) rfl rfl ?_
    first | refine DL.skip rfl rfl rfl ?_ | refine DL.go0 tauOK hE rfl (G.lbf0 rfl rfl rfl) rfl rfl ?_
    first | refine DL.skip rfl rfl rfl ?_ | refine DL.go0 tauOK hE rfl (G.fa rfl rfl rfl (by decide)) rfl rfl ?_
    first | refine DL.skip rfl rfl rfl ?_ | refine DL.go0 tauOK hE rfl (G.lbf1 rfl rfl rfl) rfl rfl ?_
    first | refine DL.skip rfl rfl rfl ?_ | refine DL.go0 tauOK hE rfl (G.mul rfl rfl (by omega)) rfl rfl ?_
    first | refine DL.skip rfl rfl rfl ?_ | refine DL.go0 tauOK hE rfl (G.fa rfl rfl rfl (by decide)) rfl rfl ?_
    first | refine DL.skip rfl rfl rfl ?_ | refine DL.go0 tauOK hE rfl (G.lbf0 rfl rfl rfl) rfl rfl ?_
    first | refine DL.skip rfl rfl rfl ?_ | refine DL.go0 tauOK hE rfl (G.fa rfl rfl rfl (by decide)) rfl rfl ?_
    first | refine DL.skip rfl rfl rfl ?_ | refine DL.go0 tauOK hE rfl (G.lbf1 rfl rfl rfl) rfl rfl ?_
    first | refine DL.skip rfl rfl rfl ?_ | refine DL.go0 tauOK hE rfl (G.mul rfl rfl (by omega)) rfl rfl ?_
    first | refine DL.skip rfl rfl rfl ?_ | refine DL.go0 tauOK hE rfl (GStep.binI rfl rfl rfl) rfl rfl ?_
    first | refine DL.go0 tauOK hE rfl (GStep.pickT rfl rfl) rfl rfl ?_ | refine DL.go0 tauOK hE rfl (GStep.pickF rfl rfl) rfl rfl ?_
    refine DL.go0 tauOK hE rfl (GStep.assign rfl) rfl rfl ?_
    refine DL.nil ?_
    refine DW.sub (T' := [(4, _)]) (Sub.cons rfl Sub.nil) (Sub.refl _) ?_
    refine DW.ret ?_
    exact RetD.v1 rfl rfl
end Go.Proofs.Ytidcomcnieggaaa
