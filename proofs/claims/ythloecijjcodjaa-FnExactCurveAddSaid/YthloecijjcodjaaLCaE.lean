/-
  The walk of the statement FnExactCurveAdd.
-/
import Derived.Test.YthloecijjcodjaaCurA
namespace Go.Proofs.Ythloecijjcodjaa
open Go.RowKit
set_option linter.unusedVariables false
set_option linter.unusedSimpArgs false
def gLawPp : List AD → Option RD
  | [.sl .i64 2 _ l, .v (.agg ⟨[.int .i64 a, .int .i64 b]⟩)] => some (.one (.v (.bool true)))
  | _ => none
theorem fnExactCurveAdd_dl : DFun Try.prog 12 gLawPp := by
  have hE : EnvOK Try.prog [(13, gSz), (15, gToKnot), (31, gTo1), (27, gAddK), (26, gAddK), (17, gEqP), (24, gHeldP)] := EnvOK.cons szKnotS_dl (EnvOK.cons toKnotS_dl (EnvOK.cons toKnot_dl (EnvOK.cons curveAdd_ds (EnvOK.cons curveAdd_di (EnvOK.cons eqKnotS_dl (EnvOK.cons heldKnotS_dl EnvOK.nil))))))
  refine DFun.of tauOK (fn := Try.f12) Try.func12 rfl (by kernel_rfl) rfl rfl ?_
  intro C ds r hg hl
  unfold gLawPp at hg
  split at hg
  case h_2 => cases hg
  rename_i n l a b
  cases hg
  refine ⟨by simp, ?_⟩
  obtain ⟨hn, hm, _⟩ := hl
  obtain ⟨c, rfl, rfl⟩ := flat_ex hn
  clear hn
  obtain ⟨b1, b2⟩ := addK_le c (a, b)
  have b3 := flat_len c
  refine DW.seq ?_
  refine DW.region ?_
  refine DL.go1 tauOK hE rfl (GStep.box2 rfl) rfl rfl rfl ?_
  refine DL.go0 tauOK hE rfl (GStep.assign rfl) rfl rfl ?_
  refine DL.nil ?_
  refine DW.sub (T' := [(0, _), (3, _)]) (Sub.cons rfl (Sub.cons rfl Sub.nil)) (Sub.refl _) ?_
  refine DW.seq ?_
  refine DW.region ?_
  refine DL.go0 tauOK hE rfl (GStep.assign rfl) rfl rfl ?_
  refine DL.nil ?_
  refine DW.sub (T' := [(0, _), (3, _), (5, _)]) (Sub.cons rfl (Sub.cons rfl (Sub.cons rfl Sub.nil))) (Sub.refl _) ?_
  refine DW.seq ?_
  refine DW.region ?_
  refine DL.go0 tauOK hE rfl (GStep.move rfl) rfl rfl ?_
  refine DL.go0 tauOK hE rfl (GStep.move rfl) rfl rfl ?_
  refine DL.go0 tauOK hE rfl (G.call (v := .val _) (news := []) rfl (All2.cons (ArgOf.ro rfl rfl (by simp [flat_len])) (All2.cons (ArgOf.v rfl) All2.nil)) (gSz_eq (by omega) (by omega)) rfl rfl) rfl rfl ?_
  refine DL.go0 tauOK hE rfl (GStep.assign rfl) rfl rfl ?_
  refine DL.nil ?_
  refine DW.sub (T' := [(0, _), (3, _), (5, _)]) (Sub.cons rfl (Sub.cons rfl (Sub.cons rfl Sub.nil))) (Sub.refl _) ?_
  refine DW.seq ?_
  refine DW.seq ?_
  refine DW.region ?_
  refine DL.go0 tauOK hE rfl (GStep.move rfl) rfl rfl ?_
  refine DL.go0 tauOK hE rfl (GStep.binI rfl rfl rfl) rfl rfl ?_
  refine DL.nil ?_
  refine DW.sub (T' := [(0, _), (3, _), (20, _)]) (Sub.cons rfl (Sub.cons rfl (Sub.cons rfl Sub.nil))) (Sub.refl _) ?_
  refine DW.cond rfl (fun h1 => ?_) (fun h1 => ?_)
  · skip
    refine DW.seq ?_
    refine DW.region ?_
    refine DL.go0 tauOK hE rfl (GStep.assign rfl) rfl rfl ?_
    refine DL.nil ?_
    refine DW.sub (T' := [(4, _)]) (Sub.cons rfl Sub.nil) (Sub.refl _) ?_
    refine DW.ret ?_
    exact RetD.vb rfl (by first | rfl | simp)
  · skip
    have h1 : c.length ≤ 1048576 := by
      by_cases h : (1048576 : Int) - (c.length : Int) < 0
      · rw [if_pos h] at h1; simp at h1
      · omega
    refine DW.skip ?_
    refine DW.seq ?_
    refine DW.draw tauOK hE mixed 10 (by kernel_rfl) ?_
    refine DR.go0 rfl (GStep.move rfl) rfl rfl ?_
    refine DR.go1 rfl (G.call (v := .sl _ 0 _) (news := [.row _ _ _]) rfl (All2.cons (ArgOf.ro rfl rfl (by simp [flat_len])) All2.nil) (gToP_eq (by omega)) rfl rfl) rfl rfl rfl ?_
    refine DR.go0 rfl (G.lb2 rfl rfl rfl) rfl rfl ?_
    refine DR.go0 rfl (G.call (v := .val _) (news := []) rfl (All2.cons (ArgOf.v rfl) All2.nil) (rfl) rfl rfl) rfl rfl ?_
    refine DR.go1 rfl (G.call (v := .tup [.s _ _, .v _]) (news := [.row _ _ _]) rfl (All2.cons (ArgOf.row rfl rfl (by simp [flat_len])) (All2.cons (ArgOf.v rfl) All2.nil)) (gAddK_flat) rfl rfl) rfl rfl rfl ?_
    refine DR.go0 rfl (GStep.move rfl) rfl rfl ?_
    refine DR.go0 rfl (GStep.extr rfl rfl) rfl rfl ?_
    refine DR.go0 rfl (GStep.extr rfl rfl) rfl rfl ?_
    refine DR.go0 rfl (GStep.assign rfl) rfl rfl ?_
    refine DR.go0 rfl (GStep.assign rfl) rfl rfl ?_
    refine DR.nil ?_
    refine DL.nil ?_
    refine DW.sub (T' := [(0, _), (3, _), (6, _), (7, _)]) (Sub.cons rfl (Sub.cons rfl (Sub.cons rfl (Sub.cons rfl Sub.nil)))) (Sub.refl _) ?_
    refine DW.seq ?_
    refine DW.region ?_
    refine DL.go0 tauOK hE rfl (GStep.move rfl) rfl rfl ?_
    refine DL.go1 tauOK hE rfl (G.call (v := .sl _ 0 _) (news := [.row _ _ _]) rfl (All2.cons (ArgOf.ro rfl rfl (by simp [flat_len])) All2.nil) (gToP_eq (by omega)) rfl rfl) rfl rfl rfl ?_
    refine DL.go0 tauOK hE rfl (GStep.assign rfl) rfl rfl ?_
    refine DL.nil ?_
    refine DW.sub (T' := [(0, _), (3, _), (6, _), (7, _), (8, _)]) (Sub.cons rfl (Sub.cons rfl (Sub.cons rfl (Sub.cons rfl (Sub.cons rfl Sub.nil))))) (Sub.refl _) ?_
    refine DW.seq ?_
    refine DW.region ?_
    refine DL.go0 tauOK hE rfl (GStep.move rfl) rfl rfl ?_
    refine DL.go0 tauOK hE rfl (G.lb2 rfl rfl rfl) rfl rfl ?_
    refine DL.go0 tauOK hE rfl (G.call (v := .val _) (news := []) rfl (All2.cons (ArgOf.v rfl) All2.nil) (rfl) rfl rfl) rfl rfl ?_
    refine DL.go1 tauOK hE rfl (G.call (v := .tup [.s _ _, .v _]) (news := [.row _ _ _]) rfl (All2.cons (ArgOf.row rfl rfl (by simp [flat_len])) (All2.cons (ArgOf.v rfl) All2.nil)) (gAddK_flat) rfl rfl) rfl rfl rfl ?_
    refine DL.go0 tauOK hE rfl (GStep.move rfl) rfl rfl ?_
    refine DL.go0 tauOK hE rfl (GStep.extr rfl rfl) rfl rfl ?_
    refine DL.go0 tauOK hE rfl (GStep.extr rfl rfl) rfl rfl ?_
    refine DL.go0 tauOK hE rfl (GStep.assign rfl) rfl rfl ?_
    refine DL.go0 tauOK hE rfl (GStep.assign rfl) rfl rfl ?_
    refine DL.nil ?_
    refine DW.sub (T' := [(0, _), (3, _), (6, _), (7, _), (8, _), (9, _), (10, _)]) (Sub.cons rfl (Sub.cons rfl (Sub.cons rfl (Sub.cons rfl (Sub.cons rfl (Sub.cons rfl (Sub.cons rfl Sub.nil))))))) (Sub.refl _) ?_
    refine DW.seq ?_
    refine DW.seq ?_
    refine DW.region ?_
    refine DL.go0 tauOK hE rfl (GStep.move rfl) rfl rfl ?_
    refine DL.go0 tauOK hE rfl (GStep.move rfl) rfl rfl ?_
    refine DL.go0 tauOK hE rfl (G.call (v := .val _) (news := []) rfl (All2.cons (ArgOf.row rfl rfl (by simp [flat_len])) (All2.cons (ArgOf.row rfl rfl (by simp [flat_len])) All2.nil)) (gEqP_refl) rfl rfl) rfl rfl ?_
    refine DL.go0 tauOK hE rfl (GStep.not rfl) rfl rfl ?_
    refine DL.go0 tauOK hE rfl (GStep.move rfl) rfl rfl ?_
    first | refine DL.skip rfl rfl rfl ?_ | refine DL.go0 tauOK hE rfl (GStep.move rfl) rfl rfl ?_
    first | refine DL.skip rfl rfl rfl ?_ | refine DL.go0 tauOK hE rfl (GStep.move rfl) rfl rfl ?_
    first | refine DL.skip rfl rfl rfl ?_ | refine DL.go0 tauOK hE rfl (G.fl (GStep.neqB rfl rfl rfl) (by simp)) rfl rfl ?_
    first | refine DL.go0 tauOK hE rfl (GStep.pickT rfl rfl) rfl rfl ?_ | refine DL.go0 tauOK hE rfl (GStep.pickF rfl rfl) rfl rfl ?_
    refine DL.nil ?_
    refine DW.sub (T' := [(0, _), (3, _), (6, _), (7, _), (8, _), (9, _), (10, _), (46, _)]) (Sub.cons rfl (Sub.cons rfl (Sub.cons rfl (Sub.cons rfl (Sub.cons rfl (Sub.cons rfl (Sub.cons rfl (Sub.cons rfl Sub.nil)))))))) (Sub.refl _) ?_
    refine DW.condF rfl ?_
    refine DW.skip ?_
    refine DW.seq ?_
    refine DW.seq ?_
    refine DW.region ?_
    refine DL.go0 tauOK hE rfl (GStep.move rfl) rfl rfl ?_
    refine DL.go0 tauOK hE rfl (GStep.move rfl) rfl rfl ?_
    refine DL.go1 tauOK hE rfl (G.call (v := .sl _ 0 _) (news := [.row _ _ _]) rfl (All2.cons (ArgOf.ro rfl rfl (by simp [flat_len])) All2.nil) (gToP_eq (by omega)) rfl rfl) rfl rfl rfl ?_
    refine DL.go0 tauOK hE rfl (G.call (v := .val _) (news := []) rfl (All2.cons (ArgOf.row rfl rfl (by simp [flat_len])) (All2.cons (ArgOf.row rfl rfl (by simp [flat_len])) All2.nil)) (gEqP_refl) rfl rfl) rfl rfl ?_
    refine DL.go0 tauOK hE rfl (GStep.not rfl) rfl rfl ?_
    refine DL.nil ?_
    refine DW.sub (T' := [(0, _), (3, _), (6, _), (7, _), (8, _), (9, _), (10, _), (51, _)]) (Sub.cons rfl (Sub.cons rfl (Sub.cons rfl (Sub.cons rfl (Sub.cons rfl (Sub.cons rfl (Sub.cons rfl (Sub.cons rfl Sub.nil)))))))) (Sub.refl _) ?_
    refine DW.condF rfl ?_
    refine DW.skip ?_
    refine DW.seq ?_
    refine DW.region ?_
    refine DL.go0 tauOK hE rfl (GStep.assign rfl) rfl rfl ?_
    refine DL.nil ?_
    refine DW.sub (T' := [(0, _), (3, _), (6, _), (7, _), (8, _), (9, _), (10, _), (11, _)]) (Sub.cons rfl (Sub.cons rfl (Sub.cons rfl (Sub.cons rfl (Sub.cons rfl (Sub.cons rfl (Sub.cons rfl (Sub.cons rfl Sub.nil)))))))) (Sub.refl _) ?_
    refine DW.seq ?_
    refine DW.region ?_
    refine DL.go0 tauOK hE rfl (GStep.move rfl) rfl rfl ?_
    refine DL.go0 tauOK hE rfl (GStep.move rfl) rfl rfl ?_
    refine DL.mut markKnotS_dm rfl rfl rfl rfl rfl rfl (by simp [flat_len]) (ValsOf.cons rfl ValsOf.nil) (gMark_eq _ _ (by omega) (by omega)) ?_
    intro hlen
    refine DL.go0 tauOK hE rfl (GStep.assign rfl) rfl rfl ?_
    refine DL.nil ?_
    refine DW.sub (T' := [(0, _), (3, _), (6, _), (7, _), (9, _), (10, _), (11, _)]) (Sub.cons rfl (Sub.cons rfl (Sub.cons rfl (Sub.cons rfl (Sub.cons rfl (Sub.cons rfl (Sub.cons rfl Sub.nil))))))) (Sub.refl _) ?_
    refine DW.seq ?_
    refine DW.seq ?_
    refine DW.region ?_
    refine DL.go0 tauOK hE rfl (GStep.move rfl) rfl rfl ?_
    refine DL.go0 tauOK hE rfl (G.fl (GStep.binI rfl rfl rfl) (by simp; omega)) rfl rfl ?_
    refine DL.go0 tauOK hE rfl (GStep.move rfl) rfl rfl ?_
    first | refine DL.skip rfl rfl rfl ?_ | refine DL.go0 tauOK hE rfl (GStep.move rfl) rfl rfl ?_
    first | refine DL.skip rfl rfl rfl ?_ | refine DL.go0 tauOK hE rfl (GStep.move rfl) rfl rfl ?_
    first | refine DL.skip rfl rfl rfl ?_ | refine DL.go0 tauOK hE rfl (G.call (v := .val _) (news := []) rfl (All2.cons (ArgOf.row rfl rfl (by simp [flat_len])) (All2.cons (ArgOf.row rfl rfl (by simp [flat_len])) All2.nil)) (gEqP_refl) rfl rfl) rfl rfl ?_
    first | refine DL.skip rfl rfl rfl ?_ | refine DL.go0 tauOK hE rfl (GStep.not rfl) rfl rfl ?_
    first | refine DL.go0 tauOK hE rfl (GStep.pickT rfl rfl) rfl rfl ?_ | refine DL.go0 tauOK hE rfl (GStep.pickF rfl rfl) rfl rfl ?_
    refine DL.go0 tauOK hE rfl (GStep.move rfl) rfl rfl ?_
    first | refine DL.skip rfl rfl rfl ?_ | refine DL.go0 tauOK hE rfl (GStep.move rfl) rfl rfl ?_
    first | refine DL.skip rfl rfl rfl ?_ | refine DL.go0 tauOK hE rfl (GStep.move rfl) rfl rfl ?_
    first | refine DL.skip rfl rfl rfl ?_ | refine DL.go0 tauOK hE rfl (G.fl (GStep.neqB rfl rfl rfl) (by simp)) rfl rfl ?_
    first | refine DL.go0 tauOK hE rfl (GStep.pickT rfl rfl) rfl rfl ?_ | refine DL.go0 tauOK hE rfl (GStep.pickF rfl rfl) rfl rfl ?_
    refine DL.nil ?_
    refine DW.sub (T' := [(0, _), (3, _), (6, _), (7, _), (9, _), (67, _)]) (Sub.cons rfl (Sub.cons rfl (Sub.cons rfl (Sub.cons rfl (Sub.cons rfl (Sub.cons rfl Sub.nil)))))) (Sub.refl _) ?_
    refine DW.condF rfl ?_
    refine DW.skip ?_
    refine DW.seq ?_
    refine DW.region ?_
    refine DL.go0 tauOK hE rfl (GStep.assign rfl) rfl rfl ?_
    refine DL.nil ?_
    refine DW.sub (T' := [(0, _), (3, _), (6, _), (7, _), (9, _), (12, _)]) (Sub.cons rfl (Sub.cons rfl (Sub.cons rfl (Sub.cons rfl (Sub.cons rfl (Sub.cons rfl Sub.nil)))))) (Sub.refl _) ?_
    refine DW.seq ?_
    refine DW.region ?_
    refine DL.go0 tauOK hE rfl (GStep.move rfl) rfl rfl ?_
    refine DL.go0 tauOK hE rfl (GStep.move rfl) rfl rfl ?_
    refine DL.mut markKnotS_dm rfl rfl rfl rfl rfl rfl (by simp [flat_len]) (ValsOf.cons rfl ValsOf.nil) (gMark_eq _ _ (by omega) (by omega)) ?_
    intro hlen
    refine DL.go0 tauOK hE rfl (GStep.assign rfl) rfl rfl ?_
    refine DL.nil ?_
    refine DW.sub (T' := [(0, _), (3, _), (6, _), (7, _), (9, _), (12, _)]) (Sub.cons rfl (Sub.cons rfl (Sub.cons rfl (Sub.cons rfl (Sub.cons rfl (Sub.cons rfl Sub.nil)))))) (Sub.refl _) ?_
    refine DW.seq ?_
    refine DW.region ?_
    refine DL.go0 tauOK hE rfl (GStep.assign rfl) rfl rfl ?_
    refine DL.nil ?_
    refine DW.sub (T' := [(0, _), (3, _), (6, _), (7, _), (9, _), (12, _), (13, _)]) (Sub.cons rfl (Sub.cons rfl (Sub.cons rfl (Sub.cons rfl (Sub.cons rfl (Sub.cons rfl (Sub.cons rfl Sub.nil))))))) (Sub.refl _) ?_
    refine DW.seq ?_
    refine DW.region ?_
    refine DL.go0 tauOK hE rfl (GStep.move rfl) rfl rfl ?_
    refine DL.go0 tauOK hE rfl (GStep.move rfl) rfl rfl ?_
    refine DL.go0 tauOK hE rfl (G.call (v := .val _) (news := []) rfl (All2.cons (ArgOf.row rfl rfl (by simp [seqF_len, flat_len])) (All2.cons (ArgOf.v rfl) All2.nil)) (gHeldP_eq _ _ _ (by omega) (by omega)) rfl rfl) rfl rfl ?_
    refine DL.go0 tauOK hE rfl (GStep.assign rfl) rfl rfl ?_
    refine DL.nil ?_
    refine DW.sub (T' := [(0, _), (3, _), (6, _), (7, _), (9, _), (12, _), (13, _)]) (Sub.cons rfl (Sub.cons rfl (Sub.cons rfl (Sub.cons rfl (Sub.cons rfl (Sub.cons rfl (Sub.cons rfl Sub.nil))))))) (Sub.refl _) ?_
    refine DW.seq ?_
    refine DW.seq ?_
    refine DW.region ?_
    refine DL.go0 tauOK hE rfl (GStep.move rfl) rfl rfl ?_
    refine DL.go0 tauOK hE rfl (G.fl (GStep.binI rfl rfl rfl) (by simp; omega)) rfl rfl ?_
    refine DL.nil ?_
    refine DW.sub (T' := [(0, _), (3, _), (6, _), (7, _), (9, _), (12, _), (13, _), (75, _)]) (Sub.cons rfl (Sub.cons rfl (Sub.cons rfl (Sub.cons rfl (Sub.cons rfl (Sub.cons rfl (Sub.cons rfl (Sub.cons rfl Sub.nil)))))))) (Sub.refl _) ?_
    refine DW.condF rfl ?_
    refine DW.skip ?_
    refine DW.seq ?_
    refine DW.seq ?_
    refine DW.region ?_
    refine DL.go0 tauOK hE rfl (GStep.move rfl) rfl rfl ?_
    refine DL.go0 tauOK hE rfl (GStep.move rfl) rfl rfl ?_
    refine DL.go0 tauOK hE rfl (G.fl (GStep.binI rfl rfl rfl) (by simp)) rfl rfl ?_
    refine DL.nil ?_
    refine DW.sub (T' := [(0, _), (3, _), (6, _), (7, _), (9, _), (12, _), (78, _)]) (Sub.cons rfl (Sub.cons rfl (Sub.cons rfl (Sub.cons rfl (Sub.cons rfl (Sub.cons rfl (Sub.cons rfl Sub.nil))))))) (Sub.refl _) ?_
    refine DW.condF rfl ?_
    refine DW.skip ?_
    refine DW.seq ?_
    refine DW.draw tauOK hE mixed 10 (by kernel_rfl) ?_
    refine DR.go0 rfl (GStep.move rfl) rfl rfl ?_
    refine DR.go1 rfl (G.call (v := .sl _ 0 _) (news := [.row _ _ _]) rfl (All2.cons (ArgOf.ro rfl rfl (by simp [flat_len])) All2.nil) (gToP_eq (by omega)) rfl rfl) rfl rfl rfl ?_
    refine DR.go0 rfl (G.lb2 rfl rfl rfl) rfl rfl ?_
    refine DR.go0 rfl (G.call (v := .val _) (news := []) rfl (All2.cons (ArgOf.v rfl) All2.nil) (rfl) rfl rfl) rfl rfl ?_
    refine DR.go1 rfl (G.call (v := .tup [.s _ _, .v _]) (news := [.row _ _ _]) rfl (All2.cons (ArgOf.row rfl rfl (by simp [flat_len])) (All2.cons (ArgOf.v rfl) All2.nil)) (gAddK_flat) rfl rfl) rfl rfl rfl ?_
    refine DR.go0 rfl (GStep.move rfl) rfl rfl ?_
    refine DR.go0 rfl (GStep.extr rfl rfl) rfl rfl ?_
    refine DR.go0 rfl (GStep.extr rfl rfl) rfl rfl ?_
    refine DR.go0 rfl (GStep.assign rfl) rfl rfl ?_
    refine DR.go0 rfl (GStep.assign rfl) rfl rfl ?_
    refine DR.nil ?_
    refine DL.nil ?_
    refine DW.sub (T' := [(6, _), (7, _), (9, _), (12, _), (14, _), (15, _)]) (Sub.cons rfl (Sub.cons rfl (Sub.cons rfl (Sub.cons rfl (Sub.cons rfl (Sub.cons rfl Sub.nil)))))) (Sub.refl _) ?_
    refine DW.seq ?_
    refine DW.seq ?_
    refine DW.region ?_
    refine DL.go0 tauOK hE rfl (GStep.move rfl) rfl rfl ?_
    refine DL.go0 tauOK hE rfl (GStep.move rfl) rfl rfl ?_
    refine DL.go0 tauOK hE rfl (G.call (v := .val _) (news := []) rfl (All2.cons (ArgOf.row rfl rfl (by simp [flat_len])) (All2.cons (ArgOf.row rfl rfl (by simp [flat_len])) All2.nil)) (gEqP_refl) rfl rfl) rfl rfl ?_
    refine DL.go0 tauOK hE rfl (GStep.not rfl) rfl rfl ?_
    refine DL.go0 tauOK hE rfl (GStep.move rfl) rfl rfl ?_
    first | refine DL.skip rfl rfl rfl ?_ | refine DL.go0 tauOK hE rfl (GStep.move rfl) rfl rfl ?_
    first | refine DL.skip rfl rfl rfl ?_ | refine DL.go0 tauOK hE rfl (GStep.move rfl) rfl rfl ?_
    first | refine DL.skip rfl rfl rfl ?_ | refine DL.go0 tauOK hE rfl (G.fl (GStep.neqB rfl rfl rfl) (by simp)) rfl rfl ?_
    first | refine DL.go0 tauOK hE rfl (GStep.pickT rfl rfl) rfl rfl ?_ | refine DL.go0 tauOK hE rfl (GStep.pickF rfl rfl) rfl rfl ?_
    refine DL.nil ?_
    refine DW.sub (T' := [(9, _), (12, _), (95, _)]) (Sub.cons rfl (Sub.cons rfl (Sub.cons rfl Sub.nil))) (Sub.refl _) ?_
    refine DW.condF rfl ?_
    refine DW.skip ?_
    refine DW.seq ?_
    refine DW.region ?_
    refine DL.go0 tauOK hE rfl (GStep.assign rfl) rfl rfl ?_
    refine DL.nil ?_
    refine DW.sub (T' := [(9, _), (12, _), (13, _)]) (Sub.cons rfl (Sub.cons rfl (Sub.cons rfl Sub.nil))) (Sub.refl _) ?_
    refine DW.seq ?_
    refine DW.region ?_
    refine DL.go0 tauOK hE rfl (GStep.move rfl) rfl rfl ?_
    refine DL.go0 tauOK hE rfl (GStep.move rfl) rfl rfl ?_
    refine DL.go0 tauOK hE rfl (G.call (v := .val _) (news := []) rfl (All2.cons (ArgOf.row rfl rfl (by simp [seqF_len, flat_len])) (All2.cons (ArgOf.v rfl) All2.nil)) (gHeldP_eq _ _ _ (by omega) (by omega)) rfl rfl) rfl rfl ?_
    refine DL.go0 tauOK hE rfl (GStep.assign rfl) rfl rfl ?_
    refine DL.nil ?_
    refine DW.sub (T' := [(12, _), (13, _)]) (Sub.cons rfl (Sub.cons rfl Sub.nil)) (Sub.refl _) ?_
    refine DW.seq ?_
    refine DW.seq ?_
    refine DW.region ?_
    refine DL.go0 tauOK hE rfl (GStep.move rfl) rfl rfl ?_
    refine DL.go0 tauOK hE rfl (G.fl (GStep.binI rfl rfl rfl) (by simp; omega)) rfl rfl ?_
    refine DL.nil ?_
    refine DW.sub (T' := [(12, _), (13, _), (100, _)]) (Sub.cons rfl (Sub.cons rfl (Sub.cons rfl Sub.nil))) (Sub.refl _) ?_
    refine DW.condF rfl ?_
    refine DW.skip ?_
    refine DW.seq ?_
    refine DW.seq ?_
    refine DW.region ?_
    refine DL.go0 tauOK hE rfl (GStep.move rfl) rfl rfl ?_
    refine DL.go0 tauOK hE rfl (GStep.move rfl) rfl rfl ?_
    refine DL.go0 tauOK hE rfl (G.fl (GStep.binI rfl rfl rfl) (by simp)) rfl rfl ?_
    refine DL.nil ?_
    refine DW.sub (T' := [(103, _)]) (Sub.cons rfl Sub.nil) (Sub.refl _) ?_
    refine DW.condF rfl ?_
    refine DW.skip ?_
    refine DW.seq ?_
    refine DW.region ?_
    refine DL.go0 tauOK hE rfl (GStep.assign rfl) rfl rfl ?_
    refine DL.nil ?_
    refine DW.sub (T' := [(4, _)]) (Sub.cons rfl Sub.nil) (Sub.refl _) ?_
    refine DW.ret ?_
    exact RetD.vb rfl (by first | rfl | simp)
end Go.Proofs.Ythloecijjcodjaa
