/-
  The walk of the statement FnMean.
-/
import Derived.Test.YtlhkdgkaafhehaaBetR
import Derived.Test.YtlhkdgkaafhehaaDrawB
import Derived.Test.YtlhkdgkaafhehaaDenB
namespace Go.Proofs.Ytlhkdgkaafhehaa
open Go.RowKit
set_option linter.unusedVariables false
set_option linter.unusedSimpArgs false
theorem fnMean_dl : DFun Try.prog 11 gL1 := by
  have hE : EnvOK Try.prog [(21, gMean), (19, gMean), (24, gMul), (15, gBet), (17, gFrac)] := EnvOK.cons recordMean_di (EnvOK.cons recordMean_ds (EnvOK.cons fracMul_di (EnvOK.cons recordBetween_di (EnvOK.cons frac_dl EnvOK.nil))))
  refine DFun.of tauOK (fn := Try.f11) Try.func11 rfl (by kernel_rfl) rfl rfl ?_
  intro C ds r hg hl
  obtain ⟨bs, rfl, rfl, hb, hbl⟩ := gL1_inv hg hl
  clear hg hl
  refine ⟨by simp, ?_⟩
  refine DW.seq ?_
  refine DW.region ?_
  refine DL.go0 tauOK hE rfl (GStep.assign rfl) rfl rfl ?_
  refine DL.nil ?_
  refine DW.sub (T' := [(0, _)]) (Sub.cons rfl Sub.nil) (Sub.refl _) ?_
  refine DW.seq ?_
  refine DW.seq ?_
  refine DW.region ?_
  refine DL.go0 tauOK hE rfl (GStep.move rfl) rfl rfl ?_
  first | refine DL.go0 tauOK hE rfl (GStep.len rfl rfl rfl) rfl rfl ?_ | refine DL.go0 tauOK hE rfl (GStep.lenNil rfl rfl) rfl rfl ?_
  refine DL.go0 tauOK hE rfl (GStep.binI rfl rfl rfl) rfl rfl ?_
  refine DL.nil ?_
  refine DW.sub (T' := [(0, _), (17, _)]) (Sub.cons rfl (Sub.cons rfl Sub.nil)) (Sub.refl _) ?_
  refine DW.cond rfl (fun h1 => ?_) (fun h1 => ?_)
  · skip
    refine DW.seq ?_
    refine DW.region ?_
    refine DL.go0 tauOK hE rfl (GStep.assign rfl) rfl rfl ?_
    refine DL.nil ?_
    refine DW.sub (T' := [(2, _)]) (Sub.cons rfl Sub.nil) (Sub.refl _) ?_
    refine DW.ret ?_
    exact RetD.vb rfl (by first | rfl | simp)
  · skip
    have gd : gDraw BetN [.sl .u8 1 bs.length bs] = some BetN := if_pos hb
    refine DW.skip ?_
    refine DW.seq ?_
    refine DW.region ?_
    refine DL.go0 tauOK hE rfl (GStep.move rfl) rfl rfl ?_
    refine DL.rel DrawRecordMean_dr rfl rfl rfl rfl rfl (All2.cons (ArgOf.ro rfl rfl (by simp [flat_len])) All2.nil) (gd) ?_
    rintro r ⟨l, a, t, b, rfl, e1, e2, e3, e4, bl, ba, t0, t1, b0, b1⟩
    refine ⟨by simp [resN, rws], ?_⟩
    show DL _ _ _ _ _ _ ((20, .tup [.s 20 _, .s 1020 _, .v _, .v _]) :: _) ((1020, .row _ _ _) :: (20, .row _ _ _) :: _)
    refine DL.go0 tauOK hE rfl (GStep.move rfl) rfl rfl ?_
    refine DL.go0 tauOK hE rfl (GStep.extr rfl rfl) rfl rfl ?_
    refine DL.go0 tauOK hE rfl (GStep.extr rfl rfl) rfl rfl ?_
    refine DL.go0 tauOK hE rfl (GStep.extr rfl rfl) rfl rfl ?_
    refine DL.go0 tauOK hE rfl (GStep.extr rfl rfl) rfl rfl ?_
    refine DL.go0 tauOK hE rfl (GStep.assign rfl) rfl rfl ?_
    refine DL.go0 tauOK hE rfl (GStep.assign rfl) rfl rfl ?_
    refine DL.go0 tauOK hE rfl (GStep.assign rfl) rfl rfl ?_
    refine DL.go0 tauOK hE rfl (GStep.assign rfl) rfl rfl ?_
    refine DL.nil ?_
    refine DW.sub (T' := [(3, _), (4, _), (5, _), (6, _)]) (Sub.cons rfl (Sub.cons rfl (Sub.cons rfl (Sub.cons rfl Sub.nil)))) (Sub.refl _) ?_
    refine DW.seq ?_
    refine DW.region ?_
    refine DL.go0 tauOK hE rfl (GStep.move rfl) rfl rfl ?_
    refine DL.go0 tauOK hE rfl (GStep.move rfl) rfl rfl ?_
    refine DL.go0 tauOK hE rfl (GStep.move rfl) rfl rfl ?_
    refine DL.go0 tauOK hE rfl (GStep.move rfl) rfl rfl ?_
    refine DL.go0 tauOK hE rfl (G.call (v := .tup [.v _, .v _]) (news := []) rfl (All2.cons (ArgOf.row rfl rfl (by simp [flat_len])) (All2.cons (ArgOf.row rfl rfl (by simp [flat_len])) (All2.cons (ArgOf.v rfl) (All2.cons (ArgOf.v rfl) All2.nil)))) (rfl) rfl rfl) rfl rfl ?_
    refine DL.go0 tauOK hE rfl (GStep.move rfl) rfl rfl ?_
    refine DL.go0 tauOK hE rfl (GStep.extr rfl rfl) rfl rfl ?_
    refine DL.go0 tauOK hE rfl (GStep.extr rfl rfl) rfl rfl ?_
    refine DL.go1 tauOK hE rfl (GStep.alloc2 rfl) rfl rfl rfl ?_
    refine DL.sb2 tauOK rfl rfl rfl rfl rfl rfl rfl ?_
    refine DL.go0 tauOK hE rfl (GStep.assign rfl) rfl rfl ?_
    refine DL.nil ?_
    refine DW.sub (T' := [(3, _), (4, _), (5, _), (6, _), (7, _), (8, _)]) (Sub.cons rfl (Sub.cons rfl (Sub.cons rfl (Sub.cons rfl (Sub.cons rfl (Sub.cons rfl Sub.nil)))))) (Sub.refl _) ?_
    refine DW.seq ?_
    refine DW.region ?_
    refine DL.go0 tauOK hE rfl (GStep.move rfl) rfl rfl ?_
    refine DL.go0 tauOK hE rfl (GStep.move rfl) rfl rfl ?_
    refine DL.go0 tauOK hE rfl (GStep.move rfl) rfl rfl ?_
    refine DL.go0 tauOK hE rfl (GStep.move rfl) rfl rfl ?_
    refine DL.go0 tauOK hE rfl (G.call (v := .tup [.v _, .v _]) (news := []) rfl (All2.cons (ArgOf.row rfl rfl (by simp [flat_len])) (All2.cons (ArgOf.row rfl rfl (by simp [flat_len])) (All2.cons (ArgOf.v rfl) (All2.cons (ArgOf.v rfl) All2.nil)))) (rfl) rfl rfl) rfl rfl ?_
    refine DL.go0 tauOK hE rfl (GStep.move rfl) rfl rfl ?_
    refine DL.go0 tauOK hE rfl (GStep.extr rfl rfl) rfl rfl ?_
    refine DL.go0 tauOK hE rfl (GStep.extr rfl rfl) rfl rfl ?_
    refine DL.go1 tauOK hE rfl (GStep.alloc2 rfl) rfl rfl rfl ?_
    refine DL.sb2 tauOK rfl rfl rfl rfl rfl rfl rfl ?_
    refine DL.go0 tauOK hE rfl (GStep.assign rfl) rfl rfl ?_
    refine DL.nil ?_
    refine DW.sub (T' := [(3, _), (4, _), (5, _), (6, _), (7, _), (8, _), (9, _), (10, _)]) (Sub.cons rfl (Sub.cons rfl (Sub.cons rfl (Sub.cons rfl (Sub.cons rfl (Sub.cons rfl (Sub.cons rfl (Sub.cons rfl Sub.nil)))))))) (Sub.refl _) ?_
    refine DW.seq ?_
    refine DW.seq ?_
    cases hf : meanF l a t b
    · skip
      refine DW.region ?_
      refine DL.go0 tauOK hE rfl (GStep.move rfl) rfl rfl ?_
      refine DL.go0 tauOK hE rfl (GStep.move rfl) rfl rfl ?_
      refine DL.go0 tauOK hE rfl (GStep.neqB rfl rfl rfl) rfl rfl ?_
      refine DL.go0 tauOK hE rfl (GStep.move rfl) rfl rfl ?_
      first | refine DL.skip rfl rfl rfl ?_ | refine DL.go0 tauOK hE rfl (G.lb2 rfl rfl rfl) rfl rfl ?_
      first | refine DL.skip rfl rfl rfl ?_ | refine DL.go0 tauOK hE rfl (G.lb2 rfl rfl rfl) rfl rfl ?_
      first | refine DL.skip rfl rfl rfl ?_ | refine DL.go0 tauOK hE rfl (GStep.neqP rfl rfl rfl) rfl rfl ?_
      first | refine DL.go0 tauOK hE rfl (GStep.pickT rfl rfl) rfl rfl ?_ | refine DL.go0 tauOK hE rfl (GStep.pickF rfl rfl) rfl rfl ?_
      refine DL.go0 tauOK hE rfl (GStep.move rfl) rfl rfl ?_
      first | refine DL.skip rfl rfl rfl ?_ | refine DL.go0 tauOK hE rfl (GStep.move rfl) rfl rfl ?_
      first | refine DL.skip rfl rfl rfl ?_ | refine DL.go0 tauOK hE rfl (GStep.not rfl) rfl rfl ?_
      first | refine DL.go0 tauOK hE rfl (GStep.pickT rfl rfl) rfl rfl ?_ | refine DL.go0 tauOK hE rfl (GStep.pickF rfl rfl) rfl rfl ?_
      refine DL.nil ?_
      refine DW.sub (T' := [(3, _), (4, _), (5, _), (6, _), (7, _), (8, _), (9, _), (10, _), (52, _)]) (Sub.cons rfl (Sub.cons rfl (Sub.cons rfl (Sub.cons rfl (Sub.cons rfl (Sub.cons rfl (Sub.cons rfl (Sub.cons rfl (Sub.cons rfl Sub.nil))))))))) (Sub.refl _) ?_
      refine DW.condT rfl ?_
      refine DW.seq ?_
      refine DW.region ?_
      refine DL.go0 tauOK hE rfl (GStep.move rfl) rfl rfl ?_
      refine DL.go0 tauOK hE rfl (GStep.move rfl) rfl rfl ?_
      refine DL.go0 tauOK hE rfl (GStep.eqlB rfl rfl rfl) rfl rfl ?_
      refine DL.go0 tauOK hE rfl (GStep.move rfl) rfl rfl ?_
      first | refine DL.skip rfl rfl rfl ?_ | refine DL.go0 tauOK hE rfl (G.lb2 rfl rfl rfl) rfl rfl ?_
      first | refine DL.skip rfl rfl rfl ?_ | refine DL.go0 tauOK hE rfl (G.lb2 rfl rfl rfl) rfl rfl ?_
      first | refine DL.skip rfl rfl rfl ?_ | refine DL.go0 tauOK hE rfl (GStep.eqlP rfl rfl rfl) rfl rfl ?_
      first | refine DL.go0 tauOK hE rfl (GStep.pickT rfl rfl) rfl rfl ?_ | refine DL.go0 tauOK hE rfl (GStep.pickF rfl rfl) rfl rfl ?_
      refine DL.go0 tauOK hE rfl (GStep.assign rfl) rfl rfl ?_
      refine DL.nil ?_
      refine DW.sub (T' := [(2, _)]) (Sub.cons rfl Sub.nil) (Sub.refl _) ?_
      refine DW.ret ?_
      exact RetD.vb rfl (by first | rfl | simp)
    · skip
      rename_i f
      obtain ⟨s, q1, q2, q3⟩ := mean_back hf
      refine DW.region ?_
      refine DL.go0 tauOK hE rfl (GStep.move rfl) rfl rfl ?_
      refine DL.go0 tauOK hE rfl (GStep.move rfl) rfl rfl ?_
      refine DL.go0 tauOK hE rfl (GStep.neqB rfl rfl rfl) rfl rfl ?_
      refine DL.go0 tauOK hE rfl (GStep.move rfl) rfl rfl ?_
      first | refine DL.skip rfl rfl rfl ?_ | refine DL.go0 tauOK hE rfl (G.lb2 rfl rfl rfl) rfl rfl ?_
      first | refine DL.skip rfl rfl rfl ?_ | refine DL.go0 tauOK hE rfl (G.lb2 rfl rfl rfl) rfl rfl ?_
      first | refine DL.skip rfl rfl rfl ?_ | refine DL.go0 tauOK hE rfl (G.fl (GStep.neqP rfl rfl rfl) (by simp)) rfl rfl ?_
      first | refine DL.go0 tauOK hE rfl (GStep.pickT rfl rfl) rfl rfl ?_ | refine DL.go0 tauOK hE rfl (GStep.pickF rfl rfl) rfl rfl ?_
      refine DL.go0 tauOK hE rfl (GStep.move rfl) rfl rfl ?_
      first | refine DL.skip rfl rfl rfl ?_ | refine DL.go0 tauOK hE rfl (GStep.move rfl) rfl rfl ?_
      first | refine DL.skip rfl rfl rfl ?_ | refine DL.go0 tauOK hE rfl (GStep.not rfl) rfl rfl ?_
      first | refine DL.go0 tauOK hE rfl (GStep.pickT rfl rfl) rfl rfl ?_ | refine DL.go0 tauOK hE rfl (GStep.pickF rfl rfl) rfl rfl ?_
      refine DL.nil ?_
      refine DW.sub (T' := [(3, _), (4, _), (5, _), (6, _), (7, _), (8, _), (9, _), (10, _), (52, _)]) (Sub.cons rfl (Sub.cons rfl (Sub.cons rfl (Sub.cons rfl (Sub.cons rfl (Sub.cons rfl (Sub.cons rfl (Sub.cons rfl (Sub.cons rfl Sub.nil))))))))) (Sub.refl _) ?_
      refine DW.condF rfl ?_
      refine DW.skip ?_
      refine DW.seq ?_
      refine DW.draw tauOK hE mixed 10 (by kernel_rfl) ?_
      refine DR.go0 rfl (G.lb2 rfl rfl rfl) rfl rfl ?_
      refine DR.go0 rfl (GStep.move rfl) rfl rfl ?_
      refine DR.go0 rfl (GStep.move rfl) rfl rfl ?_
      first | refine DR.go0 rfl (G.sub rfl rfl (by omega)) rfl rfl ?_ | refine DR.go0 rfl (GStep.binI rfl rfl rfl) rfl rfl ?_
      refine DR.go0 rfl (G.call (v := .val _) (news := []) rfl (All2.cons (ArgOf.v rfl) All2.nil) (rfl) rfl rfl) rfl rfl ?_
      refine DR.go0 rfl (G.call (v := .tup [.v _, .v _]) (news := []) rfl (All2.cons (ArgOf.v rfl) (All2.cons (ArgOf.v rfl) All2.nil)) (congrArg (fun f => some (rF f)) q2) rfl rfl) rfl rfl ?_
      refine DR.go0 rfl (GStep.move rfl) rfl rfl ?_
      refine DR.go0 rfl (GStep.extr rfl rfl) rfl rfl ?_
      refine DR.go0 rfl (GStep.extr rfl rfl) rfl rfl ?_
      refine DR.go1 rfl (GStep.alloc2 rfl) rfl rfl rfl ?_
      refine DR.nil ?_
      refine DL.sb2 tauOK rfl rfl rfl rfl rfl rfl rfl ?_
      refine DL.go0 tauOK hE rfl (GStep.assign rfl) rfl rfl ?_
      refine DL.nil ?_
      refine DW.sub (T' := [(3, _), (4, _), (5, _), (6, _), (11, _), (12, _)]) (Sub.cons rfl (Sub.cons rfl (Sub.cons rfl (Sub.cons rfl (Sub.cons rfl (Sub.cons rfl Sub.nil)))))) (Sub.refl _) ?_
      refine DW.seq ?_
      refine DW.region ?_
      refine DL.go0 tauOK hE rfl (GStep.move rfl) rfl rfl ?_
      refine DL.go0 tauOK hE rfl (GStep.move rfl) rfl rfl ?_
      refine DL.go0 tauOK hE rfl (GStep.move rfl) rfl rfl ?_
      refine DL.go0 tauOK hE rfl (GStep.move rfl) rfl rfl ?_
      refine DL.go0 tauOK hE rfl (G.call (v := .tup [.v _, .v _]) (news := []) rfl (All2.cons (ArgOf.row rfl rfl (by simp [flat_len])) (All2.cons (ArgOf.row rfl rfl (by simp [flat_len])) (All2.cons (ArgOf.v rfl) (All2.cons (ArgOf.v rfl) All2.nil)))) (congrArg (fun f => some (rF f)) q1) rfl rfl) rfl rfl ?_
      refine DL.go0 tauOK hE rfl (GStep.move rfl) rfl rfl ?_
      refine DL.go0 tauOK hE rfl (GStep.extr rfl rfl) rfl rfl ?_
      refine DL.go0 tauOK hE rfl (GStep.extr rfl rfl) rfl rfl ?_
      refine DL.go1 tauOK hE rfl (GStep.alloc2 rfl) rfl rfl rfl ?_
      refine DL.sb2 tauOK rfl rfl rfl rfl rfl rfl rfl ?_
      refine DL.go0 tauOK hE rfl (GStep.assign rfl) rfl rfl ?_
      refine DL.nil ?_
      refine DW.sub (T' := [(5, _), (6, _), (11, _), (12, _), (13, _), (14, _)]) (Sub.cons rfl (Sub.cons rfl (Sub.cons rfl (Sub.cons rfl (Sub.cons rfl (Sub.cons rfl Sub.nil)))))) (Sub.refl _) ?_
      refine DW.seq ?_
      refine DW.region ?_
      refine DL.go0 tauOK hE rfl (GStep.move rfl) rfl rfl ?_
      refine DL.go0 tauOK hE rfl (GStep.move rfl) rfl rfl ?_
      first | refine DL.skip rfl rfl rfl ?_ | refine DL.go0 tauOK hE rfl (GStep.move rfl) rfl rfl ?_
      first | refine DL.go0 tauOK hE rfl (GStep.pickT rfl rfl) rfl rfl ?_ | refine DL.go0 tauOK hE rfl (GStep.pickF rfl rfl) rfl rfl ?_
      refine DL.go0 tauOK hE rfl (GStep.move rfl) rfl rfl ?_
      first | refine DL.skip rfl rfl rfl ?_ | refine DL.go0 tauOK hE rfl (G.lb2 rfl rfl rfl) rfl rfl ?_
      first | refine DL.skip rfl rfl rfl ?_ | refine DL.go0 tauOK hE rfl (G.lb2 rfl rfl rfl) rfl rfl ?_
      first | refine DL.skip rfl rfl rfl ?_ | refine DL.go0 tauOK hE rfl (G.tr (GStep.eqlP rfl rfl rfl) (by simp)) rfl rfl ?_
      first | refine DL.go0 tauOK hE rfl (GStep.pickT rfl rfl) rfl rfl ?_ | refine DL.go0 tauOK hE rfl (GStep.pickF rfl rfl) rfl rfl ?_
      refine DL.go0 tauOK hE rfl (GStep.move rfl) rfl rfl ?_
      first | refine DL.skip rfl rfl rfl ?_ | refine DL.go0 tauOK hE rfl (GStep.move rfl) rfl rfl ?_
      first | refine DL.skip rfl rfl rfl ?_ | refine DL.go0 tauOK hE rfl (GStep.move rfl) rfl rfl ?_
      first | refine DL.skip rfl rfl rfl ?_ | refine DL.go0 tauOK hE rfl (G.tr (GStep.binI rfl rfl rfl) (decide_eq_true (show b > t by omega))) rfl rfl ?_
      first | refine DL.go0 tauOK hE rfl (GStep.pickT rfl rfl) rfl rfl ?_ | refine DL.go0 tauOK hE rfl (GStep.pickF rfl rfl) rfl rfl ?_
      refine DL.go0 tauOK hE rfl (GStep.assign rfl) rfl rfl ?_
      refine DL.nil ?_
      refine DW.sub (T' := [(2, _)]) (Sub.cons rfl Sub.nil) (Sub.refl _) ?_
      refine DW.ret ?_
      exact RetD.vb rfl (by first | rfl | simp)
end Go.Proofs.Ytlhkdgkaafhehaa
