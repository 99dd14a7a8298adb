/-
  The walk of the statement FnCurveAdd.
-/
import Derived.Test.YtidcomcnieggaaaCurA
import Derived.Test.YtidcomcnieggaaaCurQ
import Derived.Test.YtidcomcnieggaaaDrawA
import Derived.Test.YtidcomcnieggaaaLLn
namespace Go.Proofs.Ytidcomcnieggaaa
open Go.RowKit
set_option linter.unusedVariables false
set_option linter.unusedSimpArgs false
theorem fnCurveAdd_dl : DFun Try.prog 3 gL2 := by
  have hE : EnvOK Try.prog [(13, gAddK), (14, gAddK), (15, gEqP), (16, gCurAt), (17, gFrac)] := EnvOK.cons curveAdd_di (EnvOK.cons curveAdd_ds (EnvOK.cons sameKnots_dl (EnvOK.cons curveAtX_di (EnvOK.cons frac_dl EnvOK.nil))))
  refine DFun.of tauOK (fn := Try.f3) Try.func3 rfl (by kernel_rfl) rfl rfl ?_
  intro C ds r hg hl
  obtain ⟨bs, ms, rfl, rfl, hb, hbl, hml⟩ := gL2_inv hg hl
  clear hg hl
  refine ⟨by simp, ?_⟩
  refine DW.seq ?_
  refine DW.region ?_
  refine DL.go0 tauOK hE rfl (GStep.assign rfl) rfl rfl ?_
  refine DL.nil ?_
  refine DW.sub (T' := [(0, _), (1, _)]) (Sub.cons rfl (Sub.cons rfl Sub.nil)) (Sub.refl _) ?_
  refine DW.seq ?_
  refine DW.cut 28 (decide ((bs.length : Int) > 1048576) || decide ((ms.length : Int) > 1048576)) [0, 1] ?_ ?_
  · cases hc1 : decide ((bs.length : Int) > 1048576) <;> cases hc2 : decide ((ms.length : Int) > 1048576) <;> (
      (try have q_hc1 := of_decide_eq_true hc1); (try have q_hc1 := of_decide_eq_false hc1)
      (try have q_hc2 := of_decide_eq_true hc2); (try have q_hc2 := of_decide_eq_false hc2)
      refine DW.region ?_
      refine DL.go0 tauOK hE rfl (GStep.move rfl) rfl rfl ?_
      first | refine DL.go0 tauOK hE rfl (GStep.len rfl rfl rfl) rfl rfl ?_ | refine DL.go0 tauOK hE rfl (GStep.lenNil rfl rfl) rfl rfl ?_
      try rw [hc1]
      try rw [hc2]
      refine DL.go0 tauOK hE rfl (GStep.binI rfl rfl rfl) rfl rfl ?_
      try rw [hc1]
      try rw [hc2]
      refine DL.go0 tauOK hE rfl (GStep.move rfl) rfl rfl ?_
      first | refine DL.skip rfl rfl rfl ?_ | refine DL.go0 tauOK hE rfl (GStep.move rfl) rfl rfl ?_
      first | refine DL.skip rfl rfl rfl ?_ | refine DL.go0 tauOK hE rfl (GStep.len rfl rfl rfl) rfl rfl ?_ | refine DL.go0 tauOK hE rfl (GStep.lenNil rfl rfl) rfl rfl ?_
      try rw [hc1]
      try rw [hc2]
      first | refine DL.skip rfl rfl rfl ?_ | refine DL.go0 tauOK hE rfl (GStep.binI rfl rfl rfl) rfl rfl ?_
      try rw [hc1]
      try rw [hc2]
      first | refine DL.go0 tauOK hE rfl (GStep.pickT rfl rfl) rfl rfl ?_ | refine DL.go0 tauOK hE rfl (GStep.pickF rfl rfl) rfl rfl ?_
      refine DL.nil ?_
      exact ⟨rfl, _, rfl, by simp [hc1, hc2], SubK.cons rfl (SubK.cons rfl (SubK.nil)), Sub.refl _⟩)
  refine DW.sub (T' := [(0, _), (1, _), (28, _)]) (Sub.cons rfl (Sub.cons rfl (Sub.cons rfl Sub.nil))) (Sub.refl _) ?_
  refine DW.cond rfl (fun h1 => ?_) (fun h1 => ?_)
  · skip
    refine DW.seq ?_
    refine DW.region ?_
    refine DL.go0 tauOK hE rfl (GStep.assign rfl) rfl rfl ?_
    refine DL.nil ?_
    refine DW.sub (T' := [(4, _)]) (Sub.cons rfl Sub.nil) (Sub.refl _) ?_
    refine DW.ret ?_
    exact RetD.vb rfl (by first | rfl | (simp; done) | simp [fN, fD, fOk])
  · skip
    have gd : gDraw AddN [.sl .u8 1 bs.length bs] = some AddN := if_pos hb
    refine DW.skip ?_
    refine DW.seq ?_
    refine DW.region ?_
    refine DL.go0 tauOK hE rfl (GStep.move rfl) rfl rfl ?_
    refine DL.rel DrawCurveAdd_dr rfl rfl rfl rfl rfl (All2.cons (ArgOf.ro rfl rfl (by simp [flat_len])) All2.nil) (gd) ?_
    rintro r ⟨c, a, b, rfl, e1, e2, bc, ba, bb⟩
    refine ⟨by simp [resN, rws], ?_⟩
    show DL _ _ _ _ _ _ ((31, .tup [.s 31 _, .v _]) :: _) ((31, .row _ _ _) :: _)
    refine DL.go0 tauOK hE rfl (GStep.move rfl) rfl rfl ?_
    refine DL.go0 tauOK hE rfl (GStep.extr rfl rfl) rfl rfl ?_
    refine DL.go0 tauOK hE rfl (GStep.extr rfl rfl) rfl rfl ?_
    refine DL.go1 tauOK hE rfl (GStep.alloc2 rfl) rfl rfl rfl ?_
    refine DL.go0 tauOK hE rfl (GStep.assign rfl) rfl rfl ?_
    refine DL.sb2 tauOK rfl rfl rfl rfl rfl rfl rfl ?_
    refine DL.nil ?_
    refine DW.sub (T' := [(1, _), (5, _), (6, _)]) (Sub.cons rfl (Sub.cons rfl (Sub.cons rfl Sub.nil))) (Sub.refl _) ?_
    refine DW.seq ?_
    refine DW.region ?_
    refine DL.go0 tauOK hE rfl (GStep.move rfl) rfl rfl ?_
    refine DL.go0 tauOK hE rfl (G.lb2 rfl rfl rfl) rfl rfl ?_
    refine DL.go1 tauOK hE rfl (G.call (v := .tup [.s _ _, .v _]) (news := [.row _ _ _]) rfl (All2.cons (ArgOf.row rfl rfl (by simp [flat_len])) (All2.cons (ArgOf.v rfl) All2.nil)) (gAddK_flat) rfl rfl) rfl rfl rfl ?_
    refine DL.go0 tauOK hE rfl (GStep.move rfl) rfl rfl ?_
    refine DL.go0 tauOK hE rfl (GStep.extr rfl rfl) rfl rfl ?_
    refine DL.go0 tauOK hE rfl (GStep.extr rfl rfl) rfl rfl ?_
    refine DL.go0 tauOK hE rfl (GStep.assign rfl) rfl rfl ?_
    refine DL.go0 tauOK hE rfl (GStep.assign rfl) rfl rfl ?_
    refine DL.nil ?_
    refine DW.sub (T' := [(1, _), (5, _), (6, _), (7, _), (8, _)]) (Sub.cons rfl (Sub.cons rfl (Sub.cons rfl (Sub.cons rfl (Sub.cons rfl Sub.nil))))) (Sub.refl _) ?_
    refine DW.seq ?_
    refine DW.region ?_
    refine DL.go0 tauOK hE rfl (GStep.move rfl) rfl rfl ?_
    refine DL.go0 tauOK hE rfl (G.lb2 rfl rfl rfl) rfl rfl ?_
    refine DL.go1 tauOK hE rfl (G.call (v := .tup [.s _ _, .v _]) (news := [.row _ _ _]) rfl (All2.cons (ArgOf.row rfl rfl (by simp [flat_len])) (All2.cons (ArgOf.v rfl) All2.nil)) (gAddK_flat) rfl rfl) rfl rfl rfl ?_
    refine DL.go0 tauOK hE rfl (GStep.move rfl) rfl rfl ?_
    refine DL.go0 tauOK hE rfl (GStep.extr rfl rfl) rfl rfl ?_
    refine DL.go0 tauOK hE rfl (GStep.extr rfl rfl) rfl rfl ?_
    refine DL.go0 tauOK hE rfl (GStep.assign rfl) rfl rfl ?_
    refine DL.go0 tauOK hE rfl (GStep.assign rfl) rfl rfl ?_
    refine DL.nil ?_
    refine DW.sub (T' := [(1, _), (5, _), (6, _), (7, _), (8, _), (9, _), (10, _)]) (Sub.cons rfl (Sub.cons rfl (Sub.cons rfl (Sub.cons rfl (Sub.cons rfl (Sub.cons rfl (Sub.cons rfl Sub.nil))))))) (Sub.refl _) ?_
    refine DW.seq ?_
    refine DW.seq ?_
    cases ho : addO c (a, b)
    · skip
      refine DW.region ?_
      refine DL.go0 tauOK hE rfl (GStep.move rfl) rfl rfl ?_
      refine DL.go0 tauOK hE rfl (GStep.move rfl) rfl rfl ?_
      refine DL.go0 tauOK hE rfl (GStep.neqB rfl rfl rfl) rfl rfl ?_
      refine DL.go0 tauOK hE rfl (GStep.move rfl) rfl rfl ?_
      first | refine DL.skip rfl rfl rfl ?_ | refine DL.go0 tauOK hE rfl (GStep.move rfl) rfl rfl ?_
      first | refine DL.skip rfl rfl rfl ?_ | refine DL.go0 tauOK hE rfl (GStep.move rfl) rfl rfl ?_
      first | refine DL.skip rfl rfl rfl ?_ | refine DL.go0 tauOK hE rfl (G.call (v := .val _) (news := []) rfl (All2.cons (ArgOf.row rfl rfl (by simp [flat_len])) (All2.cons (ArgOf.row rfl rfl (by simp [flat_len])) All2.nil)) (gEqP_refl) rfl rfl) rfl rfl ?_
      first | refine DL.skip rfl rfl rfl ?_ | refine DL.go0 tauOK hE rfl (GStep.not rfl) rfl rfl ?_
      first | refine DL.go0 tauOK hE rfl (GStep.pickT rfl rfl) rfl rfl ?_ | refine DL.go0 tauOK hE rfl (GStep.pickF rfl rfl) rfl rfl ?_
      refine DL.go0 tauOK hE rfl (GStep.move rfl) rfl rfl ?_
      first | refine DL.skip rfl rfl rfl ?_ | refine DL.go0 tauOK hE rfl (GStep.move rfl) rfl rfl ?_
      first | refine DL.skip rfl rfl rfl ?_ | refine DL.go0 tauOK hE rfl (GStep.not rfl) rfl rfl ?_
      first | refine DL.go0 tauOK hE rfl (GStep.pickT rfl rfl) rfl rfl ?_ | refine DL.go0 tauOK hE rfl (GStep.pickF rfl rfl) rfl rfl ?_
      refine DL.nil ?_
      refine DW.sub (T' := [(1, _), (5, _), (6, _), (7, _), (8, _), (9, _), (10, _), (58, _)]) (Sub.cons rfl (Sub.cons rfl (Sub.cons rfl (Sub.cons rfl (Sub.cons rfl (Sub.cons rfl (Sub.cons rfl (Sub.cons rfl Sub.nil)))))))) (Sub.refl _) ?_
      refine DW.condT rfl ?_
      refine DW.seq ?_
      refine DW.region ?_
      refine DL.go0 tauOK hE rfl (GStep.move rfl) rfl rfl ?_
      refine DL.go0 tauOK hE rfl (GStep.move rfl) rfl rfl ?_
      refine DL.go0 tauOK hE rfl (GStep.eqlB rfl rfl rfl) rfl rfl ?_
      refine DL.go0 tauOK hE rfl (GStep.move rfl) rfl rfl ?_
      first | refine DL.skip rfl rfl rfl ?_ | refine DL.go0 tauOK hE rfl (GStep.move rfl) rfl rfl ?_
      first | refine DL.skip rfl rfl rfl ?_ | refine DL.go0 tauOK hE rfl (GStep.move rfl) rfl rfl ?_
      first | refine DL.skip rfl rfl rfl ?_ | refine DL.go0 tauOK hE rfl (G.call (v := .val _) (news := []) rfl (All2.cons (ArgOf.row rfl rfl (by simp [flat_len])) (All2.cons (ArgOf.row rfl rfl (by simp [flat_len])) All2.nil)) (gEqP_refl) rfl rfl) rfl rfl ?_
      first | refine DL.go0 tauOK hE rfl (GStep.pickT rfl rfl) rfl rfl ?_ | refine DL.go0 tauOK hE rfl (GStep.pickF rfl rfl) rfl rfl ?_
      refine DL.go0 tauOK hE rfl (GStep.assign rfl) rfl rfl ?_
      refine DL.nil ?_
      refine DW.sub (T' := [(4, _)]) (Sub.cons rfl Sub.nil) (Sub.refl _) ?_
      refine DW.ret ?_
      exact RetD.vb rfl (by first | rfl | (simp; done) | simp [fN, fD, fOk])
    · skip
      have hc := (addO_iff.1 ho).1
      have hcl := cur_len hc
      have b0 := cur_bd hc (i := 0) (by omega)
      have b1 := cur_bd hc (i := c.length - 1) (by omega)
      have hlt := (cur_up hc (show 0 < c.length - 1 by omega) (by omega)).1
      unfold kx ky at b0 b1
      unfold kx at hlt
      obtain ⟨x, ex, x1, x2, x3, x4, x5⟩ := curX_ex (n := ms.length) hc
      have hlen : (addK c (a, b)).length = c.length + 1 := by rw [addL_eq ho, insK_len]
      have q1 := add_at ho
      obtain ⟨f, hf⟩ := curAt_tot hc x1 x2
      obtain ⟨g, hg⟩ := add_tot ho x1 x2
      obtain ⟨f1, f2⟩ := f
      obtain ⟨g1, g2⟩ := g
      refine DW.region ?_
      refine DL.go0 tauOK hE rfl (GStep.move rfl) rfl rfl ?_
      refine DL.go0 tauOK hE rfl (GStep.move rfl) rfl rfl ?_
      refine DL.go0 tauOK hE rfl (GStep.neqB rfl rfl rfl) rfl rfl ?_
      refine DL.go0 tauOK hE rfl (GStep.move rfl) rfl rfl ?_
      first | refine DL.skip rfl rfl rfl ?_ | refine DL.go0 tauOK hE rfl (GStep.move rfl) rfl rfl ?_
      first | refine DL.skip rfl rfl rfl ?_ | refine DL.go0 tauOK hE rfl (GStep.move rfl) rfl rfl ?_
      first | refine DL.skip rfl rfl rfl ?_ | refine DL.go0 tauOK hE rfl (G.call (v := .val _) (news := []) rfl (All2.cons (ArgOf.row rfl rfl (by simp [flat_len])) (All2.cons (ArgOf.row rfl rfl (by simp [flat_len])) All2.nil)) (gEqP_refl) rfl rfl) rfl rfl ?_
      first | refine DL.skip rfl rfl rfl ?_ | refine DL.go0 tauOK hE rfl (GStep.not rfl) rfl rfl ?_
      first | refine DL.go0 tauOK hE rfl (GStep.pickT rfl rfl) rfl rfl ?_ | refine DL.go0 tauOK hE rfl (GStep.pickF rfl rfl) rfl rfl ?_
      refine DL.go0 tauOK hE rfl (GStep.move rfl) rfl rfl ?_
      first | refine DL.skip rfl rfl rfl ?_ | refine DL.go0 tauOK hE rfl (GStep.move rfl) rfl rfl ?_
      first | refine DL.skip rfl rfl rfl ?_ | refine DL.go0 tauOK hE rfl (GStep.not rfl) rfl rfl ?_
      first | refine DL.go0 tauOK hE rfl (GStep.pickT rfl rfl) rfl rfl ?_ | refine DL.go0 tauOK hE rfl (GStep.pickF rfl rfl) rfl rfl ?_
      refine DL.nil ?_
      refine DW.sub (T' := [(1, _), (5, _), (6, _), (7, _), (8, _), (9, _), (10, _), (58, _)]) (Sub.cons rfl (Sub.cons rfl (Sub.cons rfl (Sub.cons rfl (Sub.cons rfl (Sub.cons rfl (Sub.cons rfl (Sub.cons rfl Sub.nil)))))))) (Sub.refl _) ?_
      refine DW.condF rfl ?_
      by_cases hs : curAt c a = some (b, 1)
      · obtain ⟨rfl, rfl⟩ := Prod.mk.inj (Option.some.inj ((add_same ho hs hf).symm.trans hg))
        skip
        refine DW.skip ?_
        refine DW.seq ?_
        refine DW.region ?_
        refine DL.go0 tauOK hE rfl (GStep.move rfl) rfl rfl ?_
        refine DL.go0 tauOK hE rfl (G.fa rfl rfl rfl (by decide)) rfl rfl ?_
        refine DL.go0 tauOK hE rfl (G.lbf0 rfl rfl rfl) rfl rfl ?_
        refine DL.go0 tauOK hE rfl (G.call (v := .tup [.v _, .v _]) (news := []) rfl (All2.cons (ArgOf.row rfl rfl (by simp [flat_len])) (All2.cons (ArgOf.v rfl) All2.nil)) (gCurAt_flat.trans (congrArg (fun f => some (rF f)) q1)) rfl rfl) rfl rfl ?_
        refine DL.go0 tauOK hE rfl (GStep.move rfl) rfl rfl ?_
        refine DL.go0 tauOK hE rfl (GStep.extr rfl rfl) rfl rfl ?_
        refine DL.go0 tauOK hE rfl (GStep.extr rfl rfl) rfl rfl ?_
        refine DL.go1 tauOK hE rfl (GStep.alloc2 rfl) rfl rfl rfl ?_
        refine DL.sb2 tauOK rfl rfl rfl rfl rfl rfl rfl ?_
        refine DL.go0 tauOK hE rfl (GStep.assign rfl) rfl rfl ?_
        refine DL.nil ?_
        refine DW.sub (T' := [(1, _), (5, _), (6, _), (7, _), (11, _), (12, _)]) (Sub.cons rfl (Sub.cons rfl (Sub.cons rfl (Sub.cons rfl (Sub.cons rfl (Sub.cons rfl Sub.nil)))))) (Sub.refl _) ?_
        refine DW.seq ?_
        refine DW.region ?_
        refine DL.go0 tauOK hE rfl (GStep.move rfl) rfl rfl ?_
        refine DL.go0 tauOK hE rfl (G.fa rfl rfl rfl (by decide)) rfl rfl ?_
        refine DL.go0 tauOK hE rfl (G.lbf0 rfl rfl rfl) rfl rfl ?_
        refine DL.go0 tauOK hE rfl (G.call (v := .tup [.v _, .v _]) (news := []) rfl (All2.cons (ArgOf.row rfl rfl (by simp [flat_len])) (All2.cons (ArgOf.v rfl) All2.nil)) (gCurAt_flat.trans (congrArg (fun f => some (rF f)) hs)) rfl rfl) rfl rfl ?_
        refine DL.go0 tauOK hE rfl (GStep.move rfl) rfl rfl ?_
        refine DL.go0 tauOK hE rfl (GStep.extr rfl rfl) rfl rfl ?_
        refine DL.go0 tauOK hE rfl (GStep.extr rfl rfl) rfl rfl ?_
        refine DL.go1 tauOK hE rfl (GStep.alloc2 rfl) rfl rfl rfl ?_
        refine DL.sb2 tauOK rfl rfl rfl rfl rfl rfl rfl ?_
        refine DL.go0 tauOK hE rfl (GStep.assign rfl) rfl rfl ?_
        refine DL.nil ?_
        refine DW.sub (T' := [(1, _), (5, _), (6, _), (7, _), (11, _), (12, _), (13, _), (14, _)]) (Sub.cons rfl (Sub.cons rfl (Sub.cons rfl (Sub.cons rfl (Sub.cons rfl (Sub.cons rfl (Sub.cons rfl (Sub.cons rfl Sub.nil)))))))) (Sub.refl _) ?_
        refine DW.seq ?_
        refine DW.draw tauOK hE mixed 22 (by kernel_rfl) ?_
        refine DR.go0 rfl (GStep.move rfl) rfl rfl ?_
        refine DR.go0 rfl (G.ia2 (i := 0) rfl rfl rfl rfl rfl rfl rfl (by omega)) rfl rfl ?_
        refine DR.go0 rfl (G.fa rfl rfl rfl (by decide)) rfl rfl ?_
        first | refine DR.go0 rfl (G.lf0r rfl rfl rfl (by omega)) rfl rfl ?_ | refine DR.go0 rfl (G.lf0w rfl rfl rfl (by omega)) rfl rfl ?_
        refine DR.go0 rfl (GStep.move rfl) rfl rfl ?_
        first | refine DR.go0 rfl (GStep.len rfl rfl rfl) rfl rfl ?_ | refine DR.go0 rfl (GStep.lenNil rfl rfl) rfl rfl ?_
        refine DR.go0 rfl (GStep.move rfl) rfl rfl ?_
        refine DR.go0 rfl (GStep.move rfl) rfl rfl ?_
        first | refine DR.go0 rfl (GStep.len rfl rfl rfl) rfl rfl ?_ | refine DR.go0 rfl (GStep.lenNil rfl rfl) rfl rfl ?_
        first | refine DR.go0 rfl (G.sub rfl rfl (by omega)) rfl rfl ?_ | refine DR.go0 rfl (GStep.binI rfl rfl rfl) rfl rfl ?_
        refine DR.go0 rfl (G.ia2 (i := c.length - 1) rfl rfl rfl rfl rfl rfl (by omega) (by omega)) rfl rfl ?_
        refine DR.go0 rfl (G.fa rfl rfl rfl (by decide)) rfl rfl ?_
        first | refine DR.go0 rfl (G.lf0r rfl rfl rfl (by omega)) rfl rfl ?_ | refine DR.go0 rfl (G.lf0w rfl rfl rfl (by omega)) rfl rfl ?_
        refine DR.go0 rfl (GStep.move rfl) rfl rfl ?_
        refine DR.go0 rfl (G.ia2 (i := 0) rfl rfl rfl rfl rfl rfl rfl (by omega)) rfl rfl ?_
        refine DR.go0 rfl (G.fa rfl rfl rfl (by decide)) rfl rfl ?_
        first | refine DR.go0 rfl (G.lf0r rfl rfl rfl (by omega)) rfl rfl ?_ | refine DR.go0 rfl (G.lf0w rfl rfl rfl (by omega)) rfl rfl ?_
        first | refine DR.go0 rfl (G.sub rfl rfl (by omega)) rfl rfl ?_ | refine DR.go0 rfl (GStep.binI rfl rfl rfl) rfl rfl ?_
        first | refine DR.go0 rfl (G.add rfl rfl (by omega)) rfl rfl ?_ | refine DR.go0 rfl (GStep.binI rfl rfl rfl) rfl rfl ?_
        first | refine DR.go0 rfl (G.rem rfl rfl (by omega) (by omega)) rfl rfl ?_ | refine DR.go0 rfl (GStep.rem rfl rfl (by omega)) rfl rfl ?_
        first | refine DR.go0 rfl (G.iv (b := x) (G.add rfl rfl (by omega)) (ex)) rfl rfl ?_ | refine DR.go0 rfl (G.iv (b := x) (GStep.binI rfl rfl rfl) (ex)) rfl rfl ?_
        refine DR.go0 rfl (GStep.assign rfl) rfl rfl ?_
        refine DR.nil ?_
        refine DL.nil ?_
        refine DW.sub (T' := [(5, _), (6, _), (7, _), (11, _), (12, _), (13, _), (14, _), (15, _)]) (Sub.cons rfl (Sub.cons rfl (Sub.cons rfl (Sub.cons rfl (Sub.cons rfl (Sub.cons rfl (Sub.cons rfl (Sub.cons rfl Sub.nil)))))))) (Sub.refl _) ?_
        refine DW.seq ?_
        refine DW.region ?_
        refine DL.go0 tauOK hE rfl (GStep.move rfl) rfl rfl ?_
        refine DL.go0 tauOK hE rfl (GStep.move rfl) rfl rfl ?_
        refine DL.go0 tauOK hE rfl (G.call (v := .tup [.v _, .v _]) (news := []) rfl (All2.cons (ArgOf.row rfl rfl (by simp [flat_len])) (All2.cons (ArgOf.v rfl) All2.nil)) (gCurAt_flat.trans (congrArg (fun f => some (rF f)) hf)) rfl rfl) rfl rfl ?_
        refine DL.go0 tauOK hE rfl (GStep.move rfl) rfl rfl ?_
        refine DL.go0 tauOK hE rfl (GStep.extr rfl rfl) rfl rfl ?_
        refine DL.go0 tauOK hE rfl (GStep.extr rfl rfl) rfl rfl ?_
        refine DL.go1 tauOK hE rfl (GStep.alloc2 rfl) rfl rfl rfl ?_
        refine DL.sb2 tauOK rfl rfl rfl rfl rfl rfl rfl ?_
        refine DL.go0 tauOK hE rfl (GStep.assign rfl) rfl rfl ?_
        refine DL.nil ?_
        refine DW.sub (T' := [(5, _), (6, _), (7, _), (11, _), (12, _), (13, _), (14, _), (15, _), (16, _), (17, _)]) (Sub.cons rfl (Sub.cons rfl (Sub.cons rfl (Sub.cons rfl (Sub.cons rfl (Sub.cons rfl (Sub.cons rfl (Sub.cons rfl (Sub.cons rfl (Sub.cons rfl Sub.nil)))))))))) (Sub.refl _) ?_
        refine DW.seq ?_
        refine DW.region ?_
        refine DL.go0 tauOK hE rfl (GStep.move rfl) rfl rfl ?_
        refine DL.go0 tauOK hE rfl (GStep.move rfl) rfl rfl ?_
        refine DL.go0 tauOK hE rfl (G.call (v := .tup [.v _, .v _]) (news := []) rfl (All2.cons (ArgOf.row rfl rfl (by simp [flat_len])) (All2.cons (ArgOf.v rfl) All2.nil)) (gCurAt_flat.trans (congrArg (fun f => some (rF f)) hg)) rfl rfl) rfl rfl ?_
        refine DL.go0 tauOK hE rfl (GStep.move rfl) rfl rfl ?_
        refine DL.go0 tauOK hE rfl (GStep.extr rfl rfl) rfl rfl ?_
        refine DL.go0 tauOK hE rfl (GStep.extr rfl rfl) rfl rfl ?_
        refine DL.go1 tauOK hE rfl (GStep.alloc2 rfl) rfl rfl rfl ?_
        refine DL.sb2 tauOK rfl rfl rfl rfl rfl rfl rfl ?_
        refine DL.go0 tauOK hE rfl (GStep.assign rfl) rfl rfl ?_
        refine DL.nil ?_
        refine DW.sub (T' := [(5, _), (6, _), (7, _), (11, _), (12, _), (13, _), (14, _), (16, _), (17, _), (18, _), (19, _)]) (Sub.cons rfl (Sub.cons rfl (Sub.cons rfl (Sub.cons rfl (Sub.cons rfl (Sub.cons rfl (Sub.cons rfl (Sub.cons rfl (Sub.cons rfl (Sub.cons rfl (Sub.cons rfl Sub.nil))))))))))) (Sub.refl _) ?_
        refine DW.seq ?_
        refine DW.draw tauOK hE mixed 9 (by kernel_rfl) ?_
        refine DR.go0 rfl (GStep.move rfl) rfl rfl ?_
        refine DR.go0 rfl (GStep.move rfl) rfl rfl ?_
        first | refine DR.skip rfl rfl rfl ?_ | refine DR.go0 rfl (G.lb2 rfl rfl rfl) rfl rfl ?_
        first | refine DR.skip rfl rfl rfl ?_ | refine DR.go0 rfl (G.fa rfl rfl rfl (by decide)) rfl rfl ?_
        first | refine DR.skip rfl rfl rfl ?_ | refine DR.go0 rfl (G.lbf1 rfl rfl rfl) rfl rfl ?_
        first | refine DR.skip rfl rfl rfl ?_ | refine DR.go0 rfl (G.call (v := .val _) (news := []) rfl (All2.cons (ArgOf.v rfl) All2.nil) (rfl) rfl rfl) rfl rfl ?_
        first | refine DR.skip rfl rfl rfl ?_ | refine DR.go0 rfl (G.tr (GStep.eqlP rfl rfl rfl) (by simp [fN, fD])) rfl rfl ?_
        first | refine DR.go0 rfl (GStep.pickT rfl rfl) rfl rfl ?_ | refine DR.go0 rfl (GStep.pickF rfl rfl) rfl rfl ?_
        refine DR.go0 rfl (GStep.assign rfl) rfl rfl ?_
        refine DR.nil ?_
        refine DL.nil ?_
        refine DW.sub (T' := [(5, _), (6, _), (7, _), (11, _), (12, _), (16, _), (17, _), (18, _), (19, _), (20, _)]) (Sub.cons rfl (Sub.cons rfl (Sub.cons rfl (Sub.cons rfl (Sub.cons rfl (Sub.cons rfl (Sub.cons rfl (Sub.cons rfl (Sub.cons rfl (Sub.cons rfl Sub.nil)))))))))) (Sub.refl _) ?_
        refine DW.seq ?_
        refine DW.draw tauOK hE mixed 32 (by kernel_rfl) ?_
        refine DR.go0 rfl (GStep.move rfl) rfl rfl ?_
        refine DR.go0 rfl (GStep.move rfl) rfl rfl ?_
        first | refine DR.skip rfl rfl rfl ?_ | refine DR.go0 rfl (GStep.move rfl) rfl rfl ?_
        first | refine DR.go0 rfl (GStep.pickT rfl rfl) rfl rfl ?_ | refine DR.go0 rfl (GStep.pickF rfl rfl) rfl rfl ?_
        refine DR.go0 rfl (GStep.move rfl) rfl rfl ?_
        first | refine DR.skip rfl rfl rfl ?_ | refine DR.go0 rfl (GStep.move rfl) rfl rfl ?_
        first | refine DR.go0 rfl (GStep.pickT rfl rfl) rfl rfl ?_ | refine DR.go0 rfl (GStep.pickF rfl rfl) rfl rfl ?_
        refine DR.go0 rfl (GStep.move rfl) rfl rfl ?_
        first | refine DR.skip rfl rfl rfl ?_ | refine DR.go0 rfl (G.lb2 rfl rfl rfl) rfl rfl ?_
        first | refine DR.skip rfl rfl rfl ?_ | refine DR.go0 rfl (G.fa rfl rfl rfl (by decide)) rfl rfl ?_
        first | refine DR.skip rfl rfl rfl ?_ | refine DR.go0 rfl (G.lbf1 rfl rfl rfl) rfl rfl ?_
        first | refine DR.skip rfl rfl rfl ?_ | refine DR.go0 rfl (G.call (v := .val _) (news := []) rfl (All2.cons (ArgOf.v rfl) All2.nil) (rfl) rfl rfl) rfl rfl ?_
        first | refine DR.skip rfl rfl rfl ?_ | refine DR.go0 rfl (G.tr (GStep.eqlP rfl rfl rfl) (by simp [fN, fD])) rfl rfl ?_
        first | refine DR.go0 rfl (GStep.pickT rfl rfl) rfl rfl ?_ | refine DR.go0 rfl (GStep.pickF rfl rfl) rfl rfl ?_
        refine DR.go0 rfl (GStep.move rfl) rfl rfl ?_
        first | refine DR.skip rfl rfl rfl ?_ | refine DR.go0 rfl (GStep.move rfl) rfl rfl ?_
        first | refine DR.skip rfl rfl rfl ?_ | refine DR.go0 rfl (GStep.not rfl) rfl rfl ?_
        first | refine DR.skip rfl rfl rfl ?_ | refine DR.go0 rfl (GStep.move rfl) rfl rfl ?_
        first | refine DR.skip rfl rfl rfl ?_ | refine DR.go0 rfl (G.lb2 rfl rfl rfl) rfl rfl ?_
        first | refine DR.skip rfl rfl rfl ?_ | refine DR.go0 rfl (G.lb2 rfl rfl rfl) rfl rfl ?_
        first | refine DR.skip rfl rfl rfl ?_ | refine DR.go0 rfl (G.tr (GStep.eqlP rfl rfl rfl) (by simp [fN, fD])) rfl rfl ?_
        first | refine DR.skip rfl rfl rfl ?_ | refine DR.go0 rfl (GStep.pickT rfl rfl) rfl rfl ?_ | refine DR.go0 rfl (GStep.pickF rfl rfl) rfl rfl ?_
        first | refine DR.go0 rfl (GStep.pickT rfl rfl) rfl rfl ?_ | refine DR.go0 rfl (GStep.pickF rfl rfl) rfl rfl ?_
        refine DR.go0 rfl (GStep.move rfl) rfl rfl ?_
        first | refine DR.skip rfl rfl rfl ?_ | refine DR.go0 rfl (GStep.move rfl) rfl rfl ?_
        first | refine DR.skip rfl rfl rfl ?_ | refine DR.go0 rfl (GStep.len rfl rfl rfl) rfl rfl ?_ | refine DR.go0 rfl (GStep.lenNil rfl rfl) rfl rfl ?_
        first | refine DR.skip rfl rfl rfl ?_ | refine DR.go0 rfl (GStep.move rfl) rfl rfl ?_
        first | refine DR.skip rfl rfl rfl ?_ | refine DR.go0 rfl (GStep.len rfl rfl rfl) rfl rfl ?_ | refine DR.go0 rfl (GStep.lenNil rfl rfl) rfl rfl ?_
        first | refine DR.skip rfl rfl rfl ?_ | refine DR.go0 rfl (G.add rfl rfl (by omega)) rfl rfl ?_ | refine DR.go0 rfl (GStep.binI rfl rfl rfl) rfl rfl ?_
        first | refine DR.skip rfl rfl rfl ?_ | refine DR.go0 rfl (G.tr (GStep.binI rfl rfl rfl) (by simp [hlen])) rfl rfl ?_
        first | refine DR.go0 rfl (GStep.pickT rfl rfl) rfl rfl ?_ | refine DR.go0 rfl (GStep.pickF rfl rfl) rfl rfl ?_
        refine DR.go0 rfl (GStep.assign rfl) rfl rfl ?_
        refine DR.nil ?_
        refine DL.nil ?_
        refine DW.sub (T' := [(4, _)]) (Sub.cons rfl Sub.nil) (Sub.refl _) ?_
        refine DW.ret ?_
        exact RetD.vb rfl (by first | rfl | (simp; done) | simp [fN, fD, fOk])
      · skip
        cases hs2 : curAt c a
        · skip
          refine DW.skip ?_
          refine DW.seq ?_
          refine DW.region ?_
          refine DL.go0 tauOK hE rfl (GStep.move rfl) rfl rfl ?_
          refine DL.go0 tauOK hE rfl (G.fa rfl rfl rfl (by decide)) rfl rfl ?_
          refine DL.go0 tauOK hE rfl (G.lbf0 rfl rfl rfl) rfl rfl ?_
          refine DL.go0 tauOK hE rfl (G.call (v := .tup [.v _, .v _]) (news := []) rfl (All2.cons (ArgOf.row rfl rfl (by simp [flat_len])) (All2.cons (ArgOf.v rfl) All2.nil)) (gCurAt_flat.trans (congrArg (fun f => some (rF f)) q1)) rfl rfl) rfl rfl ?_
          refine DL.go0 tauOK hE rfl (GStep.move rfl) rfl rfl ?_
          refine DL.go0 tauOK hE rfl (GStep.extr rfl rfl) rfl rfl ?_
          refine DL.go0 tauOK hE rfl (GStep.extr rfl rfl) rfl rfl ?_
          refine DL.go1 tauOK hE rfl (GStep.alloc2 rfl) rfl rfl rfl ?_
          refine DL.sb2 tauOK rfl rfl rfl rfl rfl rfl rfl ?_
          refine DL.go0 tauOK hE rfl (GStep.assign rfl) rfl rfl ?_
          refine DL.nil ?_
          refine DW.sub (T' := [(1, _), (5, _), (6, _), (7, _), (11, _), (12, _)]) (Sub.cons rfl (Sub.cons rfl (Sub.cons rfl (Sub.cons rfl (Sub.cons rfl (Sub.cons rfl Sub.nil)))))) (Sub.refl _) ?_
          refine DW.seq ?_
          refine DW.region ?_
          refine DL.go0 tauOK hE rfl (GStep.move rfl) rfl rfl ?_
          refine DL.go0 tauOK hE rfl (G.fa rfl rfl rfl (by decide)) rfl rfl ?_
          refine DL.go0 tauOK hE rfl (G.lbf0 rfl rfl rfl) rfl rfl ?_
          refine DL.go0 tauOK hE rfl (G.call (v := .tup [.v _, .v _]) (news := []) rfl (All2.cons (ArgOf.row rfl rfl (by simp [flat_len])) (All2.cons (ArgOf.v rfl) All2.nil)) (gCurAt_flat.trans (congrArg (fun f => some (rF f)) hs2)) rfl rfl) rfl rfl ?_
          refine DL.go0 tauOK hE rfl (GStep.move rfl) rfl rfl ?_
          refine DL.go0 tauOK hE rfl (GStep.extr rfl rfl) rfl rfl ?_
          refine DL.go0 tauOK hE rfl (GStep.extr rfl rfl) rfl rfl ?_
          refine DL.go1 tauOK hE rfl (GStep.alloc2 rfl) rfl rfl rfl ?_
          refine DL.sb2 tauOK rfl rfl rfl rfl rfl rfl rfl ?_
          refine DL.go0 tauOK hE rfl (GStep.assign rfl) rfl rfl ?_
          refine DL.nil ?_
          refine DW.sub (T' := [(1, _), (5, _), (6, _), (7, _), (11, _), (12, _), (13, _), (14, _)]) (Sub.cons rfl (Sub.cons rfl (Sub.cons rfl (Sub.cons rfl (Sub.cons rfl (Sub.cons rfl (Sub.cons rfl (Sub.cons rfl Sub.nil)))))))) (Sub.refl _) ?_
          refine DW.seq ?_
          refine DW.draw tauOK hE mixed 22 (by kernel_rfl) ?_
          refine DR.go0 rfl (GStep.move rfl) rfl rfl ?_
          refine DR.go0 rfl (G.ia2 (i := 0) rfl rfl rfl rfl rfl rfl rfl (by omega)) rfl rfl ?_
          refine DR.go0 rfl (G.fa rfl rfl rfl (by decide)) rfl rfl ?_
          first | refine DR.go0 rfl (G.lf0r rfl rfl rfl (by omega)) rfl rfl ?_ | refine DR.go0 rfl (G.lf0w rfl rfl rfl (by omega)) rfl rfl ?_
          refine DR.go0 rfl (GStep.move rfl) rfl rfl ?_
          first | refine DR.go0 rfl (GStep.len rfl rfl rfl) rfl rfl ?_ | refine DR.go0 rfl (GStep.lenNil rfl rfl) rfl rfl ?_
          refine DR.go0 rfl (GStep.move rfl) rfl rfl ?_
          refine DR.go0 rfl (GStep.move rfl) rfl rfl ?_
          first | refine DR.go0 rfl (GStep.len rfl rfl rfl) rfl rfl ?_ | refine DR.go0 rfl (GStep.lenNil rfl rfl) rfl rfl ?_
          first | refine DR.go0 rfl (G.sub rfl rfl (by omega)) rfl rfl ?_ | refine DR.go0 rfl (GStep.binI rfl rfl rfl) rfl rfl ?_
          refine DR.go0 rfl (G.ia2 (i := c.length - 1) rfl rfl rfl rfl rfl rfl (by omega) (by omega)) rfl rfl ?_
          refine DR.go0 rfl (G.fa rfl rfl rfl (by decide)) rfl rfl ?_
          first | refine DR.go0 rfl (G.lf0r rfl rfl rfl (by omega)) rfl rfl ?_ | refine DR.go0 rfl (G.lf0w rfl rfl rfl (by omega)) rfl rfl ?_
          refine DR.go0 rfl (GStep.move rfl) rfl rfl ?_
          refine DR.go0 rfl (G.ia2 (i := 0) rfl rfl rfl rfl rfl rfl rfl (by omega)) rfl rfl ?_
          refine DR.go0 rfl (G.fa rfl rfl rfl (by decide)) rfl rfl ?_
          first | refine DR.go0 rfl (G.lf0r rfl rfl rfl (by omega)) rfl rfl ?_ | refine DR.go0 rfl (G.lf0w rfl rfl rfl (by omega)) rfl rfl ?_
          first | refine DR.go0 rfl (G.sub rfl rfl (by omega)) rfl rfl ?_ | refine DR.go0 rfl (GStep.binI rfl rfl rfl) rfl rfl ?_
          first | refine DR.go0 rfl (G.add rfl rfl (by omega)) rfl rfl ?_ | refine DR.go0 rfl (GStep.binI rfl rfl rfl) rfl rfl ?_
          first | refine DR.go0 rfl (G.rem rfl rfl (by omega) (by omega)) rfl rfl ?_ | refine DR.go0 rfl (GStep.rem rfl rfl (by omega)) rfl rfl ?_
          first | refine DR.go0 rfl (G.iv (b := x) (G.add rfl rfl (by omega)) (ex)) rfl rfl ?_ | refine DR.go0 rfl (G.iv (b := x) (GStep.binI rfl rfl rfl) (ex)) rfl rfl ?_
          refine DR.go0 rfl (GStep.assign rfl) rfl rfl ?_
          refine DR.nil ?_
          refine DL.nil ?_
          refine DW.sub (T' := [(5, _), (6, _), (7, _), (11, _), (12, _), (13, _), (14, _), (15, _)]) (Sub.cons rfl (Sub.cons rfl (Sub.cons rfl (Sub.cons rfl (Sub.cons rfl (Sub.cons rfl (Sub.cons rfl (Sub.cons rfl Sub.nil)))))))) (Sub.refl _) ?_
          refine DW.seq ?_
          refine DW.region ?_
          refine DL.go0 tauOK hE rfl (GStep.move rfl) rfl rfl ?_
          refine DL.go0 tauOK hE rfl (GStep.move rfl) rfl rfl ?_
          refine DL.go0 tauOK hE rfl (G.call (v := .tup [.v _, .v _]) (news := []) rfl (All2.cons (ArgOf.row rfl rfl (by simp [flat_len])) (All2.cons (ArgOf.v rfl) All2.nil)) (gCurAt_flat.trans (congrArg (fun f => some (rF f)) hf)) rfl rfl) rfl rfl ?_
          refine DL.go0 tauOK hE rfl (GStep.move rfl) rfl rfl ?_
          refine DL.go0 tauOK hE rfl (GStep.extr rfl rfl) rfl rfl ?_
          refine DL.go0 tauOK hE rfl (GStep.extr rfl rfl) rfl rfl ?_
          refine DL.go1 tauOK hE rfl (GStep.alloc2 rfl) rfl rfl rfl ?_
          refine DL.sb2 tauOK rfl rfl rfl rfl rfl rfl rfl ?_
          refine DL.go0 tauOK hE rfl (GStep.assign rfl) rfl rfl ?_
          refine DL.nil ?_
          refine DW.sub (T' := [(5, _), (6, _), (7, _), (11, _), (12, _), (13, _), (14, _), (15, _), (16, _), (17, _)]) (Sub.cons rfl (Sub.cons rfl (Sub.cons rfl (Sub.cons rfl (Sub.cons rfl (Sub.cons rfl (Sub.cons rfl (Sub.cons rfl (Sub.cons rfl (Sub.cons rfl Sub.nil)))))))))) (Sub.refl _) ?_
          refine DW.seq ?_
          refine DW.region ?_
          refine DL.go0 tauOK hE rfl (GStep.move rfl) rfl rfl ?_
          refine DL.go0 tauOK hE rfl (GStep.move rfl) rfl rfl ?_
          refine DL.go0 tauOK hE rfl (G.call (v := .tup [.v _, .v _]) (news := []) rfl (All2.cons (ArgOf.row rfl rfl (by simp [flat_len])) (All2.cons (ArgOf.v rfl) All2.nil)) (gCurAt_flat.trans (congrArg (fun f => some (rF f)) hg)) rfl rfl) rfl rfl ?_
          refine DL.go0 tauOK hE rfl (GStep.move rfl) rfl rfl ?_
          refine DL.go0 tauOK hE rfl (GStep.extr rfl rfl) rfl rfl ?_
          refine DL.go0 tauOK hE rfl (GStep.extr rfl rfl) rfl rfl ?_
          refine DL.go1 tauOK hE rfl (GStep.alloc2 rfl) rfl rfl rfl ?_
          refine DL.sb2 tauOK rfl rfl rfl rfl rfl rfl rfl ?_
          refine DL.go0 tauOK hE rfl (GStep.assign rfl) rfl rfl ?_
          refine DL.nil ?_
          refine DW.sub (T' := [(5, _), (6, _), (7, _), (11, _), (12, _), (13, _), (14, _), (16, _), (17, _), (18, _), (19, _)]) (Sub.cons rfl (Sub.cons rfl (Sub.cons rfl (Sub.cons rfl (Sub.cons rfl (Sub.cons rfl (Sub.cons rfl (Sub.cons rfl (Sub.cons rfl (Sub.cons rfl (Sub.cons rfl Sub.nil))))))))))) (Sub.refl _) ?_
          refine DW.seq ?_
          refine DW.draw tauOK hE mixed 9 (by kernel_rfl) ?_
          refine DR.go0 rfl (GStep.move rfl) rfl rfl ?_
          refine DR.go0 rfl (GStep.move rfl) rfl rfl ?_
          first | refine DR.skip rfl rfl rfl ?_ | refine DR.go0 rfl (G.lb2 rfl rfl rfl) rfl rfl ?_
          first | refine DR.skip rfl rfl rfl ?_ | refine DR.go0 rfl (G.fa rfl rfl rfl (by decide)) rfl rfl ?_
          first | refine DR.skip rfl rfl rfl ?_ | refine DR.go0 rfl (G.lbf1 rfl rfl rfl) rfl rfl ?_
          first | refine DR.skip rfl rfl rfl ?_ | refine DR.go0 rfl (G.call (v := .val _) (news := []) rfl (All2.cons (ArgOf.v rfl) All2.nil) (rfl) rfl rfl) rfl rfl ?_
          first | refine DR.skip rfl rfl rfl ?_ | refine DR.go0 rfl (GStep.eqlP rfl rfl rfl) rfl rfl ?_
          first | refine DR.go0 rfl (GStep.pickT rfl rfl) rfl rfl ?_ | refine DR.go0 rfl (GStep.pickF rfl rfl) rfl rfl ?_
          refine DR.go0 rfl (GStep.assign rfl) rfl rfl ?_
          refine DR.nil ?_
          refine DL.nil ?_
          refine DW.sub (T' := [(5, _), (6, _), (7, _), (11, _), (12, _), (16, _), (17, _), (18, _), (19, _), (20, _)]) (Sub.cons rfl (Sub.cons rfl (Sub.cons rfl (Sub.cons rfl (Sub.cons rfl (Sub.cons rfl (Sub.cons rfl (Sub.cons rfl (Sub.cons rfl (Sub.cons rfl Sub.nil)))))))))) (Sub.refl _) ?_
          refine DW.seq ?_
          refine DW.draw tauOK hE mixed 32 (by kernel_rfl) ?_
          refine DR.go0 rfl (GStep.move rfl) rfl rfl ?_
          refine DR.go0 rfl (GStep.move rfl) rfl rfl ?_
          first | refine DR.skip rfl rfl rfl ?_ | refine DR.go0 rfl (GStep.move rfl) rfl rfl ?_
          first | refine DR.go0 rfl (GStep.pickT rfl rfl) rfl rfl ?_ | refine DR.go0 rfl (GStep.pickF rfl rfl) rfl rfl ?_
          refine DR.go0 rfl (GStep.move rfl) rfl rfl ?_
          first | refine DR.skip rfl rfl rfl ?_ | refine DR.go0 rfl (GStep.move rfl) rfl rfl ?_
          first | refine DR.go0 rfl (GStep.pickT rfl rfl) rfl rfl ?_ | refine DR.go0 rfl (GStep.pickF rfl rfl) rfl rfl ?_
          refine DR.go0 rfl (GStep.move rfl) rfl rfl ?_
          first | refine DR.skip rfl rfl rfl ?_ | refine DR.go0 rfl (G.lb2 rfl rfl rfl) rfl rfl ?_
          first | refine DR.skip rfl rfl rfl ?_ | refine DR.go0 rfl (G.fa rfl rfl rfl (by decide)) rfl rfl ?_
          first | refine DR.skip rfl rfl rfl ?_ | refine DR.go0 rfl (G.lbf1 rfl rfl rfl) rfl rfl ?_
          first | refine DR.skip rfl rfl rfl ?_ | refine DR.go0 rfl (G.call (v := .val _) (news := []) rfl (All2.cons (ArgOf.v rfl) All2.nil) (rfl) rfl rfl) rfl rfl ?_
          first | refine DR.skip rfl rfl rfl ?_ | refine DR.go0 rfl (G.tr (GStep.eqlP rfl rfl rfl) (by simp [fN, fD])) rfl rfl ?_
          first | refine DR.go0 rfl (GStep.pickT rfl rfl) rfl rfl ?_ | refine DR.go0 rfl (GStep.pickF rfl rfl) rfl rfl ?_
          refine DR.go0 rfl (GStep.move rfl) rfl rfl ?_
          first | refine DR.skip rfl rfl rfl ?_ | refine DR.go0 rfl (GStep.move rfl) rfl rfl ?_
          first | refine DR.skip rfl rfl rfl ?_ | refine DR.go0 rfl (GStep.not rfl) rfl rfl ?_
          first | refine DR.skip rfl rfl rfl ?_ | refine DR.go0 rfl (GStep.move rfl) rfl rfl ?_
          first | refine DR.skip rfl rfl rfl ?_ | refine DR.go0 rfl (G.lb2 rfl rfl rfl) rfl rfl ?_
          first | refine DR.skip rfl rfl rfl ?_ | refine DR.go0 rfl (G.lb2 rfl rfl rfl) rfl rfl ?_
          first | refine DR.skip rfl rfl rfl ?_ | refine DR.go0 rfl (GStep.eqlP rfl rfl rfl) rfl rfl ?_
          first | refine DR.skip rfl rfl rfl ?_ | refine DR.go0 rfl (GStep.pickT rfl rfl) rfl rfl ?_ | refine DR.go0 rfl (GStep.pickF rfl rfl) rfl rfl ?_
          first | refine DR.go0 rfl (GStep.pickT rfl rfl) rfl rfl ?_ | refine DR.go0 rfl (GStep.pickF rfl rfl) rfl rfl ?_
          refine DR.go0 rfl (GStep.move rfl) rfl rfl ?_
          first | refine DR.skip rfl rfl rfl ?_ | refine DR.go0 rfl (GStep.move rfl) rfl rfl ?_
          first | refine DR.skip rfl rfl rfl ?_ | refine DR.go0 rfl (GStep.len rfl rfl rfl) rfl rfl ?_ | refine DR.go0 rfl (GStep.lenNil rfl rfl) rfl rfl ?_
          first | refine DR.skip rfl rfl rfl ?_ | refine DR.go0 rfl (GStep.move rfl) rfl rfl ?_
          first | refine DR.skip rfl rfl rfl ?_ | refine DR.go0 rfl (GStep.len rfl rfl rfl) rfl rfl ?_ | refine DR.go0 rfl (GStep.lenNil rfl rfl) rfl rfl ?_
          first | refine DR.skip rfl rfl rfl ?_ | refine DR.go0 rfl (G.add rfl rfl (by omega)) rfl rfl ?_ | refine DR.go0 rfl (GStep.binI rfl rfl rfl) rfl rfl ?_
          first | refine DR.skip rfl rfl rfl ?_ | refine DR.go0 rfl (G.tr (GStep.binI rfl rfl rfl) (by simp [hlen])) rfl rfl ?_
          first | refine DR.go0 rfl (GStep.pickT rfl rfl) rfl rfl ?_ | refine DR.go0 rfl (GStep.pickF rfl rfl) rfl rfl ?_
          refine DR.go0 rfl (GStep.assign rfl) rfl rfl ?_
          refine DR.nil ?_
          refine DL.nil ?_
          refine DW.sub (T' := [(4, _)]) (Sub.cons rfl Sub.nil) (Sub.refl _) ?_
          refine DW.ret ?_
          exact RetD.vb rfl (by first | rfl | (simp; done) | simp [fN, fD, fOk])
        · skip
          rename_i s
          obtain ⟨s1, s2⟩ := s
          have hne : (s1 == b && s2 == 1) = false := by
            rw [Bool.and_eq_false_iff, beq_eq_false_iff_ne, beq_eq_false_iff_ne]
            by_cases e : s1 = b
            · exact .inr fun e2 => hs (by rw [hs2, e, e2])
            · exact .inl e
          refine DW.skip ?_
          refine DW.seq ?_
          refine DW.region ?_
          refine DL.go0 tauOK hE rfl (GStep.move rfl) rfl rfl ?_
          refine DL.go0 tauOK hE rfl (G.fa rfl rfl rfl (by decide)) rfl rfl ?_
          refine DL.go0 tauOK hE rfl (G.lbf0 rfl rfl rfl) rfl rfl ?_
          refine DL.go0 tauOK hE rfl (G.call (v := .tup [.v _, .v _]) (news := []) rfl (All2.cons (ArgOf.row rfl rfl (by simp [flat_len])) (All2.cons (ArgOf.v rfl) All2.nil)) (gCurAt_flat.trans (congrArg (fun f => some (rF f)) q1)) rfl rfl) rfl rfl ?_
          refine DL.go0 tauOK hE rfl (GStep.move rfl) rfl rfl ?_
          refine DL.go0 tauOK hE rfl (GStep.extr rfl rfl) rfl rfl ?_
          refine DL.go0 tauOK hE rfl (GStep.extr rfl rfl) rfl rfl ?_
          refine DL.go1 tauOK hE rfl (GStep.alloc2 rfl) rfl rfl rfl ?_
          refine DL.sb2 tauOK rfl rfl rfl rfl rfl rfl rfl ?_
          refine DL.go0 tauOK hE rfl (GStep.assign rfl) rfl rfl ?_
          refine DL.nil ?_
          refine DW.sub (T' := [(1, _), (5, _), (6, _), (7, _), (11, _), (12, _)]) (Sub.cons rfl (Sub.cons rfl (Sub.cons rfl (Sub.cons rfl (Sub.cons rfl (Sub.cons rfl Sub.nil)))))) (Sub.refl _) ?_
          refine DW.seq ?_
          refine DW.region ?_
          refine DL.go0 tauOK hE rfl (GStep.move rfl) rfl rfl ?_
          refine DL.go0 tauOK hE rfl (G.fa rfl rfl rfl (by decide)) rfl rfl ?_
          refine DL.go0 tauOK hE rfl (G.lbf0 rfl rfl rfl) rfl rfl ?_
          refine DL.go0 tauOK hE rfl (G.call (v := .tup [.v _, .v _]) (news := []) rfl (All2.cons (ArgOf.row rfl rfl (by simp [flat_len])) (All2.cons (ArgOf.v rfl) All2.nil)) (gCurAt_flat.trans (congrArg (fun f => some (rF f)) hs2)) rfl rfl) rfl rfl ?_
          refine DL.go0 tauOK hE rfl (GStep.move rfl) rfl rfl ?_
          refine DL.go0 tauOK hE rfl (GStep.extr rfl rfl) rfl rfl ?_
          refine DL.go0 tauOK hE rfl (GStep.extr rfl rfl) rfl rfl ?_
          refine DL.go1 tauOK hE rfl (GStep.alloc2 rfl) rfl rfl rfl ?_
          refine DL.sb2 tauOK rfl rfl rfl rfl rfl rfl rfl ?_
          refine DL.go0 tauOK hE rfl (GStep.assign rfl) rfl rfl ?_
          refine DL.nil ?_
          refine DW.sub (T' := [(1, _), (5, _), (6, _), (7, _), (11, _), (12, _), (13, _), (14, _)]) (Sub.cons rfl (Sub.cons rfl (Sub.cons rfl (Sub.cons rfl (Sub.cons rfl (Sub.cons rfl (Sub.cons rfl (Sub.cons rfl Sub.nil)))))))) (Sub.refl _) ?_
          refine DW.seq ?_
          refine DW.draw tauOK hE mixed 22 (by kernel_rfl) ?_
          refine DR.go0 rfl (GStep.move rfl) rfl rfl ?_
          refine DR.go0 rfl (G.ia2 (i := 0) rfl rfl rfl rfl rfl rfl rfl (by omega)) rfl rfl ?_
          refine DR.go0 rfl (G.fa rfl rfl rfl (by decide)) rfl rfl ?_
          first | refine DR.go0 rfl (G.lf0r rfl rfl rfl (by omega)) rfl rfl ?_ | refine DR.go0 rfl (G.lf0w rfl rfl rfl (by omega)) rfl rfl ?_
          refine DR.go0 rfl (GStep.move rfl) rfl rfl ?_
          first | refine DR.go0 rfl (GStep.len rfl rfl rfl) rfl rfl ?_ | refine DR.go0 rfl (GStep.lenNil rfl rfl) rfl rfl ?_
          refine DR.go0 rfl (GStep.move rfl) rfl rfl ?_
          refine DR.go0 rfl (GStep.move rfl) rfl rfl ?_
          first | refine DR.go0 rfl (GStep.len rfl rfl rfl) rfl rfl ?_ | refine DR.go0 rfl (GStep.lenNil rfl rfl) rfl rfl ?_
          first | refine DR.go0 rfl (G.sub rfl rfl (by omega)) rfl rfl ?_ | refine DR.go0 rfl (GStep.binI rfl rfl rfl) rfl rfl ?_
          refine DR.go0 rfl (G.ia2 (i := c.length - 1) rfl rfl rfl rfl rfl rfl (by omega) (by omega)) rfl rfl ?_
          refine DR.go0 rfl (G.fa rfl rfl rfl (by decide)) rfl rfl ?_
          first | refine DR.go0 rfl (G.lf0r rfl rfl rfl (by omega)) rfl rfl ?_ | refine DR.go0 rfl (G.lf0w rfl rfl rfl (by omega)) rfl rfl ?_
          refine DR.go0 rfl (GStep.move rfl) rfl rfl ?_
          refine DR.go0 rfl (G.ia2 (i := 0) rfl rfl rfl rfl rfl rfl rfl (by omega)) rfl rfl ?_
          refine DR.go0 rfl (G.fa rfl rfl rfl (by decide)) rfl rfl ?_
          first | refine DR.go0 rfl (G.lf0r rfl rfl rfl (by omega)) rfl rfl ?_ | refine DR.go0 rfl (G.lf0w rfl rfl rfl (by omega)) rfl rfl ?_
          first | refine DR.go0 rfl (G.sub rfl rfl (by omega)) rfl rfl ?_ | refine DR.go0 rfl (GStep.binI rfl rfl rfl) rfl rfl ?_
          first | refine DR.go0 rfl (G.add rfl rfl (by omega)) rfl rfl ?_ | refine DR.go0 rfl (GStep.binI rfl rfl rfl) rfl rfl ?_
          first | refine DR.go0 rfl (G.rem rfl rfl (by omega) (by omega)) rfl rfl ?_ | refine DR.go0 rfl (GStep.rem rfl rfl (by omega)) rfl rfl ?_
          first | refine DR.go0 rfl (G.iv (b := x) (G.add rfl rfl (by omega)) (ex)) rfl rfl ?_ | refine DR.go0 rfl (G.iv (b := x) (GStep.binI rfl rfl rfl) (ex)) rfl rfl ?_
          refine DR.go0 rfl (GStep.assign rfl) rfl rfl ?_
          refine DR.nil ?_
          refine DL.nil ?_
          refine DW.sub (T' := [(5, _), (6, _), (7, _), (11, _), (12, _), (13, _), (14, _), (15, _)]) (Sub.cons rfl (Sub.cons rfl (Sub.cons rfl (Sub.cons rfl (Sub.cons rfl (Sub.cons rfl (Sub.cons rfl (Sub.cons rfl Sub.nil)))))))) (Sub.refl _) ?_
          refine DW.seq ?_
          refine DW.region ?_
          refine DL.go0 tauOK hE rfl (GStep.move rfl) rfl rfl ?_
          refine DL.go0 tauOK hE rfl (GStep.move rfl) rfl rfl ?_
          refine DL.go0 tauOK hE rfl (G.call (v := .tup [.v _, .v _]) (news := []) rfl (All2.cons (ArgOf.row rfl rfl (by simp [flat_len])) (All2.cons (ArgOf.v rfl) All2.nil)) (gCurAt_flat.trans (congrArg (fun f => some (rF f)) hf)) rfl rfl) rfl rfl ?_
          refine DL.go0 tauOK hE rfl (GStep.move rfl) rfl rfl ?_
          refine DL.go0 tauOK hE rfl (GStep.extr rfl rfl) rfl rfl ?_
          refine DL.go0 tauOK hE rfl (GStep.extr rfl rfl) rfl rfl ?_
          refine DL.go1 tauOK hE rfl (GStep.alloc2 rfl) rfl rfl rfl ?_
          refine DL.sb2 tauOK rfl rfl rfl rfl rfl rfl rfl ?_
          refine DL.go0 tauOK hE rfl (GStep.assign rfl) rfl rfl ?_
          refine DL.nil ?_
          refine DW.sub (T' := [(5, _), (6, _), (7, _), (11, _), (12, _), (13, _), (14, _), (15, _), (16, _), (17, _)]) (Sub.cons rfl (Sub.cons rfl (Sub.cons rfl (Sub.cons rfl (Sub.cons rfl (Sub.cons rfl (Sub.cons rfl (Sub.cons rfl (Sub.cons rfl (Sub.cons rfl Sub.nil)))))))))) (Sub.refl _) ?_
          refine DW.seq ?_
          refine DW.region ?_
          refine DL.go0 tauOK hE rfl (GStep.move rfl) rfl rfl ?_
          refine DL.go0 tauOK hE rfl (GStep.move rfl) rfl rfl ?_
          refine DL.go0 tauOK hE rfl (G.call (v := .tup [.v _, .v _]) (news := []) rfl (All2.cons (ArgOf.row rfl rfl (by simp [flat_len])) (All2.cons (ArgOf.v rfl) All2.nil)) (gCurAt_flat.trans (congrArg (fun f => some (rF f)) hg)) rfl rfl) rfl rfl ?_
          refine DL.go0 tauOK hE rfl (GStep.move rfl) rfl rfl ?_
          refine DL.go0 tauOK hE rfl (GStep.extr rfl rfl) rfl rfl ?_
          refine DL.go0 tauOK hE rfl (GStep.extr rfl rfl) rfl rfl ?_
          refine DL.go1 tauOK hE rfl (GStep.alloc2 rfl) rfl rfl rfl ?_
          refine DL.sb2 tauOK rfl rfl rfl rfl rfl rfl rfl ?_
          refine DL.go0 tauOK hE rfl (GStep.assign rfl) rfl rfl ?_
          refine DL.nil ?_
          refine DW.sub (T' := [(5, _), (6, _), (7, _), (11, _), (12, _), (13, _), (14, _), (16, _), (17, _), (18, _), (19, _)]) (Sub.cons rfl (Sub.cons rfl (Sub.cons rfl (Sub.cons rfl (Sub.cons rfl (Sub.cons rfl (Sub.cons rfl (Sub.cons rfl (Sub.cons rfl (Sub.cons rfl (Sub.cons rfl Sub.nil))))))))))) (Sub.refl _) ?_
          refine DW.seq ?_
          refine DW.draw tauOK hE mixed 9 (by kernel_rfl) ?_
          refine DR.go0 rfl (GStep.move rfl) rfl rfl ?_
          refine DR.go0 rfl (GStep.move rfl) rfl rfl ?_
          first | refine DR.skip rfl rfl rfl ?_ | refine DR.go0 rfl (G.lb2 rfl rfl rfl) rfl rfl ?_
          first | refine DR.skip rfl rfl rfl ?_ | refine DR.go0 rfl (G.fa rfl rfl rfl (by decide)) rfl rfl ?_
          first | refine DR.skip rfl rfl rfl ?_ | refine DR.go0 rfl (G.lbf1 rfl rfl rfl) rfl rfl ?_
          first | refine DR.skip rfl rfl rfl ?_ | refine DR.go0 rfl (G.call (v := .val _) (news := []) rfl (All2.cons (ArgOf.v rfl) All2.nil) (rfl) rfl rfl) rfl rfl ?_
          first | refine DR.skip rfl rfl rfl ?_ | refine DR.go0 rfl (G.fl (GStep.eqlP rfl rfl rfl) (hne)) rfl rfl ?_
          first | refine DR.go0 rfl (GStep.pickT rfl rfl) rfl rfl ?_ | refine DR.go0 rfl (GStep.pickF rfl rfl) rfl rfl ?_
          refine DR.go0 rfl (GStep.assign rfl) rfl rfl ?_
          refine DR.nil ?_
          refine DL.nil ?_
          refine DW.sub (T' := [(5, _), (6, _), (7, _), (11, _), (12, _), (16, _), (17, _), (18, _), (19, _), (20, _)]) (Sub.cons rfl (Sub.cons rfl (Sub.cons rfl (Sub.cons rfl (Sub.cons rfl (Sub.cons rfl (Sub.cons rfl (Sub.cons rfl (Sub.cons rfl (Sub.cons rfl Sub.nil)))))))))) (Sub.refl _) ?_
          refine DW.seq ?_
          refine DW.draw tauOK hE mixed 32 (by kernel_rfl) ?_
          refine DR.go0 rfl (GStep.move rfl) rfl rfl ?_
          refine DR.go0 rfl (GStep.move rfl) rfl rfl ?_
          first | refine DR.skip rfl rfl rfl ?_ | refine DR.go0 rfl (GStep.move rfl) rfl rfl ?_
          first | refine DR.go0 rfl (GStep.pickT rfl rfl) rfl rfl ?_ | refine DR.go0 rfl (GStep.pickF rfl rfl) rfl rfl ?_
          refine DR.go0 rfl (GStep.move rfl) rfl rfl ?_
          first | refine DR.skip rfl rfl rfl ?_ | refine DR.go0 rfl (GStep.move rfl) rfl rfl ?_
          first | refine DR.go0 rfl (GStep.pickT rfl rfl) rfl rfl ?_ | refine DR.go0 rfl (GStep.pickF rfl rfl) rfl rfl ?_
          refine DR.go0 rfl (GStep.move rfl) rfl rfl ?_
          first | refine DR.skip rfl rfl rfl ?_ | refine DR.go0 rfl (G.lb2 rfl rfl rfl) rfl rfl ?_
          first | refine DR.skip rfl rfl rfl ?_ | refine DR.go0 rfl (G.fa rfl rfl rfl (by decide)) rfl rfl ?_
          first | refine DR.skip rfl rfl rfl ?_ | refine DR.go0 rfl (G.lbf1 rfl rfl rfl) rfl rfl ?_
          first | refine DR.skip rfl rfl rfl ?_ | refine DR.go0 rfl (G.call (v := .val _) (news := []) rfl (All2.cons (ArgOf.v rfl) All2.nil) (rfl) rfl rfl) rfl rfl ?_
          first | refine DR.skip rfl rfl rfl ?_ | refine DR.go0 rfl (G.tr (GStep.eqlP rfl rfl rfl) (by simp [fN, fD])) rfl rfl ?_
          first | refine DR.go0 rfl (GStep.pickT rfl rfl) rfl rfl ?_ | refine DR.go0 rfl (GStep.pickF rfl rfl) rfl rfl ?_
          refine DR.go0 rfl (GStep.move rfl) rfl rfl ?_
          first | refine DR.skip rfl rfl rfl ?_ | refine DR.go0 rfl (GStep.move rfl) rfl rfl ?_
          first | refine DR.skip rfl rfl rfl ?_ | refine DR.go0 rfl (GStep.not rfl) rfl rfl ?_
          first | refine DR.skip rfl rfl rfl ?_ | refine DR.go0 rfl (GStep.move rfl) rfl rfl ?_
          first | refine DR.skip rfl rfl rfl ?_ | refine DR.go0 rfl (G.lb2 rfl rfl rfl) rfl rfl ?_
          first | refine DR.skip rfl rfl rfl ?_ | refine DR.go0 rfl (G.lb2 rfl rfl rfl) rfl rfl ?_
          first | refine DR.skip rfl rfl rfl ?_ | refine DR.go0 rfl (GStep.eqlP rfl rfl rfl) rfl rfl ?_
          first | refine DR.skip rfl rfl rfl ?_ | refine DR.go0 rfl (GStep.pickT rfl rfl) rfl rfl ?_ | refine DR.go0 rfl (GStep.pickF rfl rfl) rfl rfl ?_
          first | refine DR.go0 rfl (GStep.pickT rfl rfl) rfl rfl ?_ | refine DR.go0 rfl (GStep.pickF rfl rfl) rfl rfl ?_
          refine DR.go0 rfl (GStep.move rfl) rfl rfl ?_
          first | refine DR.skip rfl rfl rfl ?_ | refine DR.go0 rfl (GStep.move rfl) rfl rfl ?_
          first | refine DR.skip rfl rfl rfl ?_ | refine DR.go0 rfl (GStep.len rfl rfl rfl) rfl rfl ?_ | refine DR.go0 rfl (GStep.lenNil rfl rfl) rfl rfl ?_
          first | refine DR.skip rfl rfl rfl ?_ | refine DR.go0 rfl (GStep.move rfl) rfl rfl ?_
          first | refine DR.skip rfl rfl rfl ?_ | refine DR.go0 rfl (GStep.len rfl rfl rfl) rfl rfl ?_ | refine DR.go0 rfl (GStep.lenNil rfl rfl) rfl rfl ?_
          first | refine DR.skip rfl rfl rfl ?_ | refine DR.go0 rfl (G.add rfl rfl (by omega)) rfl rfl ?_ | refine DR.go0 rfl (GStep.binI rfl rfl rfl) rfl rfl ?_
          first | refine DR.skip rfl rfl rfl ?_ | refine DR.go0 rfl (G.tr (GStep.binI rfl rfl rfl) (by simp [hlen])) rfl rfl ?_
          first | refine DR.go0 rfl (GStep.pickT rfl rfl) rfl rfl ?_ | refine DR.go0 rfl (GStep.pickF rfl rfl) rfl rfl ?_
          refine DR.go0 rfl (GStep.assign rfl) rfl rfl ?_
          refine DR.nil ?_
          refine DL.nil ?_
          refine DW.sub (T' := [(4, _)]) (Sub.cons rfl Sub.nil) (Sub.refl _) ?_
          refine DW.ret ?_
          exact RetD.vb rfl (by first | rfl | (simp; done) | simp [fN, fD, fOk])
end Go.Proofs.Ytidcomcnieggaaa
