/-
  The walk of the statement FnMerge.
-/
import Derived.Test.YtpaemnambphldaaMerL
import Derived.Test.YtpaemnambphldaaDrawN
import Derived.Test.YtpaemnambphldaaDenB
namespace Go.Proofs.Ytpaemnambphldaa
open Go.RowKit
set_option linter.unusedVariables false
set_option linter.unusedSimpArgs false
theorem fnMerge_dl : DFun Try.prog 12 gL2 := by
  have hE : EnvOK Try.prog [(22, gMerge), (21, gMerge), (26, gEqI), (27, gBet), (15, gValid), (18, gTotal), (29, gFrac)] := EnvOK.cons recordMerge_di (EnvOK.cons recordMerge_ds (EnvOK.cons sameInts_dl (EnvOK.cons recordBetween_di (EnvOK.cons recordValid_di (EnvOK.cons recordTotal_di (EnvOK.cons frac_dl EnvOK.nil))))))
  refine DFun.of tauOK (fn := Try.f12) Try.func12 rfl (by kernel_rfl) rfl rfl ?_
  intro C ds r hg hl
  obtain ⟨bs, ms, rfl, rfl, hb, hbl, hml⟩ := gL2_inv hg hl
  clear hg hl
  refine ⟨by simp, ?_⟩
  refine DW.seq ?_
  refine DW.region ?_
  refine DL.go0 tauOK hE rfl (GStep.assign rfl) rfl rfl ?_
  refine DL.nil ?_
  refine DW.sub (T' := [(0, _), (1, _)]) (Sub.cons rfl (Sub.cons rfl Sub.nil)) (Sub.refl _) ?_
  refine DW.seq ?_
  refine DW.cut 24 (decide ((bs.length : Int) > 1048576) || decide ((ms.length : Int) > 1048576)) [0, 1] ?_ ?_
  · cases hc1 : decide ((bs.length : Int) > 1048576) <;> cases hc2 : decide ((ms.length : Int) > 1048576) <;> (
      (try have q_hc1 := of_decide_eq_true hc1); (try have q_hc1 := of_decide_eq_false hc1)
      (try have q_hc2 := of_decide_eq_true hc2); (try have q_hc2 := of_decide_eq_false hc2)
      refine DW.region ?_
      refine DL.go0 tauOK hE rfl (GStep.move rfl) rfl rfl ?_
      first | refine DL.go0 tauOK hE rfl (GStep.len rfl rfl rfl) rfl rfl ?_ | refine DL.go0 tauOK hE rfl (GStep.lenNil rfl rfl) rfl rfl ?_
      try rw [hc1]
      try rw [hc2]
      refine DL.go0 tauOK hE rfl (GStep.binI rfl rfl rfl) rfl rfl ?_
      try rw [hc1]
      try rw [hc2]
      refine DL.go0 tauOK hE rfl (GStep.move rfl) rfl rfl ?_
      first | refine DL.skip rfl rfl rfl ?_ | refine DL.go0 tauOK hE rfl (GStep.move rfl) rfl rfl ?_
      first | refine DL.skip rfl rfl rfl ?_ | refine DL.go0 tauOK hE rfl (GStep.len rfl rfl rfl) rfl rfl ?_ | refine DL.go0 tauOK hE rfl (GStep.lenNil rfl rfl) rfl rfl ?_
      try rw [hc1]
      try rw [hc2]
      first | refine DL.skip rfl rfl rfl ?_ | refine DL.go0 tauOK hE rfl (GStep.binI rfl rfl rfl) rfl rfl ?_
      try rw [hc1]
      try rw [hc2]
      first | refine DL.go0 tauOK hE rfl (GStep.pickT rfl rfl) rfl rfl ?_ | refine DL.go0 tauOK hE rfl (GStep.pickF rfl rfl) rfl rfl ?_
      refine DL.nil ?_
      exact ⟨rfl, _, rfl, by simp [hc1, hc2], SubK.cons rfl (SubK.cons rfl (SubK.nil)), Sub.refl _⟩)
  refine DW.sub (T' := [(0, _), (1, _), (24, _)]) (Sub.cons rfl (Sub.cons rfl (Sub.cons rfl Sub.nil))) (Sub.refl _) ?_
  refine DW.cond rfl (fun h1 => ?_) (fun h1 => ?_)
  · skip
    refine DW.seq ?_
    refine DW.region ?_
    refine DL.go0 tauOK hE rfl (GStep.assign rfl) rfl rfl ?_
    refine DL.nil ?_
    refine DW.sub (T' := [(4, _)]) (Sub.cons rfl Sub.nil) (Sub.refl _) ?_
    refine DW.ret ?_
    exact RetD.vb rfl (by first | rfl | simp)
  · skip
    have gd : gDraw MerN [.sl .u8 1 bs.length bs] = some MerN := if_pos hb
    refine DW.skip ?_
    refine DW.seq ?_
    refine DW.region ?_
    refine DL.go0 tauOK hE rfl (GStep.move rfl) rfl rfl ?_
    refine DL.rel DrawRecordMerge_dr rfl rfl rfl rfl rfl (All2.cons (ArgOf.ro rfl rfl (by simp [flat_len])) All2.nil) gd ?_
    rintro r ⟨l, a, k, rfl, e1, e2, e3, e4, bl, ba, k0, k1⟩
    refine ⟨by simp [resN, rws], ?_⟩
    show DL _ _ _ _ _ _ ((27, .tup [.s 27 _, .s 1027 _, .v _]) :: _) ((1027, .row _ _ _) :: (27, .row _ _ _) :: _)
    refine DL.go0 tauOK hE rfl (GStep.move rfl) rfl rfl ?_
    refine DL.go0 tauOK hE rfl (GStep.extr rfl rfl) rfl rfl ?_
    refine DL.go0 tauOK hE rfl (GStep.extr rfl rfl) rfl rfl ?_
    refine DL.go0 tauOK hE rfl (GStep.extr rfl rfl) rfl rfl ?_
    refine DL.go0 tauOK hE rfl (GStep.assign rfl) rfl rfl ?_
    refine DL.go0 tauOK hE rfl (GStep.assign rfl) rfl rfl ?_
    refine DL.go0 tauOK hE rfl (GStep.assign rfl) rfl rfl ?_
    refine DL.nil ?_
    refine DW.sub (T' := [(1, _), (5, _), (6, _), (7, _)]) (Sub.cons rfl (Sub.cons rfl (Sub.cons rfl (Sub.cons rfl Sub.nil)))) (Sub.refl _) ?_
    refine DW.seq ?_
    refine DW.region ?_
    refine DL.go0 tauOK hE rfl (GStep.move rfl) rfl rfl ?_
    refine DL.go0 tauOK hE rfl (GStep.move rfl) rfl rfl ?_
    refine DL.go0 tauOK hE rfl (GStep.move rfl) rfl rfl ?_
    refine DL.go2 tauOK hE rfl (G.call (v := .tup [.s _ _, .s _ _, .v _]) (news := [.row _ _ _, .row _ _ _]) rfl (All2.cons (ArgOf.row rfl rfl (by simp [flat_len])) (All2.cons (ArgOf.row rfl rfl (by simp [flat_len])) (All2.cons (ArgOf.v rfl) All2.nil))) (rfl) rfl rfl) rfl rfl rfl rfl ?_
    refine DL.go0 tauOK hE rfl (GStep.move rfl) rfl rfl ?_
    refine DL.go0 tauOK hE rfl (GStep.extr rfl rfl) rfl rfl ?_
    refine DL.go0 tauOK hE rfl (GStep.extr rfl rfl) rfl rfl ?_
    refine DL.go0 tauOK hE rfl (GStep.extr rfl rfl) rfl rfl ?_
    refine DL.go0 tauOK hE rfl (GStep.assign rfl) rfl rfl ?_
    refine DL.go0 tauOK hE rfl (GStep.assign rfl) rfl rfl ?_
    refine DL.go0 tauOK hE rfl (GStep.assign rfl) rfl rfl ?_
    refine DL.nil ?_
    refine DW.sub (T' := [(1, _), (5, _), (6, _), (7, _), (8, _), (9, _), (10, _)]) (Sub.cons rfl (Sub.cons rfl (Sub.cons rfl (Sub.cons rfl (Sub.cons rfl (Sub.cons rfl (Sub.cons rfl Sub.nil))))))) (Sub.refl _) ?_
    refine DW.seq ?_
    refine DW.region ?_
    refine DL.go0 tauOK hE rfl (GStep.move rfl) rfl rfl ?_
    refine DL.go0 tauOK hE rfl (GStep.move rfl) rfl rfl ?_
    refine DL.go0 tauOK hE rfl (GStep.move rfl) rfl rfl ?_
    refine DL.go2 tauOK hE rfl (G.call (v := .tup [.s _ _, .s _ _, .v _]) (news := [.row _ _ _, .row _ _ _]) rfl (All2.cons (ArgOf.row rfl rfl (by simp [flat_len])) (All2.cons (ArgOf.row rfl rfl (by simp [flat_len])) (All2.cons (ArgOf.v rfl) All2.nil))) (rfl) rfl rfl) rfl rfl rfl rfl ?_
    refine DL.go0 tauOK hE rfl (GStep.move rfl) rfl rfl ?_
    refine DL.go0 tauOK hE rfl (GStep.extr rfl rfl) rfl rfl ?_
    refine DL.go0 tauOK hE rfl (GStep.extr rfl rfl) rfl rfl ?_
    refine DL.go0 tauOK hE rfl (GStep.extr rfl rfl) rfl rfl ?_
    refine DL.go0 tauOK hE rfl (GStep.assign rfl) rfl rfl ?_
    refine DL.go0 tauOK hE rfl (GStep.assign rfl) rfl rfl ?_
    refine DL.go0 tauOK hE rfl (GStep.assign rfl) rfl rfl ?_
    refine DL.nil ?_
    refine DW.sub (T' := [(1, _), (5, _), (6, _), (8, _), (9, _), (10, _), (11, _), (12, _), (13, _)]) (Sub.cons rfl (Sub.cons rfl (Sub.cons rfl (Sub.cons rfl (Sub.cons rfl (Sub.cons rfl (Sub.cons rfl (Sub.cons rfl (Sub.cons rfl Sub.nil))))))))) (Sub.refl _) ?_
    refine DW.seq ?_
    refine DW.seq ?_
    cases hm : merB l a k
    · skip
      refine DW.region ?_
      refine DL.go0 tauOK hE rfl (GStep.move rfl) rfl rfl ?_
      refine DL.go0 tauOK hE rfl (GStep.move rfl) rfl rfl ?_
      refine DL.go0 tauOK hE rfl (GStep.neqB rfl rfl rfl) rfl rfl ?_
      refine DL.go0 tauOK hE rfl (GStep.move rfl) rfl rfl ?_
      first | refine DL.skip rfl rfl rfl ?_ | refine DL.go0 tauOK hE rfl (GStep.move rfl) rfl rfl ?_
      first | refine DL.skip rfl rfl rfl ?_ | refine DL.go0 tauOK hE rfl (GStep.move rfl) rfl rfl ?_
      first | refine DL.skip rfl rfl rfl ?_ | refine DL.go0 tauOK hE rfl (G.call (v := .val _) (news := []) rfl (All2.cons (ArgOf.row rfl rfl (by simp [flat_len])) (All2.cons (ArgOf.row rfl rfl (by simp [flat_len])) All2.nil)) (gEqI_refl) rfl rfl) rfl rfl ?_
      first | refine DL.skip rfl rfl rfl ?_ | refine DL.go0 tauOK hE rfl (GStep.not rfl) rfl rfl ?_
      first | refine DL.go0 tauOK hE rfl (GStep.pickT rfl rfl) rfl rfl ?_ | refine DL.go0 tauOK hE rfl (GStep.pickF rfl rfl) rfl rfl ?_
      refine DL.go0 tauOK hE rfl (GStep.move rfl) rfl rfl ?_
      first | refine DL.skip rfl rfl rfl ?_ | refine DL.go0 tauOK hE rfl (GStep.move rfl) rfl rfl ?_
      first | refine DL.skip rfl rfl rfl ?_ | refine DL.go0 tauOK hE rfl (GStep.move rfl) rfl rfl ?_
      first | refine DL.skip rfl rfl rfl ?_ | refine DL.go0 tauOK hE rfl (G.call (v := .val _) (news := []) rfl (All2.cons (ArgOf.row rfl rfl (by simp [flat_len])) (All2.cons (ArgOf.row rfl rfl (by simp [flat_len])) All2.nil)) (gEqI_refl) rfl rfl) rfl rfl ?_
      first | refine DL.skip rfl rfl rfl ?_ | refine DL.go0 tauOK hE rfl (GStep.not rfl) rfl rfl ?_
      first | refine DL.go0 tauOK hE rfl (GStep.pickT rfl rfl) rfl rfl ?_ | refine DL.go0 tauOK hE rfl (GStep.pickF rfl rfl) rfl rfl ?_
      refine DL.go0 tauOK hE rfl (GStep.move rfl) rfl rfl ?_
      first | refine DL.skip rfl rfl rfl ?_ | refine DL.go0 tauOK hE rfl (GStep.move rfl) rfl rfl ?_
      first | refine DL.skip rfl rfl rfl ?_ | refine DL.go0 tauOK hE rfl (GStep.not rfl) rfl rfl ?_
      first | refine DL.go0 tauOK hE rfl (GStep.pickT rfl rfl) rfl rfl ?_ | refine DL.go0 tauOK hE rfl (GStep.pickF rfl rfl) rfl rfl ?_
      refine DL.nil ?_
      refine DW.sub (T' := [(1, _), (5, _), (6, _), (8, _), (9, _), (10, _), (11, _), (12, _), (13, _), (65, _)]) (Sub.cons rfl (Sub.cons rfl (Sub.cons rfl (Sub.cons rfl (Sub.cons rfl (Sub.cons rfl (Sub.cons rfl (Sub.cons rfl (Sub.cons rfl (Sub.cons rfl Sub.nil)))))))))) (Sub.refl _) ?_
      refine DW.condT rfl ?_
      refine DW.seq ?_
      refine DW.region ?_
      refine DL.go0 tauOK hE rfl (GStep.move rfl) rfl rfl ?_
      refine DL.go0 tauOK hE rfl (GStep.move rfl) rfl rfl ?_
      refine DL.go0 tauOK hE rfl (GStep.eqlB rfl rfl rfl) rfl rfl ?_
      refine DL.go0 tauOK hE rfl (GStep.move rfl) rfl rfl ?_
      first | refine DL.skip rfl rfl rfl ?_ | refine DL.go0 tauOK hE rfl (GStep.move rfl) rfl rfl ?_
      first | refine DL.skip rfl rfl rfl ?_ | refine DL.go0 tauOK hE rfl (GStep.move rfl) rfl rfl ?_
      first | refine DL.skip rfl rfl rfl ?_ | refine DL.go0 tauOK hE rfl (G.call (v := .val _) (news := []) rfl (All2.cons (ArgOf.row rfl rfl (by simp [flat_len])) (All2.cons (ArgOf.row rfl rfl (by simp [flat_len])) All2.nil)) (gEqI_refl) rfl rfl) rfl rfl ?_
      first | refine DL.go0 tauOK hE rfl (GStep.pickT rfl rfl) rfl rfl ?_ | refine DL.go0 tauOK hE rfl (GStep.pickF rfl rfl) rfl rfl ?_
      refine DL.go0 tauOK hE rfl (GStep.move rfl) rfl rfl ?_
      first | refine DL.skip rfl rfl rfl ?_ | refine DL.go0 tauOK hE rfl (GStep.move rfl) rfl rfl ?_
      first | refine DL.skip rfl rfl rfl ?_ | refine DL.go0 tauOK hE rfl (GStep.move rfl) rfl rfl ?_
      first | refine DL.skip rfl rfl rfl ?_ | refine DL.go0 tauOK hE rfl (G.call (v := .val _) (news := []) rfl (All2.cons (ArgOf.row rfl rfl (by simp [flat_len])) (All2.cons (ArgOf.row rfl rfl (by simp [flat_len])) All2.nil)) (gEqI_refl) rfl rfl) rfl rfl ?_
      first | refine DL.go0 tauOK hE rfl (GStep.pickT rfl rfl) rfl rfl ?_ | refine DL.go0 tauOK hE rfl (GStep.pickF rfl rfl) rfl rfl ?_
      refine DL.go0 tauOK hE rfl (GStep.assign rfl) rfl rfl ?_
      refine DL.nil ?_
      refine DW.sub (T' := [(4, _)]) (Sub.cons rfl Sub.nil) (Sub.refl _) ?_
      refine DW.ret ?_
      exact RetD.vb rfl (by first | rfl | simp)
    · skip
      obtain ⟨m, rfl, hr, hm2, hs⟩ := merB_iff hm
      have hB := recB_bd hr
      have hL := merL_len hm hr hm2
      have hA := merA_len hm hm2
      have hi : ms.length % (merA l a m).length < a.length - 1 := by rw [← hA]; exact Nat.mod_lt _ (by omega)
      have q1 := mer_bin hm hr hm2 hi
      have q2 := mer_rec hm hr hm2 hs
      have q3 := mer_total hm hr hm2 hs
      refine DW.region ?_
      refine DL.go0 tauOK hE rfl (GStep.move rfl) rfl rfl ?_
      refine DL.go0 tauOK hE rfl (GStep.move rfl) rfl rfl ?_
      refine DL.go0 tauOK hE rfl (GStep.neqB rfl rfl rfl) rfl rfl ?_
      refine DL.go0 tauOK hE rfl (GStep.move rfl) rfl rfl ?_
      first | refine DL.skip rfl rfl rfl ?_ | refine DL.go0 tauOK hE rfl (GStep.move rfl) rfl rfl ?_
      first | refine DL.skip rfl rfl rfl ?_ | refine DL.go0 tauOK hE rfl (GStep.move rfl) rfl rfl ?_
      first | refine DL.skip rfl rfl rfl ?_ | refine DL.go0 tauOK hE rfl (G.call (v := .val _) (news := []) rfl (All2.cons (ArgOf.row rfl rfl (by simp [flat_len])) (All2.cons (ArgOf.row rfl rfl (by simp [flat_len])) All2.nil)) (gEqI_refl) rfl rfl) rfl rfl ?_
      first | refine DL.skip rfl rfl rfl ?_ | refine DL.go0 tauOK hE rfl (GStep.not rfl) rfl rfl ?_
      first | refine DL.go0 tauOK hE rfl (GStep.pickT rfl rfl) rfl rfl ?_ | refine DL.go0 tauOK hE rfl (GStep.pickF rfl rfl) rfl rfl ?_
      refine DL.go0 tauOK hE rfl (GStep.move rfl) rfl rfl ?_
      first | refine DL.skip rfl rfl rfl ?_ | refine DL.go0 tauOK hE rfl (GStep.move rfl) rfl rfl ?_
      first | refine DL.skip rfl rfl rfl ?_ | refine DL.go0 tauOK hE rfl (GStep.move rfl) rfl rfl ?_
      first | refine DL.skip rfl rfl rfl ?_ | refine DL.go0 tauOK hE rfl (G.call (v := .val _) (news := []) rfl (All2.cons (ArgOf.row rfl rfl (by simp [flat_len])) (All2.cons (ArgOf.row rfl rfl (by simp [flat_len])) All2.nil)) (gEqI_refl) rfl rfl) rfl rfl ?_
      first | refine DL.skip rfl rfl rfl ?_ | refine DL.go0 tauOK hE rfl (GStep.not rfl) rfl rfl ?_
      first | refine DL.go0 tauOK hE rfl (GStep.pickT rfl rfl) rfl rfl ?_ | refine DL.go0 tauOK hE rfl (GStep.pickF rfl rfl) rfl rfl ?_
      refine DL.go0 tauOK hE rfl (GStep.move rfl) rfl rfl ?_
      first | refine DL.skip rfl rfl rfl ?_ | refine DL.go0 tauOK hE rfl (GStep.move rfl) rfl rfl ?_
      first | refine DL.skip rfl rfl rfl ?_ | refine DL.go0 tauOK hE rfl (GStep.not rfl) rfl rfl ?_
      first | refine DL.go0 tauOK hE rfl (GStep.pickT rfl rfl) rfl rfl ?_ | refine DL.go0 tauOK hE rfl (GStep.pickF rfl rfl) rfl rfl ?_
      refine DL.nil ?_
      refine DW.sub (T' := [(1, _), (5, _), (6, _), (8, _), (9, _), (10, _), (11, _), (12, _), (13, _), (65, _)]) (Sub.cons rfl (Sub.cons rfl (Sub.cons rfl (Sub.cons rfl (Sub.cons rfl (Sub.cons rfl (Sub.cons rfl (Sub.cons rfl (Sub.cons rfl (Sub.cons rfl Sub.nil)))))))))) (Sub.refl _) ?_
      refine DW.condF rfl ?_
      refine DW.skip ?_
      refine DW.seq ?_
      refine DW.region ?_
      refine DL.go0 tauOK hE rfl (GStep.move rfl) rfl rfl ?_
      first | refine DL.go0 tauOK hE rfl (GStep.len rfl rfl rfl) rfl rfl ?_ | refine DL.go0 tauOK hE rfl (GStep.lenNil rfl rfl) rfl rfl ?_
      refine DL.go0 tauOK hE rfl (GStep.move rfl) rfl rfl ?_
      first | refine DL.go0 tauOK hE rfl (GStep.len rfl rfl rfl) rfl rfl ?_ | refine DL.go0 tauOK hE rfl (GStep.lenNil rfl rfl) rfl rfl ?_
      first | refine DL.go0 tauOK hE rfl (G.rem rfl rfl (by omega) (by omega)) rfl rfl ?_ | refine DL.go0 tauOK hE rfl (GStep.rem rfl rfl (by omega)) rfl rfl ?_
      refine DL.go0 tauOK hE rfl (GStep.assign rfl) rfl rfl ?_
      refine DL.nil ?_
      refine DW.sub (T' := [(5, _), (6, _), (8, _), (9, _), (14, _)]) (Sub.cons rfl (Sub.cons rfl (Sub.cons rfl (Sub.cons rfl (Sub.cons rfl Sub.nil))))) (Sub.refl _) ?_
      refine DW.seq ?_
      refine DW.draw tauOK hE mixed 16 (by kernel_rfl) ?_
      refine DR.go0 rfl (GStep.move rfl) rfl rfl ?_
      refine DR.go0 rfl (GStep.move rfl) rfl rfl ?_
      refine DR.go0 rfl (GStep.move rfl) rfl rfl ?_
      refine DR.go0 rfl (GStep.move rfl) rfl rfl ?_
      refine DR.go0 rfl (G.ia1 (i := ms.length % (merA l a m).length) rfl rfl rfl rfl rfl rfl (by omega) (by omega)) rfl rfl ?_
      first | refine DR.go0 rfl (G.le1r rfl rfl rfl (by omega)) rfl rfl ?_ | refine DR.go0 rfl (G.le1w rfl rfl rfl (by omega)) rfl rfl ?_
      refine DR.go0 rfl (GStep.move rfl) rfl rfl ?_
      refine DR.go0 rfl (GStep.move rfl) rfl rfl ?_
      first | refine DR.go0 rfl (G.add rfl rfl (by omega)) rfl rfl ?_ | refine DR.go0 rfl (GStep.binI rfl rfl rfl) rfl rfl ?_
      refine DR.go0 rfl (G.ia1 (i := ms.length % (merA l a m).length + 1) rfl rfl rfl rfl rfl rfl (by omega) (by omega)) rfl rfl ?_
      first | refine DR.go0 rfl (G.le1r rfl rfl rfl (by omega)) rfl rfl ?_ | refine DR.go0 rfl (G.le1w rfl rfl rfl (by omega)) rfl rfl ?_
      refine DR.go0 rfl (G.call (v := .tup [.v _, .v _]) (news := []) rfl (All2.cons (ArgOf.row rfl rfl (by simp [flat_len])) (All2.cons (ArgOf.row rfl rfl (by simp [flat_len])) (All2.cons (ArgOf.v rfl) (All2.cons (ArgOf.v rfl) All2.nil)))) (congrArg (fun f => some (rF f)) q1) rfl rfl) rfl rfl ?_
      refine DR.go0 rfl (GStep.move rfl) rfl rfl ?_
      refine DR.go0 rfl (GStep.extr rfl rfl) rfl rfl ?_
      refine DR.go0 rfl (GStep.extr rfl rfl) rfl rfl ?_
      refine DR.go1 rfl (GStep.alloc2 rfl) rfl rfl rfl ?_
      refine DR.nil ?_
      refine DL.sb2 tauOK rfl rfl rfl rfl rfl rfl rfl ?_
      refine DL.go0 tauOK hE rfl (GStep.assign rfl) rfl rfl ?_
      refine DL.nil ?_
      refine DW.sub (T' := [(5, _), (6, _), (8, _), (9, _), (14, _), (15, _), (16, _)]) (Sub.cons rfl (Sub.cons rfl (Sub.cons rfl (Sub.cons rfl (Sub.cons rfl (Sub.cons rfl (Sub.cons rfl Sub.nil))))))) (Sub.refl _) ?_
      refine DW.seq ?_
      refine DW.draw tauOK hE mixed 33 (by kernel_rfl) ?_
      refine DR.go0 rfl (GStep.move rfl) rfl rfl ?_
      refine DR.go0 rfl (GStep.move rfl) rfl rfl ?_
      first | refine DR.skip rfl rfl rfl ?_ | refine DR.go0 rfl (GStep.move rfl) rfl rfl ?_
      first | refine DR.skip rfl rfl rfl ?_ | refine DR.go0 rfl (GStep.move rfl) rfl rfl ?_
      first | refine DR.skip rfl rfl rfl ?_ | refine DR.go0 rfl (G.tr (G.call (v := .val _) (news := []) rfl (All2.cons (ArgOf.row rfl rfl (by simp [flat_len])) (All2.cons (ArgOf.row rfl rfl (by simp [flat_len])) All2.nil)) (rfl) rfl rfl) (q2)) rfl rfl ?_
      first | refine DR.go0 rfl (GStep.pickT rfl rfl) rfl rfl ?_ | refine DR.go0 rfl (GStep.pickF rfl rfl) rfl rfl ?_
      refine DR.go0 rfl (GStep.move rfl) rfl rfl ?_
      first | refine DR.skip rfl rfl rfl ?_ | refine DR.go0 rfl (GStep.move rfl) rfl rfl ?_
      first | refine DR.skip rfl rfl rfl ?_ | refine DR.go0 rfl (GStep.len rfl rfl rfl) rfl rfl ?_ | refine DR.go0 rfl (GStep.lenNil rfl rfl) rfl rfl ?_
      first | refine DR.skip rfl rfl rfl ?_ | refine DR.go0 rfl (GStep.move rfl) rfl rfl ?_
      first | refine DR.skip rfl rfl rfl ?_ | refine DR.go0 rfl (GStep.len rfl rfl rfl) rfl rfl ?_ | refine DR.go0 rfl (GStep.lenNil rfl rfl) rfl rfl ?_
      first | refine DR.skip rfl rfl rfl ?_ | refine DR.go0 rfl (G.sub rfl rfl (by omega)) rfl rfl ?_ | refine DR.go0 rfl (GStep.binI rfl rfl rfl) rfl rfl ?_
      first | refine DR.skip rfl rfl rfl ?_ | refine DR.go0 rfl (G.tr (GStep.binI rfl rfl rfl) (by rw [hA]; simp; omega)) rfl rfl ?_
      first | refine DR.go0 rfl (GStep.pickT rfl rfl) rfl rfl ?_ | refine DR.go0 rfl (GStep.pickF rfl rfl) rfl rfl ?_
      refine DR.go0 rfl (GStep.move rfl) rfl rfl ?_
      first | refine DR.skip rfl rfl rfl ?_ | refine DR.go0 rfl (GStep.move rfl) rfl rfl ?_
      first | refine DR.skip rfl rfl rfl ?_ | refine DR.go0 rfl (GStep.move rfl) rfl rfl ?_
      first | refine DR.skip rfl rfl rfl ?_ | refine DR.go0 rfl (G.call (v := .val _) (news := []) rfl (All2.cons (ArgOf.row rfl rfl (by simp [flat_len])) (All2.cons (ArgOf.row rfl rfl (by simp [flat_len])) All2.nil)) (rfl) rfl rfl) rfl rfl ?_
      first | refine DR.skip rfl rfl rfl ?_ | refine DR.go0 rfl (GStep.move rfl) rfl rfl ?_
      first | refine DR.skip rfl rfl rfl ?_ | refine DR.go0 rfl (GStep.move rfl) rfl rfl ?_
      first | refine DR.skip rfl rfl rfl ?_ | refine DR.go0 rfl (G.call (v := .val _) (news := []) rfl (All2.cons (ArgOf.row rfl rfl (by simp [flat_len])) (All2.cons (ArgOf.row rfl rfl (by simp [flat_len])) All2.nil)) (rfl) rfl rfl) rfl rfl ?_
      first | refine DR.skip rfl rfl rfl ?_ | refine DR.go0 rfl (G.tr (GStep.binI rfl rfl rfl) (by rw [q3]; simp)) rfl rfl ?_
      first | refine DR.go0 rfl (GStep.pickT rfl rfl) rfl rfl ?_ | refine DR.go0 rfl (GStep.pickF rfl rfl) rfl rfl ?_
      refine DR.go0 rfl (GStep.move rfl) rfl rfl ?_
      first | refine DR.skip rfl rfl rfl ?_ | refine DR.go0 rfl (G.lb2 rfl rfl rfl) rfl rfl ?_
      first | refine DR.skip rfl rfl rfl ?_ | refine DR.go0 rfl (GStep.move rfl) rfl rfl ?_
      first | refine DR.skip rfl rfl rfl ?_ | refine DR.go0 rfl (GStep.move rfl) rfl rfl ?_
      first | refine DR.skip rfl rfl rfl ?_ | refine DR.go0 rfl (G.ia1 (i := ms.length % (merA l a m).length) rfl rfl rfl rfl rfl rfl (by omega) (by omega)) rfl rfl ?_
      first | refine DR.skip rfl rfl rfl ?_ | refine DR.go0 rfl (G.le1r rfl rfl rfl (by omega)) rfl rfl ?_ | refine DR.go0 rfl (G.le1w rfl rfl rfl (by omega)) rfl rfl ?_
      first | refine DR.skip rfl rfl rfl ?_ | refine DR.go0 rfl (G.call (v := .val _) (news := []) rfl (All2.cons (ArgOf.v rfl) All2.nil) (rfl) rfl rfl) rfl rfl ?_
      first | refine DR.skip rfl rfl rfl ?_ | refine DR.go0 rfl (G.tr (GStep.eqlP rfl rfl rfl) (by simp [fN, fD])) rfl rfl ?_
      first | refine DR.go0 rfl (GStep.pickT rfl rfl) rfl rfl ?_ | refine DR.go0 rfl (GStep.pickF rfl rfl) rfl rfl ?_
      refine DR.go0 rfl (GStep.assign rfl) rfl rfl ?_
      refine DR.nil ?_
      refine DL.nil ?_
      refine DW.sub (T' := [(4, _)]) (Sub.cons rfl Sub.nil) (Sub.refl _) ?_
      refine DW.ret ?_
      exact RetD.vb rfl (by first | rfl | simp)
end Go.Proofs.Ytpaemnambphldaa
