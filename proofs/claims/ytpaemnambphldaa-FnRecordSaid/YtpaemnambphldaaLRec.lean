/-
  The walk of the statement FnRecord.
-/
import Derived.Test.YtpaemnambphldaaDrawN
import Derived.Test.YtpaemnambphldaaDenB
import Derived.Test.YtpaemnambphldaaRecE
import Derived.Test.YtpaemnambphldaaPureC
namespace Go.Proofs.Ytpaemnambphldaa
open Go.RowKit
set_option linter.unusedVariables false
set_option linter.unusedSimpArgs false
theorem fnRecord_dl : DFun Try.prog 5 gL2 := by
  have hE : EnvOK Try.prog [(15, gValid), (13, gValid)] := EnvOK.cons recordValid_di (EnvOK.cons recordValid_ds EnvOK.nil)
  refine DFun.of tauOK (fn := Try.f5) Try.func5 rfl (by kernel_rfl) rfl rfl ?_
  intro C ds r hg hl
  obtain ⟨bs, ms, rfl, rfl, hb, hbl, hml⟩ := gL2_inv hg hl
  clear hg hl
  refine ⟨by simp, ?_⟩
  refine DW.seq ?_
  refine DW.region ?_
  refine DL.go0 tauOK hE rfl (GStep.assign rfl) rfl rfl ?_
  refine DL.nil ?_
  refine DW.sub (T' := [(0, _), (1, _)]) (Sub.cons rfl (Sub.cons rfl Sub.nil)) (Sub.refl _) ?_
  refine DW.seq ?_
  refine DW.cut 18 (decide ((bs.length : Int) > 1048576) || decide ((ms.length : Int) > 1048576)) [0, 1] ?_ ?_
  · cases hc1 : decide ((bs.length : Int) > 1048576) <;> cases hc2 : decide ((ms.length : Int) > 1048576) <;> (
      (try have q_hc1 := of_decide_eq_true hc1); (try have q_hc1 := of_decide_eq_false hc1)
      (try have q_hc2 := of_decide_eq_true hc2); (try have q_hc2 := of_decide_eq_false hc2)
      refine DW.region ?_
      refine DL.go0 tauOK hE rfl (GStep.move rfl) rfl rfl ?_
      first | refine DL.go0 tauOK hE rfl (GStep.len rfl rfl rfl) rfl rfl ?_ | refine DL.go0 tauOK hE rfl (GStep.lenNil rfl rfl) rfl rfl ?_
      try rw [hc1]
      try rw [hc2]
      refine DL.go0 tauOK hE rfl (GStep.binI rfl rfl rfl) rfl rfl ?_
      try rw [hc1]
      try rw [hc2]
      refine DL.go0 tauOK hE rfl (GStep.move rfl) rfl rfl ?_
      first | refine DL.skip rfl rfl rfl ?_ | refine DL.go0 tauOK hE rfl (GStep.move rfl) rfl rfl ?_
      first | refine DL.skip rfl rfl rfl ?_ | refine DL.go0 tauOK hE rfl (GStep.len rfl rfl rfl) rfl rfl ?_ | refine DL.go0 tauOK hE rfl (GStep.lenNil rfl rfl) rfl rfl ?_
      try rw [hc1]
      try rw [hc2]
      first | refine DL.skip rfl rfl rfl ?_ | refine DL.go0 tauOK hE rfl (GStep.binI rfl rfl rfl) rfl rfl ?_
      try rw [hc1]
      try rw [hc2]
      first | refine DL.go0 tauOK hE rfl (GStep.pickT rfl rfl) rfl rfl ?_ | refine DL.go0 tauOK hE rfl (GStep.pickF rfl rfl) rfl rfl ?_
      refine DL.nil ?_
      exact ⟨rfl, _, rfl, by simp [hc1, hc2], SubK.cons rfl (SubK.cons rfl (SubK.nil)), Sub.refl _⟩)
  refine DW.sub (T' := [(0, _), (1, _), (18, _)]) (Sub.cons rfl (Sub.cons rfl (Sub.cons rfl Sub.nil))) (Sub.refl _) ?_
  refine DW.cond rfl (fun h1 => ?_) (fun h1 => ?_)
  · skip
    refine DW.seq ?_
    refine DW.region ?_
    refine DL.go0 tauOK hE rfl (GStep.assign rfl) rfl rfl ?_
    refine DL.nil ?_
    refine DW.sub (T' := [(4, _)]) (Sub.cons rfl Sub.nil) (Sub.refl _) ?_
    refine DW.ret ?_
    exact RetD.vb rfl (by first | rfl | simp)
  · skip
    have gd : gDraw RecN [.sl .u8 1 bs.length bs] = some RecN := if_pos hb
    refine DW.skip ?_
    refine DW.seq ?_
    refine DW.region ?_
    refine DL.go0 tauOK hE rfl (GStep.move rfl) rfl rfl ?_
    refine DL.rel DrawRecordValid_dr rfl rfl rfl rfl rfl (All2.cons (ArgOf.ro rfl rfl (by simp [flat_len])) All2.nil) gd ?_
    rintro r ⟨l, a, rfl, e1, e2, e3, e4, bl, ba⟩
    refine ⟨by simp [resN, rws], ?_⟩
    show DL _ _ _ _ _ _ ((21, .tup [.s 21 _, .s 1021 _]) :: _) ((1021, .row _ _ _) :: (21, .row _ _ _) :: _)
    refine DL.go0 tauOK hE rfl (GStep.move rfl) rfl rfl ?_
    refine DL.go0 tauOK hE rfl (GStep.extr rfl rfl) rfl rfl ?_
    refine DL.go0 tauOK hE rfl (GStep.extr rfl rfl) rfl rfl ?_
    refine DL.go0 tauOK hE rfl (GStep.assign rfl) rfl rfl ?_
    refine DL.go0 tauOK hE rfl (GStep.assign rfl) rfl rfl ?_
    refine DL.nil ?_
    refine DW.sub (T' := [(1, _), (5, _), (6, _)]) (Sub.cons rfl (Sub.cons rfl (Sub.cons rfl Sub.nil))) (Sub.refl _) ?_
    refine DW.seq ?_
    refine DW.region ?_
    refine DL.go0 tauOK hE rfl (GStep.move rfl) rfl rfl ?_
    refine DL.go0 tauOK hE rfl (GStep.move rfl) rfl rfl ?_
    refine DL.go0 tauOK hE rfl (G.call (v := .val _) (news := []) rfl (All2.cons (ArgOf.row rfl rfl (by simp [flat_len])) (All2.cons (ArgOf.row rfl rfl (by simp [flat_len])) All2.nil)) (rfl) rfl rfl) rfl rfl ?_
    refine DL.go0 tauOK hE rfl (GStep.assign rfl) rfl rfl ?_
    refine DL.nil ?_
    refine DW.sub (T' := [(1, _), (5, _), (6, _), (7, _)]) (Sub.cons rfl (Sub.cons rfl (Sub.cons rfl (Sub.cons rfl Sub.nil)))) (Sub.refl _) ?_
    refine DW.seq ?_
    refine DW.region ?_
    refine DL.go0 tauOK hE rfl (GStep.move rfl) rfl rfl ?_
    refine DL.go0 tauOK hE rfl (GStep.move rfl) rfl rfl ?_
    refine DL.go0 tauOK hE rfl (G.call (v := .val _) (news := []) rfl (All2.cons (ArgOf.row rfl rfl (by simp [flat_len])) (All2.cons (ArgOf.row rfl rfl (by simp [flat_len])) All2.nil)) (rfl) rfl rfl) rfl rfl ?_
    refine DL.go0 tauOK hE rfl (GStep.assign rfl) rfl rfl ?_
    refine DL.nil ?_
    refine DW.sub (T' := [(1, _), (5, _), (6, _), (7, _), (8, _)]) (Sub.cons rfl (Sub.cons rfl (Sub.cons rfl (Sub.cons rfl (Sub.cons rfl Sub.nil))))) (Sub.refl _) ?_
    refine DW.seq ?_
    refine DW.seq ?_
    cases hr : recB l a
    · skip
      refine DW.region ?_
      refine DL.go0 tauOK hE rfl (GStep.move rfl) rfl rfl ?_
      refine DL.go0 tauOK hE rfl (GStep.move rfl) rfl rfl ?_
      refine DL.go0 tauOK hE rfl (GStep.neqB rfl rfl rfl) rfl rfl ?_
      refine DL.go0 tauOK hE rfl (GStep.move rfl) rfl rfl ?_
      first | refine DL.skip rfl rfl rfl ?_ | refine DL.go0 tauOK hE rfl (GStep.move rfl) rfl rfl ?_
      first | refine DL.skip rfl rfl rfl ?_ | refine DL.go0 tauOK hE rfl (GStep.not rfl) rfl rfl ?_
      first | refine DL.go0 tauOK hE rfl (GStep.pickT rfl rfl) rfl rfl ?_ | refine DL.go0 tauOK hE rfl (GStep.pickF rfl rfl) rfl rfl ?_
      refine DL.nil ?_
      refine DW.sub (T' := [(1, _), (5, _), (6, _), (7, _), (8, _), (36, _)]) (Sub.cons rfl (Sub.cons rfl (Sub.cons rfl (Sub.cons rfl (Sub.cons rfl (Sub.cons rfl Sub.nil)))))) (Sub.refl _) ?_
      refine DW.condT rfl ?_
      refine DW.seq ?_
      refine DW.region ?_
      refine DL.go0 tauOK hE rfl (GStep.move rfl) rfl rfl ?_
      refine DL.go0 tauOK hE rfl (GStep.move rfl) rfl rfl ?_
      refine DL.go0 tauOK hE rfl (GStep.eqlB rfl rfl rfl) rfl rfl ?_
      refine DL.go0 tauOK hE rfl (GStep.assign rfl) rfl rfl ?_
      refine DL.nil ?_
      refine DW.sub (T' := [(4, _)]) (Sub.cons rfl Sub.nil) (Sub.refl _) ?_
      refine DW.ret ?_
      exact RetD.vb rfl (by first | rfl | simp)
    · skip
      have hB := recB_bd hr
      have hi : ms.length % a.length < a.length := Nat.mod_lt _ (by omega)
      have q1 := recB_take hr (k := ms.length % a.length + 1) (by omega) (by omega)
      refine DW.region ?_
      refine DL.go0 tauOK hE rfl (GStep.move rfl) rfl rfl ?_
      refine DL.go0 tauOK hE rfl (GStep.move rfl) rfl rfl ?_
      refine DL.go0 tauOK hE rfl (GStep.neqB rfl rfl rfl) rfl rfl ?_
      refine DL.go0 tauOK hE rfl (GStep.move rfl) rfl rfl ?_
      first | refine DL.skip rfl rfl rfl ?_ | refine DL.go0 tauOK hE rfl (GStep.move rfl) rfl rfl ?_
      first | refine DL.skip rfl rfl rfl ?_ | refine DL.go0 tauOK hE rfl (GStep.not rfl) rfl rfl ?_
      first | refine DL.go0 tauOK hE rfl (GStep.pickT rfl rfl) rfl rfl ?_ | refine DL.go0 tauOK hE rfl (GStep.pickF rfl rfl) rfl rfl ?_
      refine DL.nil ?_
      refine DW.sub (T' := [(1, _), (5, _), (6, _), (7, _), (8, _), (36, _)]) (Sub.cons rfl (Sub.cons rfl (Sub.cons rfl (Sub.cons rfl (Sub.cons rfl (Sub.cons rfl Sub.nil)))))) (Sub.refl _) ?_
      refine DW.condF rfl ?_
      refine DW.skip ?_
      refine DW.seq ?_
      refine DW.region ?_
      refine DL.go0 tauOK hE rfl (GStep.move rfl) rfl rfl ?_
      first | refine DL.go0 tauOK hE rfl (GStep.len rfl rfl rfl) rfl rfl ?_ | refine DL.go0 tauOK hE rfl (GStep.lenNil rfl rfl) rfl rfl ?_
      refine DL.go0 tauOK hE rfl (GStep.move rfl) rfl rfl ?_
      first | refine DL.go0 tauOK hE rfl (GStep.len rfl rfl rfl) rfl rfl ?_ | refine DL.go0 tauOK hE rfl (GStep.lenNil rfl rfl) rfl rfl ?_
      first | refine DL.go0 tauOK hE rfl (G.rem rfl rfl (by omega) (by omega)) rfl rfl ?_ | refine DL.go0 tauOK hE rfl (GStep.rem rfl rfl (by omega)) rfl rfl ?_
      first | refine DL.go0 tauOK hE rfl (G.add rfl rfl (by omega)) rfl rfl ?_ | refine DL.go0 tauOK hE rfl (GStep.binI rfl rfl rfl) rfl rfl ?_
      refine DL.go0 tauOK hE rfl (GStep.assign rfl) rfl rfl ?_
      refine DL.nil ?_
      refine DW.sub (T' := [(5, _), (6, _), (9, _)]) (Sub.cons rfl (Sub.cons rfl (Sub.cons rfl Sub.nil))) (Sub.refl _) ?_
      refine DW.seq ?_
      refine DW.region ?_
      refine DL.go1 tauOK hE rfl (G.bs0i rfl rfl) rfl rfl rfl ?_
      refine DL.go0 tauOK hE rfl (GStep.move rfl) rfl rfl ?_
      first | refine DL.app tauOK [(5, _), (6, _), (9, _)] rfl rfl rfl rfl rfl rfl rfl rfl rfl (rfl) rfl rfl rfl rfl rfl (by omega) (ys_row (by simp [flat_len])) (Sub.cons rfl (Sub.cons rfl (Sub.cons rfl Sub.nil))) rfl ?_ | refine DL.app tauOK [(5, _), (6, _), (9, _)] rfl rfl rfl rfl rfl rfl rfl rfl rfl (rfl) rfl rfl rfl rfl rfl (by omega) (ys_ro (by simp [flat_len])) (Sub.cons rfl (Sub.cons rfl (Sub.cons rfl Sub.nil))) rfl ?_ | refine DL.app tauOK [(5, _), (6, _), (9, _)] rfl rfl rfl rfl rfl rfl rfl rfl rfl (rfl) rfl rfl rfl rfl rfl (by omega) rfl (Sub.cons rfl (Sub.cons rfl (Sub.cons rfl Sub.nil))) rfl ?_
      refine DL.go0 tauOK hE rfl (GStep.assign rfl) rfl rfl ?_
      refine DL.nil ?_
      refine DW.sub (T' := [(5, _), (6, _), (9, _), (10, _)]) (Sub.cons rfl (Sub.cons rfl (Sub.cons rfl (Sub.cons rfl Sub.nil)))) (Sub.refl _) ?_
      rw [List.nil_append, Nat.zero_add]
      refine DW.seq ?_
      refine DW.region ?_
      refine DL.go0 tauOK hE rfl (GStep.move rfl) rfl rfl ?_
      refine DL.go0 tauOK hE rfl (GStep.move rfl) rfl rfl ?_
      first | refine DL.go0 tauOK hE rfl (G.sub rfl rfl (by omega)) rfl rfl ?_ | refine DL.go0 tauOK hE rfl (GStep.binI rfl rfl rfl) rfl rfl ?_
      refine DL.go0 tauOK hE rfl (G.ia1 (i := ms.length % a.length) rfl rfl rfl rfl rfl rfl (by omega) (by omega)) rfl rfl ?_
      refine DL.se1 tauOK rfl rfl rfl rfl rfl rfl rfl (by omega) ?_
      refine DL.nil ?_
      refine DW.sub (T' := [(5, _), (6, _), (9, _), (10, _)]) (Sub.cons rfl (Sub.cons rfl (Sub.cons rfl (Sub.cons rfl Sub.nil)))) (Sub.refl _) ?_
      refine DW.seq ?_
      refine DW.drawM tauOK hE pick_d mixed 32 (by kernel_rfl) (by kernel_rfl) ?_
      refine DM.go0 rfl (GStep.move rfl) rfl rfl ?_
      refine DM.go0 rfl (GStep.move rfl) rfl rfl ?_
      first | refine DM.go0 rfl (G.add rfl rfl (by omega)) rfl rfl ?_ | refine DM.go0 rfl (GStep.binI rfl rfl rfl) rfl rfl ?_
      refine DM.go0 rfl (GStep.slice (l := 0) (h := ms.length % a.length + 1 + 1) rfl rfl rfl rfl rfl rfl rfl (rfl) (by omega) (by omega) (by omega)) rfl rfl ?_
      refine DM.go0 rfl (GStep.move rfl) rfl rfl ?_
      refine DM.go0 rfl (GStep.move rfl) rfl rfl ?_
      refine DM.go0 rfl (GStep.slice (l := 0) (h := ms.length % a.length + 1) rfl rfl rfl rfl rfl rfl rfl (rfl) (by omega) (by omega) (by omega)) rfl rfl ?_
      refine DM.go0 rfl (G.tr (G.call (v := .val _) (news := []) rfl (All2.cons (ArgOf.rowP rfl rfl (show _ = l.take (ms.length % a.length + 1 + 1) by simp)) (All2.cons (ArgOf.rowP rfl rfl (show _ = a.take (ms.length % a.length + 1) by simp)) All2.nil)) (rfl) rfl rfl) (q1)) rfl rfl ?_
      refine DM.go0 rfl (GStep.move rfl) rfl rfl ?_
      first | refine DM.skip rfl rfl rfl ?_ | refine DM.go0 rfl (GStep.move rfl) rfl rfl ?_
      first | refine DM.skip rfl rfl rfl ?_ | refine DM.go0 rfl (GStep.move rfl) rfl rfl ?_
      first | refine DM.skip rfl rfl rfl ?_ | refine DM.go0 rfl (GStep.slice (l := 1) (h := _) rfl rfl rfl rfl rfl rfl rfl (by omega) (rfl) (by omega) (by omega)) rfl rfl ?_
      first | refine DM.skip rfl rfl rfl ?_ | refine DM.go0 rfl (G.call (v := .val _) (news := []) rfl (All2.cons (ArgOf.row rfl rfl (by simp [flat_len])) (All2.cons (ArgOf.rowP rfl rfl (drop_all rfl)) All2.nil)) (rfl) rfl rfl) rfl rfl ?_
      first | refine DM.skip rfl rfl rfl ?_ | refine DM.go0 rfl (G.tr (GStep.not rfl) (by rw [recB_len (by simp; omega)]; rfl)) rfl rfl ?_
      first | refine DM.go0 rfl (GStep.pickT rfl rfl) rfl rfl ?_ | refine DM.go0 rfl (GStep.pickF rfl rfl) rfl rfl ?_
      refine DM.go0 rfl (GStep.move rfl) rfl rfl ?_
      first | refine DM.skip rfl rfl rfl ?_ | refine DM.go0 rfl (GStep.move rfl) rfl rfl ?_
      first | refine DM.skip rfl rfl rfl ?_ | refine DM.go1 rfl (G.bs0i rfl rfl) rfl rfl rfl ?_
      first | refine DM.skip rfl rfl rfl ?_ | refine DM.go0 rfl (GStep.move rfl) rfl rfl ?_
      first | refine DM.skip rfl rfl rfl ?_ | refine DM.app rfl rfl rfl rfl rfl rfl rfl rfl rfl rfl (rfl) rfl rfl rfl rfl rfl (by omega) (ys_row (by simp [flat_len])) rfl ?_ | refine DM.app rfl rfl rfl rfl rfl rfl rfl rfl rfl rfl (rfl) rfl rfl rfl rfl rfl (by omega) (ys_ro (by simp [flat_len])) rfl ?_ | refine DM.app rfl rfl rfl rfl rfl rfl rfl rfl rfl rfl (rfl) rfl rfl rfl rfl rfl (by omega) rfl rfl ?_
      first | refine DM.skip rfl rfl rfl ?_ | refine DM.go1 rfl (G.bs1i rfl rfl rfl) rfl rfl rfl ?_
      first | refine DM.skip rfl rfl rfl ?_ | refine DM.app rfl rfl rfl rfl rfl rfl rfl rfl rfl rfl (by simp) rfl rfl rfl rfl rfl (by omega) (show _ = [_] from rfl) rfl ?_
      first | refine DM.skip rfl rfl rfl ?_ | refine DM.go0 rfl (G.call (v := .val _) (news := []) rfl (All2.cons (ArgOf.row rfl rfl (by simp [flat_len])) (All2.cons (ArgOf.row rfl rfl (by simp [flat_len])) All2.nil)) (rfl) rfl rfl) rfl rfl ?_
      first | refine DM.skip rfl rfl rfl ?_ | refine DM.go0 rfl (G.tr (GStep.not rfl) (by rw [recB_len (by simp; omega)]; rfl)) rfl rfl ?_
      first | refine DM.go0 rfl (GStep.pickT rfl rfl) rfl rfl ?_ | refine DM.go0 rfl (GStep.pickF rfl rfl) rfl rfl ?_
      refine DM.go0 rfl (GStep.move rfl) rfl rfl ?_
      first | refine DM.skip rfl rfl rfl ?_ | refine DM.go0 rfl (GStep.move rfl) rfl rfl ?_
      first | refine DM.skip rfl rfl rfl ?_ | refine DM.go0 rfl (GStep.move rfl) rfl rfl ?_
      first | refine DM.skip rfl rfl rfl ?_ | refine DM.go0 rfl (G.call (v := .val _) (news := []) rfl (All2.cons (ArgOf.row rfl rfl (by simp [flat_len])) (All2.cons (ArgOf.row rfl rfl (by simp [flat_len])) All2.nil)) (rfl) rfl rfl) rfl rfl ?_
      first | refine DM.skip rfl rfl rfl ?_ | refine DM.go0 rfl (G.tr (GStep.not rfl) (by rw [recB_neg (by omega)]; rfl)) rfl rfl ?_
      first | refine DM.go0 rfl (GStep.pickT rfl rfl) rfl rfl ?_ | refine DM.go0 rfl (GStep.pickF rfl rfl) rfl rfl ?_
      refine DM.go0 rfl (GStep.assign rfl) rfl rfl ?_
      refine DM.nil (by kernel_rfl) ?_
      refine DL.nil ?_
      refine DW.sub (T' := [(4, _)]) (Sub.cons rfl Sub.nil) (Sub.refl _) ?_
      refine DW.ret ?_
      exact RetD.vb rfl (by first | rfl | simp)
end Go.Proofs.Ytpaemnambphldaa
