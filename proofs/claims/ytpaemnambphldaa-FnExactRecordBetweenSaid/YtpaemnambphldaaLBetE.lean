/-
  The walk of the statement FnExactRecordBetween.
-/
import Derived.Test.YtpaemnambphldaaRecE
import Derived.Test.YtpaemnambphldaaLawH
namespace Go.Proofs.Ytpaemnambphldaa
open Go.RowKit
set_option linter.unusedVariables false
set_option linter.unusedSimpArgs false

def gLawBetE : List AD → Option RD
  | [.sl .i64 1 _ l, .sl .i64 1 _ a, .v (.int .i64 t), .v (.int .i64 b)] => some (.one (.v (.bool true)))
  | _ => none
theorem fnExactRecordBetween_dl : DFun Try.prog 10 gLawBetE := by
  have hE : EnvOK Try.prog [(14, gToI), (30, gBet), (27, gBet), (31, gEqF), (16, gEqI)] := EnvOK.cons toIntS_dl (EnvOK.cons recordBetween_ds (EnvOK.cons recordBetween_di (EnvOK.cons eqFrac_dl (EnvOK.cons eqIntS_dl EnvOK.nil))))
  refine DFun.of tauOK (fn := Try.f10) Try.func10 rfl (by kernel_rfl) rfl rfl ?_
  intro C ds r hg hl
  unfold gLawBetE at hg
  split at hg
  case h_2 => cases hg
  rename_i n l m a t b
  cases hg
  refine ⟨by simp, ?_⟩
  obtain ⟨hn, hm, hn', hm', _⟩ := hl
  obtain rfl : n = l.length := by omega
  obtain rfl : m = a.length := by omega
  clear hn hn'
  refine DW.seq ?_
  refine DW.region ?_
  refine DL.go0 tauOK hE rfl (GStep.assign rfl) rfl rfl ?_
  refine DL.nil ?_
  refine DW.sub (T' := [(0, _), (1, _), (2, _), (3, _)]) (Sub.cons rfl (Sub.cons rfl (Sub.cons rfl (Sub.cons rfl Sub.nil)))) (Sub.refl _) ?_
  refine DW.seq ?_
  refine DW.seq ?_
  refine DW.region ?_
  refine DL.go0 tauOK hE rfl (GStep.move rfl) rfl rfl ?_
  first | refine DL.go0 tauOK hE rfl (GStep.len rfl rfl rfl) rfl rfl ?_ | refine DL.go0 tauOK hE rfl (GStep.lenNil rfl rfl) rfl rfl ?_
  refine DL.go0 tauOK hE rfl (GStep.binI rfl rfl rfl) rfl rfl ?_
  refine DL.nil ?_
  refine DW.sub (T' := [(0, _), (1, _), (2, _), (3, _), (17, _)]) (Sub.cons rfl (Sub.cons rfl (Sub.cons rfl (Sub.cons rfl (Sub.cons rfl Sub.nil))))) (Sub.refl _) ?_
  refine DW.cond rfl (fun h1 => ?_) (fun h1 => ?_)
  · skip
    refine DW.seq ?_
    refine DW.region ?_
    refine DL.go0 tauOK hE rfl (GStep.assign rfl) rfl rfl ?_
    refine DL.nil ?_
    refine DW.sub (T' := [(8, _)]) (Sub.cons rfl Sub.nil) (Sub.refl _) ?_
    refine DW.ret ?_
    exact RetD.v1 rfl rfl
  · skip
    have h1 : l.length ≤ 1048576 := by simp at h1; omega
    refine DW.skip ?_
    refine DW.seq ?_
    refine DW.seq ?_
    refine DW.region ?_
    refine DL.go0 tauOK hE rfl (GStep.move rfl) rfl rfl ?_
    first | refine DL.go0 tauOK hE rfl (GStep.len rfl rfl rfl) rfl rfl ?_ | refine DL.go0 tauOK hE rfl (GStep.lenNil rfl rfl) rfl rfl ?_
    refine DL.go0 tauOK hE rfl (GStep.binI rfl rfl rfl) rfl rfl ?_
    refine DL.nil ?_
    refine DW.sub (T' := [(0, _), (1, _), (2, _), (3, _), (20, _)]) (Sub.cons rfl (Sub.cons rfl (Sub.cons rfl (Sub.cons rfl (Sub.cons rfl Sub.nil))))) (Sub.refl _) ?_
    refine DW.cond rfl (fun h2 => ?_) (fun h2 => ?_)
    · skip
      refine DW.seq ?_
      refine DW.region ?_
      refine DL.go0 tauOK hE rfl (GStep.assign rfl) rfl rfl ?_
      refine DL.nil ?_
      refine DW.sub (T' := [(8, _)]) (Sub.cons rfl Sub.nil) (Sub.refl _) ?_
      refine DW.ret ?_
      exact RetD.v1 rfl rfl
    · skip
      have h2 : a.length ≤ 1048576 := by simp at h2; omega
      have g1 : gToI [.sl .i64 1 l.length l] = some (.one (.row 3 1 l.length l)) := if_pos h1
      have g2 : gToI [.sl .i64 1 a.length a] = some (.one (.row 3 1 a.length a)) := if_pos h2
      have q1 : (fN (betF l a t b) == fN (betF l a t b) && fD (betF l a t b) == fD (betF l a t b)) = true := by simp
      have q2 : decide (l = l) = true := by simp
      have q3 : decide (a = a) = true := by simp
      refine DW.skip ?_
      refine DW.seq ?_
      refine DW.region ?_
      refine DL.go0 tauOK hE rfl (GStep.move rfl) rfl rfl ?_
      refine DL.go1 tauOK hE rfl (G.call (v := .sl _ 0 _) (news := [.row _ _ _]) rfl (All2.cons (ArgOf.ro rfl rfl (by simp [flat_len])) All2.nil) g1 rfl rfl) rfl rfl rfl ?_
      refine DL.go0 tauOK hE rfl (GStep.move rfl) rfl rfl ?_
      refine DL.go1 tauOK hE rfl (G.call (v := .sl _ 0 _) (news := [.row _ _ _]) rfl (All2.cons (ArgOf.ro rfl rfl (by simp [flat_len])) All2.nil) g2 rfl rfl) rfl rfl rfl ?_
      refine DL.go0 tauOK hE rfl (GStep.move rfl) rfl rfl ?_
      refine DL.go0 tauOK hE rfl (GStep.move rfl) rfl rfl ?_
      refine DL.go0 tauOK hE rfl (G.call (v := .tup [.v _, .v _]) (news := []) rfl (All2.cons (ArgOf.row rfl rfl (by simp [flat_len])) (All2.cons (ArgOf.row rfl rfl (by simp [flat_len])) (All2.cons (ArgOf.v rfl) (All2.cons (ArgOf.v rfl) All2.nil)))) rfl rfl rfl) rfl rfl ?_
      refine DL.go0 tauOK hE rfl (GStep.move rfl) rfl rfl ?_
      refine DL.go0 tauOK hE rfl (GStep.extr rfl rfl) rfl rfl ?_
      refine DL.go0 tauOK hE rfl (GStep.extr rfl rfl) rfl rfl ?_
      refine DL.go1 tauOK hE rfl (GStep.alloc2 rfl) rfl rfl rfl ?_
      refine DL.sb2 tauOK rfl rfl rfl rfl rfl rfl rfl ?_
      refine DL.go0 tauOK hE rfl (GStep.assign rfl) rfl rfl ?_
      refine DL.nil ?_
      refine DW.sub (T' := [(0, _), (1, _), (2, _), (3, _), (9, _), (10, _)]) (Sub.cons rfl (Sub.cons rfl (Sub.cons rfl (Sub.cons rfl (Sub.cons rfl (Sub.cons rfl Sub.nil)))))) (Sub.refl _) ?_
      refine DW.seq ?_
      refine DW.region ?_
      refine DL.go0 tauOK hE rfl (GStep.move rfl) rfl rfl ?_
      refine DL.go1 tauOK hE rfl (G.call (v := .sl _ 0 _) (news := [.row _ _ _]) rfl (All2.cons (ArgOf.ro rfl rfl (by simp [flat_len])) All2.nil) g1 rfl rfl) rfl rfl rfl ?_
      refine DL.go0 tauOK hE rfl (GStep.assign rfl) rfl rfl ?_
      refine DL.nil ?_
      refine DW.sub (T' := [(0, _), (1, _), (2, _), (3, _), (9, _), (10, _), (11, _)]) (Sub.cons rfl (Sub.cons rfl (Sub.cons rfl (Sub.cons rfl (Sub.cons rfl (Sub.cons rfl (Sub.cons rfl Sub.nil))))))) (Sub.refl _) ?_
      refine DW.seq ?_
      refine DW.region ?_
      refine DL.go0 tauOK hE rfl (GStep.move rfl) rfl rfl ?_
      refine DL.go1 tauOK hE rfl (G.call (v := .sl _ 0 _) (news := [.row _ _ _]) rfl (All2.cons (ArgOf.ro rfl rfl (by simp [flat_len])) All2.nil) g2 rfl rfl) rfl rfl rfl ?_
      refine DL.go0 tauOK hE rfl (GStep.assign rfl) rfl rfl ?_
      refine DL.nil ?_
      refine DW.sub (T' := [(0, _), (1, _), (2, _), (3, _), (9, _), (10, _), (11, _), (12, _)]) (Sub.cons rfl (Sub.cons rfl (Sub.cons rfl (Sub.cons rfl (Sub.cons rfl (Sub.cons rfl (Sub.cons rfl (Sub.cons rfl Sub.nil)))))))) (Sub.refl _) ?_
      refine DW.seq ?_
      refine DW.region ?_
      refine DL.go0 tauOK hE rfl (GStep.move rfl) rfl rfl ?_
      refine DL.go0 tauOK hE rfl (GStep.move rfl) rfl rfl ?_
      refine DL.go0 tauOK hE rfl (GStep.move rfl) rfl rfl ?_
      refine DL.go0 tauOK hE rfl (GStep.move rfl) rfl rfl ?_
      refine DL.go0 tauOK hE rfl (G.call (v := .tup [.v _, .v _]) (news := []) rfl (All2.cons (ArgOf.row rfl rfl (by simp [flat_len])) (All2.cons (ArgOf.row rfl rfl (by simp [flat_len])) (All2.cons (ArgOf.v rfl) (All2.cons (ArgOf.v rfl) All2.nil)))) rfl rfl rfl) rfl rfl ?_
      refine DL.go0 tauOK hE rfl (GStep.move rfl) rfl rfl ?_
      refine DL.go0 tauOK hE rfl (GStep.extr rfl rfl) rfl rfl ?_
      refine DL.go0 tauOK hE rfl (GStep.extr rfl rfl) rfl rfl ?_
      refine DL.go1 tauOK hE rfl (GStep.alloc2 rfl) rfl rfl rfl ?_
      refine DL.sb2 tauOK rfl rfl rfl rfl rfl rfl rfl ?_
      refine DL.go0 tauOK hE rfl (GStep.assign rfl) rfl rfl ?_
      refine DL.nil ?_
      refine DW.sub (T' := [(0, _), (1, _), (9, _), (10, _), (11, _), (12, _), (13, _), (14, _)]) (Sub.cons rfl (Sub.cons rfl (Sub.cons rfl (Sub.cons rfl (Sub.cons rfl (Sub.cons rfl (Sub.cons rfl (Sub.cons rfl Sub.nil)))))))) (Sub.refl _) ?_
      refine DW.seq ?_
      refine DW.cut 51 (false) [0, 1, 11, 12] ?_ ?_
      · (
          refine DW.region ?_
          refine DL.go0 tauOK hE rfl (G.lb2 rfl rfl rfl) rfl rfl ?_
          refine DL.go0 tauOK hE rfl (G.lb2 rfl rfl rfl) rfl rfl ?_
          refine DL.go0 tauOK hE rfl (G.call (v := .val _) (news := []) rfl (All2.cons (ArgOf.v rfl) (All2.cons (ArgOf.v rfl) All2.nil)) rfl rfl rfl) rfl rfl ?_
          try rw [q1]
          refine DL.go0 tauOK hE rfl (GStep.not rfl) rfl rfl ?_
          refine DL.go0 tauOK hE rfl (GStep.move rfl) rfl rfl ?_
          first | refine DL.skip rfl rfl rfl ?_ | refine DL.go0 tauOK hE rfl (GStep.move rfl) rfl rfl ?_
          first | refine DL.skip rfl rfl rfl ?_ | refine DL.go0 tauOK hE rfl (GStep.move rfl) rfl rfl ?_
          first | refine DL.skip rfl rfl rfl ?_ | refine DL.go0 tauOK hE rfl (GStep.neqB rfl rfl rfl) rfl rfl ?_
          try rw [q1]
          first | refine DL.go0 tauOK hE rfl (GStep.pickT rfl rfl) rfl rfl ?_ | refine DL.go0 tauOK hE rfl (GStep.pickF rfl rfl) rfl rfl ?_
          refine DL.nil ?_
          exact ⟨rfl, _, rfl, by simp, SubK.cons rfl (SubK.cons rfl (SubK.cons rfl (SubK.cons rfl (SubK.nil)))), Sub.refl _⟩)
      refine DW.sub (T' := [(0, _), (1, _), (11, _), (12, _), (51, _)]) (Sub.cons rfl (Sub.cons rfl (Sub.cons rfl (Sub.cons rfl (Sub.cons rfl Sub.nil))))) (Sub.refl _) ?_
      refine DW.condF rfl ?_
      refine DW.skip ?_
      refine DW.seq ?_
      refine DW.seq ?_
      refine DW.region ?_
      refine DL.go0 tauOK hE rfl (GStep.move rfl) rfl rfl ?_
      refine DL.go0 tauOK hE rfl (GStep.move rfl) rfl rfl ?_
      refine DL.go1 tauOK hE rfl (G.call (v := .sl _ 0 _) (news := [.row _ _ _]) rfl (All2.cons (ArgOf.ro rfl rfl (by simp [flat_len])) All2.nil) g1 rfl rfl) rfl rfl rfl ?_
      try rw [q2]
      refine DL.go0 tauOK hE rfl (G.call (v := .val _) (news := []) rfl (All2.cons (ArgOf.row rfl rfl (by simp [flat_len])) (All2.cons (ArgOf.row rfl rfl (by simp [flat_len])) All2.nil)) rfl rfl rfl) rfl rfl ?_
      try rw [q2]
      refine DL.go0 tauOK hE rfl (GStep.not rfl) rfl rfl ?_
      refine DL.nil ?_
      refine DW.sub (T' := [(1, _), (12, _), (56, _)]) (Sub.cons rfl (Sub.cons rfl (Sub.cons rfl Sub.nil))) (Sub.refl _) ?_
      refine DW.condF rfl ?_
      refine DW.skip ?_
      refine DW.seq ?_
      refine DW.seq ?_
      refine DW.region ?_
      refine DL.go0 tauOK hE rfl (GStep.move rfl) rfl rfl ?_
      refine DL.go0 tauOK hE rfl (GStep.move rfl) rfl rfl ?_
      refine DL.go1 tauOK hE rfl (G.call (v := .sl _ 0 _) (news := [.row _ _ _]) rfl (All2.cons (ArgOf.ro rfl rfl (by simp [flat_len])) All2.nil) g2 rfl rfl) rfl rfl rfl ?_
      try rw [q3]
      refine DL.go0 tauOK hE rfl (G.call (v := .val _) (news := []) rfl (All2.cons (ArgOf.row rfl rfl (by simp [flat_len])) (All2.cons (ArgOf.row rfl rfl (by simp [flat_len])) All2.nil)) rfl rfl rfl) rfl rfl ?_
      try rw [q3]
      refine DL.go0 tauOK hE rfl (GStep.not rfl) rfl rfl ?_
      refine DL.nil ?_
      refine DW.sub (T' := [(61, _)]) (Sub.cons rfl Sub.nil) (Sub.refl _) ?_
      refine DW.condF rfl ?_
      refine DW.skip ?_
      refine DW.seq ?_
      refine DW.region ?_
      refine DL.go0 tauOK hE rfl (GStep.assign rfl) rfl rfl ?_
      refine DL.nil ?_
      refine DW.sub (T' := [(8, _)]) (Sub.cons rfl Sub.nil) (Sub.refl _) ?_
      refine DW.ret ?_
      exact RetD.v1 rfl rfl
end Go.Proofs.Ytpaemnambphldaa
