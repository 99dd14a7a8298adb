/-
  The walk of the statement FnLeanAdd.
-/
import Derived.Test.YthloecijjcodjaaCurA
import Derived.Test.YthloecijjcodjaaCurL
import Derived.Test.YthloecijjcodjaaDrawL
namespace Go.Proofs.Ythloecijjcodjaa
open Go.RowKit
set_option linter.unusedVariables false
set_option linter.unusedSimpArgs false
theorem lean_added {c : List Kn} {x y : Int} (h : addO c (x, y) = true) (hx : 2 * x = kx c 0 + kx c 1) (hy : 2 * y = ky c 0 + ky c 1) : leanF (addK c (x, y)) = leanF c := by
  obtain ⟨h1, h2⟩ := addO_iff.1 h
  rw [addL_eq h]
  have hl := cur_len h1
  match c, hl with
  | a :: b :: r, _ =>
    have hx : 2 * x = a.1 + b.1 := hx
    have hy : 2 * y = a.2 + b.2 := hy
    have hu := cur_Up h1
    have hab := (List.pairwise_cons.1 hu).1 b (by simp)
    obtain ⟨u1, u2⟩ := hab
    have hX : insX (a :: b :: r) x = 1 := by
      refine insX_of (by simp) (fun t ht => ?_) (fun t h3 h4 => ?_)
      · obtain rfl : t = 0 := by omega
        show a.1 < x
        omega
      · have := up_le h1 (show 1 ≤ t by omega) h4
        have e : kx (a :: b :: r) 1 = b.1 := rfl
        omega
    have e : insK (a :: b :: r) (x, y) = a :: (x, y) :: b :: r := by
      unfold insK
      rw [insI_X, hX]; rfl
    rw [e] at h2 ⊢
    refine lean_mid (cur_Up h2) ?_
    rw [lineB_iff]
    dsimp only
    have e1 : b.1 - a.1 = 2 * (x - a.1) := by omega
    have e2 : b.2 - a.2 = 2 * (y - a.2) := by omega
    rw [e1, e2, Int.mul_assoc, Int.mul_comm (y - a.2) (2 * (x - a.1)), Int.mul_assoc, Int.mul_comm (x - a.1) (y - a.2)]
theorem fnLeanAdd_dl : DFun Try.prog 10 gL1 := by
  have hE : EnvOK Try.prog [(29, gLean), (28, gLean), (26, gAddK), (22, gEqP)] := EnvOK.cons curveLean_di (EnvOK.cons curveLean_ds (EnvOK.cons curveAdd_di (EnvOK.cons sameKnots_dl EnvOK.nil)))
  refine DFun.of tauOK (fn := Try.f10) Try.func10 rfl (by kernel_rfl) rfl rfl ?_
  intro C ds r hg hl
  obtain ⟨bs, rfl, rfl, hb, hbl⟩ := gL1_inv hg hl
  clear hg hl
  refine ⟨by simp, ?_⟩
  refine DW.seq ?_
  refine DW.region ?_
  refine DL.go0 tauOK hE rfl (GStep.assign rfl) rfl rfl ?_
  refine DL.nil ?_
  refine DW.sub (T' := [(0, _)]) (Sub.cons rfl Sub.nil) (Sub.refl _) ?_
  refine DW.seq ?_
  refine DW.seq ?_
  refine DW.region ?_
  refine DL.go0 tauOK hE rfl (GStep.move rfl) rfl rfl ?_
  first | refine DL.go0 tauOK hE rfl (GStep.len rfl rfl rfl) rfl rfl ?_ | refine DL.go0 tauOK hE rfl (GStep.lenNil rfl rfl) rfl rfl ?_
  refine DL.go0 tauOK hE rfl (GStep.binI rfl rfl rfl) rfl rfl ?_
  refine DL.nil ?_
  refine DW.sub (T' := [(0, _), (16, _)]) (Sub.cons rfl (Sub.cons rfl Sub.nil)) (Sub.refl _) ?_
  refine DW.cond rfl (fun h1 => ?_) (fun h1 => ?_)
  · skip
    refine DW.seq ?_
    refine DW.region ?_
    refine DL.go0 tauOK hE rfl (GStep.assign rfl) rfl rfl ?_
    refine DL.nil ?_
    refine DW.sub (T' := [(2, _)]) (Sub.cons rfl Sub.nil) (Sub.refl _) ?_
    refine DW.ret ?_
    exact RetD.vb rfl (by first | rfl | simp)
  · skip
    have gd : gDraw (CurN 40000) [.sl .u8 1 bs.length bs] = some (CurN 40000) := if_pos hb
    refine DW.skip ?_
    refine DW.seq ?_
    refine DW.region ?_
    refine DL.go0 tauOK hE rfl (GStep.move rfl) rfl rfl ?_
    refine DL.rel DrawCurveLean_dr rfl rfl rfl rfl rfl (All2.cons (ArgOf.ro rfl rfl (by simp [flat_len])) All2.nil) (gd) ?_
    rintro r ⟨c, rfl, e1, e2, bc⟩
    refine ⟨by simp [resN, rws], ?_⟩
    show DL _ _ _ _ _ _ ((18, .sl 18 0 _) :: _) ((18, .row _ _ _) :: _)
    refine DL.go0 tauOK hE rfl (GStep.assign rfl) rfl rfl ?_
    refine DL.nil ?_
    refine DW.sub (T' := [(3, _)]) (Sub.cons rfl Sub.nil) (Sub.refl _) ?_
    refine DW.seq ?_
    refine DW.region ?_
    refine DL.go0 tauOK hE rfl (GStep.move rfl) rfl rfl ?_
    refine DL.go1 tauOK hE rfl (G.call (v := .tup [.s _ _, .v _]) (news := [.row _ _ _]) rfl (All2.cons (ArgOf.row rfl rfl (by simp [flat_len])) All2.nil) (gLean_flat) rfl rfl) rfl rfl rfl ?_
    refine DL.go0 tauOK hE rfl (GStep.move rfl) rfl rfl ?_
    refine DL.go0 tauOK hE rfl (GStep.extr rfl rfl) rfl rfl ?_
    refine DL.go0 tauOK hE rfl (GStep.extr rfl rfl) rfl rfl ?_
    refine DL.go0 tauOK hE rfl (GStep.assign rfl) rfl rfl ?_
    refine DL.go0 tauOK hE rfl (GStep.assign rfl) rfl rfl ?_
    refine DL.nil ?_
    refine DW.sub (T' := [(3, _), (4, _), (5, _)]) (Sub.cons rfl (Sub.cons rfl (Sub.cons rfl Sub.nil))) (Sub.refl _) ?_
    refine DW.seq ?_
    refine DW.region ?_
    refine DL.go0 tauOK hE rfl (GStep.move rfl) rfl rfl ?_
    refine DL.go1 tauOK hE rfl (G.call (v := .tup [.s _ _, .v _]) (news := [.row _ _ _]) rfl (All2.cons (ArgOf.row rfl rfl (by simp [flat_len])) All2.nil) (gLean_flat) rfl rfl) rfl rfl rfl ?_
    refine DL.go0 tauOK hE rfl (GStep.move rfl) rfl rfl ?_
    refine DL.go0 tauOK hE rfl (GStep.extr rfl rfl) rfl rfl ?_
    refine DL.go0 tauOK hE rfl (GStep.extr rfl rfl) rfl rfl ?_
    refine DL.go0 tauOK hE rfl (GStep.assign rfl) rfl rfl ?_
    refine DL.go0 tauOK hE rfl (GStep.assign rfl) rfl rfl ?_
    refine DL.nil ?_
    refine DW.sub (T' := [(3, _), (4, _), (5, _), (6, _), (7, _)]) (Sub.cons rfl (Sub.cons rfl (Sub.cons rfl (Sub.cons rfl (Sub.cons rfl Sub.nil))))) (Sub.refl _) ?_
    refine DW.seq ?_
    refine DW.seq ?_
    cases hc : curB c
    · skip
      refine DW.region ?_
      refine DL.go0 tauOK hE rfl (GStep.move rfl) rfl rfl ?_
      refine DL.go0 tauOK hE rfl (GStep.move rfl) rfl rfl ?_
      refine DL.go0 tauOK hE rfl (GStep.neqB rfl rfl rfl) rfl rfl ?_
      refine DL.go0 tauOK hE rfl (GStep.move rfl) rfl rfl ?_
      first | refine DL.skip rfl rfl rfl ?_ | refine DL.go0 tauOK hE rfl (GStep.move rfl) rfl rfl ?_
      first | refine DL.skip rfl rfl rfl ?_ | refine DL.go0 tauOK hE rfl (GStep.move rfl) rfl rfl ?_
      first | refine DL.skip rfl rfl rfl ?_ | refine DL.go0 tauOK hE rfl (G.call (v := .val _) (news := []) rfl (All2.cons (ArgOf.row rfl rfl (by simp [flat_len])) (All2.cons (ArgOf.row rfl rfl (by simp [flat_len])) All2.nil)) (gEqP_refl) rfl rfl) rfl rfl ?_
      first | refine DL.skip rfl rfl rfl ?_ | refine DL.go0 tauOK hE rfl (GStep.not rfl) rfl rfl ?_
      first | refine DL.go0 tauOK hE rfl (GStep.pickT rfl rfl) rfl rfl ?_ | refine DL.go0 tauOK hE rfl (GStep.pickF rfl rfl) rfl rfl ?_
      refine DL.go0 tauOK hE rfl (GStep.move rfl) rfl rfl ?_
      first | refine DL.skip rfl rfl rfl ?_ | refine DL.go0 tauOK hE rfl (GStep.move rfl) rfl rfl ?_
      first | refine DL.skip rfl rfl rfl ?_ | refine DL.go0 tauOK hE rfl (GStep.not rfl) rfl rfl ?_
      first | refine DL.go0 tauOK hE rfl (GStep.pickT rfl rfl) rfl rfl ?_ | refine DL.go0 tauOK hE rfl (GStep.pickF rfl rfl) rfl rfl ?_
      refine DL.nil ?_
      refine DW.sub (T' := [(3, _), (4, _), (5, _), (6, _), (7, _), (41, _)]) (Sub.cons rfl (Sub.cons rfl (Sub.cons rfl (Sub.cons rfl (Sub.cons rfl (Sub.cons rfl Sub.nil)))))) (Sub.refl _) ?_
      refine DW.condT rfl ?_
      refine DW.seq ?_
      refine DW.region ?_
      refine DL.go0 tauOK hE rfl (GStep.move rfl) rfl rfl ?_
      refine DL.go0 tauOK hE rfl (GStep.move rfl) rfl rfl ?_
      refine DL.go0 tauOK hE rfl (GStep.eqlB rfl rfl rfl) rfl rfl ?_
      refine DL.go0 tauOK hE rfl (GStep.move rfl) rfl rfl ?_
      first | refine DL.skip rfl rfl rfl ?_ | refine DL.go0 tauOK hE rfl (GStep.move rfl) rfl rfl ?_
      first | refine DL.skip rfl rfl rfl ?_ | refine DL.go0 tauOK hE rfl (GStep.move rfl) rfl rfl ?_
      first | refine DL.skip rfl rfl rfl ?_ | refine DL.go0 tauOK hE rfl (G.call (v := .val _) (news := []) rfl (All2.cons (ArgOf.row rfl rfl (by simp [flat_len])) (All2.cons (ArgOf.row rfl rfl (by simp [flat_len])) All2.nil)) (gEqP_refl) rfl rfl) rfl rfl ?_
      first | refine DL.go0 tauOK hE rfl (GStep.pickT rfl rfl) rfl rfl ?_ | refine DL.go0 tauOK hE rfl (GStep.pickF rfl rfl) rfl rfl ?_
      refine DL.go0 tauOK hE rfl (GStep.assign rfl) rfl rfl ?_
      refine DL.nil ?_
      refine DW.sub (T' := [(2, _)]) (Sub.cons rfl Sub.nil) (Sub.refl _) ?_
      refine DW.ret ?_
      exact RetD.vb rfl (by first | rfl | simp)
    · skip
      have hcl := cur_len hc
      have b0 := cur_bd hc (i := 0) (by omega)
      have b1 := cur_bd hc (i := 1) (by omega)
      unfold kx ky at b0 b1
      rw [leanC_yes hc]
      refine DW.region ?_
      refine DL.go0 tauOK hE rfl (GStep.move rfl) rfl rfl ?_
      refine DL.go0 tauOK hE rfl (GStep.move rfl) rfl rfl ?_
      refine DL.go0 tauOK hE rfl (GStep.neqB rfl rfl rfl) rfl rfl ?_
      refine DL.go0 tauOK hE rfl (GStep.move rfl) rfl rfl ?_
      first | refine DL.skip rfl rfl rfl ?_ | refine DL.go0 tauOK hE rfl (GStep.move rfl) rfl rfl ?_
      first | refine DL.skip rfl rfl rfl ?_ | refine DL.go0 tauOK hE rfl (GStep.move rfl) rfl rfl ?_
      first | refine DL.skip rfl rfl rfl ?_ | refine DL.go0 tauOK hE rfl (G.call (v := .val _) (news := []) rfl (All2.cons (ArgOf.row rfl rfl (by simp [flat_len])) (All2.cons (ArgOf.row rfl rfl (by simp [flat_len])) All2.nil)) (gEqP_refl) rfl rfl) rfl rfl ?_
      first | refine DL.skip rfl rfl rfl ?_ | refine DL.go0 tauOK hE rfl (GStep.not rfl) rfl rfl ?_
      first | refine DL.go0 tauOK hE rfl (GStep.pickT rfl rfl) rfl rfl ?_ | refine DL.go0 tauOK hE rfl (GStep.pickF rfl rfl) rfl rfl ?_
      refine DL.go0 tauOK hE rfl (GStep.move rfl) rfl rfl ?_
      first | refine DL.skip rfl rfl rfl ?_ | refine DL.go0 tauOK hE rfl (GStep.move rfl) rfl rfl ?_
      first | refine DL.skip rfl rfl rfl ?_ | refine DL.go0 tauOK hE rfl (GStep.not rfl) rfl rfl ?_
      first | refine DL.go0 tauOK hE rfl (GStep.pickT rfl rfl) rfl rfl ?_ | refine DL.go0 tauOK hE rfl (GStep.pickF rfl rfl) rfl rfl ?_
      refine DL.nil ?_
      refine DW.sub (T' := [(3, _), (4, _), (5, _), (6, _), (7, _), (41, _)]) (Sub.cons rfl (Sub.cons rfl (Sub.cons rfl (Sub.cons rfl (Sub.cons rfl (Sub.cons rfl Sub.nil)))))) (Sub.refl _) ?_
      refine DW.condF rfl ?_
      by_cases hx : ((c.getD 0 (0, 0)).1 + (c.getD 1 (0, 0)).1) % 2 = 0
      · by_cases hy : ((c.getD 0 (0, 0)).2 + (c.getD 1 (0, 0)).2) % 2 = 0
        · obtain ⟨x, ex⟩ : ∃ x, x = ((c.getD 0 (0, 0)).1 + (c.getD 1 (0, 0)).1) / 2 := ⟨_, rfl⟩
          obtain ⟨y, ey⟩ : ∃ y, y = ((c.getD 0 (0, 0)).2 + (c.getD 1 (0, 0)).2) / 2 := ⟨_, rfl⟩
          cases ho : addO c (x, y)
          · have q1 : ∀ n, gAddK [.sl .i64 2 n (flat c), .v (.agg #[.int .i64 x, .int .i64 y])] = some (.tup [.row 32 2 (addK c (x, y)).length (flat (addK c (x, y))), .v (.bool false)]) := fun n => by rw [gAddK_flat, ho]
            skip
            refine DW.skip ?_
            refine DW.seq ?_
            refine DW.draw tauOK hE mixed 22 (by kernel_rfl) ?_
            refine DR.go0 rfl (GStep.move rfl) rfl rfl ?_
            refine DR.go0 rfl (G.ia2 (i := 0) rfl rfl rfl rfl rfl rfl rfl (by omega)) rfl rfl ?_
            refine DR.go0 rfl (G.fa rfl rfl rfl (by decide)) rfl rfl ?_
            first | refine DR.go0 rfl (G.lf0r rfl rfl rfl (by omega)) rfl rfl ?_ | refine DR.go0 rfl (G.lf0w rfl rfl rfl (by omega)) rfl rfl ?_
            refine DR.go0 rfl (GStep.move rfl) rfl rfl ?_
            refine DR.go0 rfl (G.ia2 (i := 1) rfl rfl rfl rfl rfl rfl rfl (by omega)) rfl rfl ?_
            refine DR.go0 rfl (G.fa rfl rfl rfl (by decide)) rfl rfl ?_
            first | refine DR.go0 rfl (G.lf0r rfl rfl rfl (by omega)) rfl rfl ?_ | refine DR.go0 rfl (G.lf0w rfl rfl rfl (by omega)) rfl rfl ?_
            first | refine DR.go0 rfl (G.add rfl rfl (by omega)) rfl rfl ?_ | refine DR.go0 rfl (GStep.binI rfl rfl rfl) rfl rfl ?_
            first | refine DR.go0 rfl (G.iv (b := x) (G.quo rfl rfl (by omega) (by omega) (by omega)) (ex.symm)) rfl rfl ?_ | refine DR.go0 rfl (G.iv (b := x) (GStep.quo rfl rfl (by omega)) (ex.symm)) rfl rfl ?_
            refine DR.go0 rfl (GStep.move rfl) rfl rfl ?_
            refine DR.go0 rfl (G.ia2 (i := 0) rfl rfl rfl rfl rfl rfl rfl (by omega)) rfl rfl ?_
            refine DR.go0 rfl (G.fa rfl rfl rfl (by decide)) rfl rfl ?_
            first | refine DR.go0 rfl (G.lf1r rfl rfl rfl (by omega)) rfl rfl ?_ | refine DR.go0 rfl (G.lf1w rfl rfl rfl (by omega)) rfl rfl ?_
            refine DR.go0 rfl (GStep.move rfl) rfl rfl ?_
            refine DR.go0 rfl (G.ia2 (i := 1) rfl rfl rfl rfl rfl rfl rfl (by omega)) rfl rfl ?_
            refine DR.go0 rfl (G.fa rfl rfl rfl (by decide)) rfl rfl ?_
            first | refine DR.go0 rfl (G.lf1r rfl rfl rfl (by omega)) rfl rfl ?_ | refine DR.go0 rfl (G.lf1w rfl rfl rfl (by omega)) rfl rfl ?_
            first | refine DR.go0 rfl (G.add rfl rfl (by omega)) rfl rfl ?_ | refine DR.go0 rfl (GStep.binI rfl rfl rfl) rfl rfl ?_
            first | refine DR.go0 rfl (G.iv (b := y) (G.quo rfl rfl (by omega) (by omega) (by omega)) (ey.symm)) rfl rfl ?_ | refine DR.go0 rfl (G.iv (b := y) (GStep.quo rfl rfl (by omega)) (ey.symm)) rfl rfl ?_
            refine DR.go0 rfl (G.b01 rfl rfl rfl) rfl rfl ?_
            refine DR.go1 rfl (GStep.alloc2 rfl) rfl rfl rfl ?_
            refine DR.nil ?_
            refine DL.sb2 tauOK rfl rfl rfl rfl rfl rfl rfl ?_
            refine DL.nil ?_
            refine DW.sub (T' := [(3, _), (4, _), (8, _)]) (Sub.cons rfl (Sub.cons rfl (Sub.cons rfl Sub.nil))) (Sub.refl _) ?_
            refine DW.seq ?_
            refine DW.draw tauOK hE mixed 25 (by kernel_rfl) ?_
            refine DR.go0 rfl (GStep.move rfl) rfl rfl ?_
            refine DR.go0 rfl (G.ia2 (i := 0) rfl rfl rfl rfl rfl rfl rfl (by omega)) rfl rfl ?_
            refine DR.go0 rfl (G.fa rfl rfl rfl (by decide)) rfl rfl ?_
            first | refine DR.go0 rfl (G.lf0r rfl rfl rfl (by omega)) rfl rfl ?_ | refine DR.go0 rfl (G.lf0w rfl rfl rfl (by omega)) rfl rfl ?_
            refine DR.go0 rfl (GStep.move rfl) rfl rfl ?_
            refine DR.go0 rfl (G.ia2 (i := 1) rfl rfl rfl rfl rfl rfl rfl (by omega)) rfl rfl ?_
            refine DR.go0 rfl (G.fa rfl rfl rfl (by decide)) rfl rfl ?_
            first | refine DR.go0 rfl (G.lf0r rfl rfl rfl (by omega)) rfl rfl ?_ | refine DR.go0 rfl (G.lf0w rfl rfl rfl (by omega)) rfl rfl ?_
            first | refine DR.go0 rfl (G.add rfl rfl (by omega)) rfl rfl ?_ | refine DR.go0 rfl (GStep.binI rfl rfl rfl) rfl rfl ?_
            first | refine DR.go0 rfl (G.rem rfl rfl (by omega) (by omega)) rfl rfl ?_ | refine DR.go0 rfl (GStep.rem rfl rfl (by omega)) rfl rfl ?_
            refine DR.go0 rfl (G.tr (GStep.binI rfl rfl rfl) (by simp [-List.getD_eq_getElem?_getD, hx])) rfl rfl ?_
            refine DR.go0 rfl (GStep.move rfl) rfl rfl ?_
            first | refine DR.skip rfl rfl rfl ?_ | refine DR.go0 rfl (GStep.move rfl) rfl rfl ?_
            first | refine DR.skip rfl rfl rfl ?_ | refine DR.go0 rfl (G.ia2 (i := 0) rfl rfl rfl rfl rfl rfl rfl (by omega)) rfl rfl ?_
            first | refine DR.skip rfl rfl rfl ?_ | refine DR.go0 rfl (G.fa rfl rfl rfl (by decide)) rfl rfl ?_
            first | refine DR.skip rfl rfl rfl ?_ | refine DR.go0 rfl (G.lf1r rfl rfl rfl (by omega)) rfl rfl ?_ | refine DR.go0 rfl (G.lf1w rfl rfl rfl (by omega)) rfl rfl ?_
            first | refine DR.skip rfl rfl rfl ?_ | refine DR.go0 rfl (GStep.move rfl) rfl rfl ?_
            first | refine DR.skip rfl rfl rfl ?_ | refine DR.go0 rfl (G.ia2 (i := 1) rfl rfl rfl rfl rfl rfl rfl (by omega)) rfl rfl ?_
            first | refine DR.skip rfl rfl rfl ?_ | refine DR.go0 rfl (G.fa rfl rfl rfl (by decide)) rfl rfl ?_
            first | refine DR.skip rfl rfl rfl ?_ | refine DR.go0 rfl (G.lf1r rfl rfl rfl (by omega)) rfl rfl ?_ | refine DR.go0 rfl (G.lf1w rfl rfl rfl (by omega)) rfl rfl ?_
            first | refine DR.skip rfl rfl rfl ?_ | refine DR.go0 rfl (G.add rfl rfl (by omega)) rfl rfl ?_ | refine DR.go0 rfl (GStep.binI rfl rfl rfl) rfl rfl ?_
            first | refine DR.skip rfl rfl rfl ?_ | refine DR.go0 rfl (G.rem rfl rfl (by omega) (by omega)) rfl rfl ?_ | refine DR.go0 rfl (GStep.rem rfl rfl (by omega)) rfl rfl ?_
            first | refine DR.skip rfl rfl rfl ?_ | refine DR.go0 rfl (G.tr (GStep.binI rfl rfl rfl) (by simp [-List.getD_eq_getElem?_getD, hy])) rfl rfl ?_
            first | refine DR.go0 rfl (GStep.pickT rfl rfl) rfl rfl ?_ | refine DR.go0 rfl (GStep.pickF rfl rfl) rfl rfl ?_
            refine DR.go0 rfl (GStep.assign rfl) rfl rfl ?_
            refine DR.nil ?_
            refine DL.nil ?_
            refine DW.sub (T' := [(3, _), (4, _), (8, _), (9, _)]) (Sub.cons rfl (Sub.cons rfl (Sub.cons rfl (Sub.cons rfl Sub.nil)))) (Sub.refl _) ?_
            refine DW.seq ?_
            refine DW.region ?_
            refine DL.go0 tauOK hE rfl (GStep.move rfl) rfl rfl ?_
            refine DL.go0 tauOK hE rfl (G.lb2 rfl rfl rfl) rfl rfl ?_
            refine DL.go1 tauOK hE rfl (G.call (v := .tup [.s _ _, .v _]) (news := [.row _ _ _]) rfl (All2.cons (ArgOf.row rfl rfl (by simp [flat_len])) (All2.cons (ArgOf.v rfl) All2.nil)) (q1 _) rfl rfl) rfl rfl rfl ?_
            refine DL.go0 tauOK hE rfl (GStep.move rfl) rfl rfl ?_
            refine DL.go0 tauOK hE rfl (GStep.extr rfl rfl) rfl rfl ?_
            refine DL.go0 tauOK hE rfl (GStep.extr rfl rfl) rfl rfl ?_
            refine DL.go0 tauOK hE rfl (GStep.assign rfl) rfl rfl ?_
            refine DL.go0 tauOK hE rfl (GStep.assign rfl) rfl rfl ?_
            refine DL.nil ?_
            refine DW.sub (T' := [(4, _), (9, _), (10, _), (11, _)]) (Sub.cons rfl (Sub.cons rfl (Sub.cons rfl (Sub.cons rfl Sub.nil)))) (Sub.refl _) ?_
            refine DW.seq ?_
            refine DW.region ?_
            refine DL.go0 tauOK hE rfl (GStep.move rfl) rfl rfl ?_
            refine DL.go1 tauOK hE rfl (G.call (v := .tup [.s _ _, .v _]) (news := [.row _ _ _]) rfl (All2.cons (ArgOf.row rfl rfl (by simp [flat_len])) All2.nil) (gLean_flat) rfl rfl) rfl rfl rfl ?_
            refine DL.go0 tauOK hE rfl (GStep.move rfl) rfl rfl ?_
            refine DL.go0 tauOK hE rfl (GStep.extr rfl rfl) rfl rfl ?_
            refine DL.go0 tauOK hE rfl (GStep.extr rfl rfl) rfl rfl ?_
            refine DL.go0 tauOK hE rfl (GStep.assign rfl) rfl rfl ?_
            refine DL.go0 tauOK hE rfl (GStep.assign rfl) rfl rfl ?_
            refine DL.nil ?_
            refine DW.sub (T' := [(4, _), (9, _), (11, _), (12, _), (13, _)]) (Sub.cons rfl (Sub.cons rfl (Sub.cons rfl (Sub.cons rfl (Sub.cons rfl Sub.nil))))) (Sub.refl _) ?_
            refine DW.seq ?_
            refine DW.region ?_
            refine DL.go0 tauOK hE rfl (GStep.move rfl) rfl rfl ?_
            refine DL.go0 tauOK hE rfl (GStep.not rfl) rfl rfl ?_
            refine DL.go0 tauOK hE rfl (GStep.move rfl) rfl rfl ?_
            first | refine DL.skip rfl rfl rfl ?_ | refine DL.go0 tauOK hE rfl (GStep.move rfl) rfl rfl ?_
            first | refine DL.skip rfl rfl rfl ?_ | refine DL.go0 tauOK hE rfl (GStep.not rfl) rfl rfl ?_
            first | refine DL.go0 tauOK hE rfl (GStep.pickT rfl rfl) rfl rfl ?_ | refine DL.go0 tauOK hE rfl (GStep.pickF rfl rfl) rfl rfl ?_
            refine DL.go0 tauOK hE rfl (GStep.move rfl) rfl rfl ?_
            first | refine DL.skip rfl rfl rfl ?_ | refine DL.go0 tauOK hE rfl (GStep.move rfl) rfl rfl ?_
            first | refine DL.skip rfl rfl rfl ?_ | refine DL.go0 tauOK hE rfl (GStep.move rfl) rfl rfl ?_
            first | refine DL.skip rfl rfl rfl ?_ | refine DL.go0 tauOK hE rfl (GStep.move rfl) rfl rfl ?_
            first | refine DL.skip rfl rfl rfl ?_ | refine DL.go0 tauOK hE rfl (GStep.move rfl) rfl rfl ?_
            first | refine DL.skip rfl rfl rfl ?_ | refine DL.go0 tauOK hE rfl (G.call (v := .val _) (news := []) rfl (All2.cons (ArgOf.row rfl rfl (by simp [flat_len])) (All2.cons (ArgOf.row rfl rfl (by simp [flat_len])) All2.nil)) (rfl) rfl rfl) rfl rfl ?_
            first | refine DL.skip rfl rfl rfl ?_ | refine DL.go0 tauOK hE rfl (GStep.pickT rfl rfl) rfl rfl ?_ | refine DL.go0 tauOK hE rfl (GStep.pickF rfl rfl) rfl rfl ?_
            first | refine DL.go0 tauOK hE rfl (GStep.pickT rfl rfl) rfl rfl ?_ | refine DL.go0 tauOK hE rfl (GStep.pickF rfl rfl) rfl rfl ?_
            refine DL.go0 tauOK hE rfl (GStep.assign rfl) rfl rfl ?_
            refine DL.nil ?_
            refine DW.sub (T' := [(2, _)]) (Sub.cons rfl Sub.nil) (Sub.refl _) ?_
            refine DW.ret ?_
            exact RetD.vb rfl (by first | rfl | simp)
          · have hL := lean_added ho (show 2 * x = _ by unfold kx; omega) (show 2 * y = _ by unfold ky; omega)
            have hv : curB (addK c (x, y)) = true := by rw [addL_eq ho]; exact (addO_iff.1 ho).2
            have q1 : ∀ n, gAddK [.sl .i64 2 n (flat c), .v (.agg #[.int .i64 x, .int .i64 y])] = some (.tup [.row 32 2 (addK c (x, y)).length (flat (addK c (x, y))), .v (.bool true)]) := fun n => by rw [gAddK_flat, ho]
            have q2 : ∀ n, gLean [.sl .i64 2 n (flat (addK c (x, y)))] = some (.tup [.row 32 2 (leanF c).length (flat (leanF c)), .v (.bool true)]) := fun n => by rw [gLean_flat, leanC_yes hv, hv, hL]
            skip
            refine DW.skip ?_
            refine DW.seq ?_
            refine DW.draw tauOK hE mixed 22 (by kernel_rfl) ?_
            refine DR.go0 rfl (GStep.move rfl) rfl rfl ?_
            refine DR.go0 rfl (G.ia2 (i := 0) rfl rfl rfl rfl rfl rfl rfl (by omega)) rfl rfl ?_
            refine DR.go0 rfl (G.fa rfl rfl rfl (by decide)) rfl rfl ?_
            first | refine DR.go0 rfl (G.lf0r rfl rfl rfl (by omega)) rfl rfl ?_ | refine DR.go0 rfl (G.lf0w rfl rfl rfl (by omega)) rfl rfl ?_
            refine DR.go0 rfl (GStep.move rfl) rfl rfl ?_
            refine DR.go0 rfl (G.ia2 (i := 1) rfl rfl rfl rfl rfl rfl rfl (by omega)) rfl rfl ?_
            refine DR.go0 rfl (G.fa rfl rfl rfl (by decide)) rfl rfl ?_
            first | refine DR.go0 rfl (G.lf0r rfl rfl rfl (by omega)) rfl rfl ?_ | refine DR.go0 rfl (G.lf0w rfl rfl rfl (by omega)) rfl rfl ?_
            first | refine DR.go0 rfl (G.add rfl rfl (by omega)) rfl rfl ?_ | refine DR.go0 rfl (GStep.binI rfl rfl rfl) rfl rfl ?_
            first | refine DR.go0 rfl (G.iv (b := x) (G.quo rfl rfl (by omega) (by omega) (by omega)) (ex.symm)) rfl rfl ?_ | refine DR.go0 rfl (G.iv (b := x) (GStep.quo rfl rfl (by omega)) (ex.symm)) rfl rfl ?_
            refine DR.go0 rfl (GStep.move rfl) rfl rfl ?_
            refine DR.go0 rfl (G.ia2 (i := 0) rfl rfl rfl rfl rfl rfl rfl (by omega)) rfl rfl ?_
            refine DR.go0 rfl (G.fa rfl rfl rfl (by decide)) rfl rfl ?_
            first | refine DR.go0 rfl (G.lf1r rfl rfl rfl (by omega)) rfl rfl ?_ | refine DR.go0 rfl (G.lf1w rfl rfl rfl (by omega)) rfl rfl ?_
            refine DR.go0 rfl (GStep.move rfl) rfl rfl ?_
            refine DR.go0 rfl (G.ia2 (i := 1) rfl rfl rfl rfl rfl rfl rfl (by omega)) rfl rfl ?_
            refine DR.go0 rfl (G.fa rfl rfl rfl (by decide)) rfl rfl ?_
            first | refine DR.go0 rfl (G.lf1r rfl rfl rfl (by omega)) rfl rfl ?_ | refine DR.go0 rfl (G.lf1w rfl rfl rfl (by omega)) rfl rfl ?_
            first | refine DR.go0 rfl (G.add rfl rfl (by omega)) rfl rfl ?_ | refine DR.go0 rfl (GStep.binI rfl rfl rfl) rfl rfl ?_
            first | refine DR.go0 rfl (G.iv (b := y) (G.quo rfl rfl (by omega) (by omega) (by omega)) (ey.symm)) rfl rfl ?_ | refine DR.go0 rfl (G.iv (b := y) (GStep.quo rfl rfl (by omega)) (ey.symm)) rfl rfl ?_
            refine DR.go0 rfl (G.b01 rfl rfl rfl) rfl rfl ?_
            refine DR.go1 rfl (GStep.alloc2 rfl) rfl rfl rfl ?_
            refine DR.nil ?_
            refine DL.sb2 tauOK rfl rfl rfl rfl rfl rfl rfl ?_
            refine DL.nil ?_
            refine DW.sub (T' := [(3, _), (4, _), (8, _)]) (Sub.cons rfl (Sub.cons rfl (Sub.cons rfl Sub.nil))) (Sub.refl _) ?_
            refine DW.seq ?_
            refine DW.draw tauOK hE mixed 25 (by kernel_rfl) ?_
            refine DR.go0 rfl (GStep.move rfl) rfl rfl ?_
            refine DR.go0 rfl (G.ia2 (i := 0) rfl rfl rfl rfl rfl rfl rfl (by omega)) rfl rfl ?_
            refine DR.go0 rfl (G.fa rfl rfl rfl (by decide)) rfl rfl ?_
            first | refine DR.go0 rfl (G.lf0r rfl rfl rfl (by omega)) rfl rfl ?_ | refine DR.go0 rfl (G.lf0w rfl rfl rfl (by omega)) rfl rfl ?_
            refine DR.go0 rfl (GStep.move rfl) rfl rfl ?_
            refine DR.go0 rfl (G.ia2 (i := 1) rfl rfl rfl rfl rfl rfl rfl (by omega)) rfl rfl ?_
            refine DR.go0 rfl (G.fa rfl rfl rfl (by decide)) rfl rfl ?_
            first | refine DR.go0 rfl (G.lf0r rfl rfl rfl (by omega)) rfl rfl ?_ | refine DR.go0 rfl (G.lf0w rfl rfl rfl (by omega)) rfl rfl ?_
            first | refine DR.go0 rfl (G.add rfl rfl (by omega)) rfl rfl ?_ | refine DR.go0 rfl (GStep.binI rfl rfl rfl) rfl rfl ?_
            first | refine DR.go0 rfl (G.rem rfl rfl (by omega) (by omega)) rfl rfl ?_ | refine DR.go0 rfl (GStep.rem rfl rfl (by omega)) rfl rfl ?_
            refine DR.go0 rfl (G.tr (GStep.binI rfl rfl rfl) (by simp [-List.getD_eq_getElem?_getD, hx])) rfl rfl ?_
            refine DR.go0 rfl (GStep.move rfl) rfl rfl ?_
            first | refine DR.skip rfl rfl rfl ?_ | refine DR.go0 rfl (GStep.move rfl) rfl rfl ?_
            first | refine DR.skip rfl rfl rfl ?_ | refine DR.go0 rfl (G.ia2 (i := 0) rfl rfl rfl rfl rfl rfl rfl (by omega)) rfl rfl ?_
            first | refine DR.skip rfl rfl rfl ?_ | refine DR.go0 rfl (G.fa rfl rfl rfl (by decide)) rfl rfl ?_
            first | refine DR.skip rfl rfl rfl ?_ | refine DR.go0 rfl (G.lf1r rfl rfl rfl (by omega)) rfl rfl ?_ | refine DR.go0 rfl (G.lf1w rfl rfl rfl (by omega)) rfl rfl ?_
            first | refine DR.skip rfl rfl rfl ?_ | refine DR.go0 rfl (GStep.move rfl) rfl rfl ?_
            first | refine DR.skip rfl rfl rfl ?_ | refine DR.go0 rfl (G.ia2 (i := 1) rfl rfl rfl rfl rfl rfl rfl (by omega)) rfl rfl ?_
            first | refine DR.skip rfl rfl rfl ?_ | refine DR.go0 rfl (G.fa rfl rfl rfl (by decide)) rfl rfl ?_
            first | refine DR.skip rfl rfl rfl ?_ | refine DR.go0 rfl (G.lf1r rfl rfl rfl (by omega)) rfl rfl ?_ | refine DR.go0 rfl (G.lf1w rfl rfl rfl (by omega)) rfl rfl ?_
            first | refine DR.skip rfl rfl rfl ?_ | refine DR.go0 rfl (G.add rfl rfl (by omega)) rfl rfl ?_ | refine DR.go0 rfl (GStep.binI rfl rfl rfl) rfl rfl ?_
            first | refine DR.skip rfl rfl rfl ?_ | refine DR.go0 rfl (G.rem rfl rfl (by omega) (by omega)) rfl rfl ?_ | refine DR.go0 rfl (GStep.rem rfl rfl (by omega)) rfl rfl ?_
            first | refine DR.skip rfl rfl rfl ?_ | refine DR.go0 rfl (G.tr (GStep.binI rfl rfl rfl) (by simp [-List.getD_eq_getElem?_getD, hy])) rfl rfl ?_
            first | refine DR.go0 rfl (GStep.pickT rfl rfl) rfl rfl ?_ | refine DR.go0 rfl (GStep.pickF rfl rfl) rfl rfl ?_
            refine DR.go0 rfl (GStep.assign rfl) rfl rfl ?_
            refine DR.nil ?_
            refine DL.nil ?_
            refine DW.sub (T' := [(3, _), (4, _), (8, _), (9, _)]) (Sub.cons rfl (Sub.cons rfl (Sub.cons rfl (Sub.cons rfl Sub.nil)))) (Sub.refl _) ?_
            refine DW.seq ?_
            refine DW.region ?_
            refine DL.go0 tauOK hE rfl (GStep.move rfl) rfl rfl ?_
            refine DL.go0 tauOK hE rfl (G.lb2 rfl rfl rfl) rfl rfl ?_
            refine DL.go1 tauOK hE rfl (G.call (v := .tup [.s _ _, .v _]) (news := [.row _ _ _]) rfl (All2.cons (ArgOf.row rfl rfl (by simp [flat_len])) (All2.cons (ArgOf.v rfl) All2.nil)) (q1 _) rfl rfl) rfl rfl rfl ?_
            refine DL.go0 tauOK hE rfl (GStep.move rfl) rfl rfl ?_
            refine DL.go0 tauOK hE rfl (GStep.extr rfl rfl) rfl rfl ?_
            refine DL.go0 tauOK hE rfl (GStep.extr rfl rfl) rfl rfl ?_
            refine DL.go0 tauOK hE rfl (GStep.assign rfl) rfl rfl ?_
            refine DL.go0 tauOK hE rfl (GStep.assign rfl) rfl rfl ?_
            refine DL.nil ?_
            refine DW.sub (T' := [(4, _), (9, _), (10, _), (11, _)]) (Sub.cons rfl (Sub.cons rfl (Sub.cons rfl (Sub.cons rfl Sub.nil)))) (Sub.refl _) ?_
            refine DW.seq ?_
            refine DW.region ?_
            refine DL.go0 tauOK hE rfl (GStep.move rfl) rfl rfl ?_
            refine DL.go1 tauOK hE rfl (G.call (v := .tup [.s _ _, .v _]) (news := [.row _ _ _]) rfl (All2.cons (ArgOf.row rfl rfl (by simp [flat_len])) All2.nil) (q2 _) rfl rfl) rfl rfl rfl ?_
            refine DL.go0 tauOK hE rfl (GStep.move rfl) rfl rfl ?_
            refine DL.go0 tauOK hE rfl (GStep.extr rfl rfl) rfl rfl ?_
            refine DL.go0 tauOK hE rfl (GStep.extr rfl rfl) rfl rfl ?_
            refine DL.go0 tauOK hE rfl (GStep.assign rfl) rfl rfl ?_
            refine DL.go0 tauOK hE rfl (GStep.assign rfl) rfl rfl ?_
            refine DL.nil ?_
            refine DW.sub (T' := [(4, _), (9, _), (11, _), (12, _), (13, _)]) (Sub.cons rfl (Sub.cons rfl (Sub.cons rfl (Sub.cons rfl (Sub.cons rfl Sub.nil))))) (Sub.refl _) ?_
            refine DW.seq ?_
            refine DW.region ?_
            refine DL.go0 tauOK hE rfl (GStep.move rfl) rfl rfl ?_
            refine DL.go0 tauOK hE rfl (GStep.not rfl) rfl rfl ?_
            refine DL.go0 tauOK hE rfl (GStep.move rfl) rfl rfl ?_
            first | refine DL.skip rfl rfl rfl ?_ | refine DL.go0 tauOK hE rfl (GStep.move rfl) rfl rfl ?_
            first | refine DL.skip rfl rfl rfl ?_ | refine DL.go0 tauOK hE rfl (GStep.not rfl) rfl rfl ?_
            first | refine DL.go0 tauOK hE rfl (GStep.pickT rfl rfl) rfl rfl ?_ | refine DL.go0 tauOK hE rfl (GStep.pickF rfl rfl) rfl rfl ?_
            refine DL.go0 tauOK hE rfl (GStep.move rfl) rfl rfl ?_
            first | refine DL.skip rfl rfl rfl ?_ | refine DL.go0 tauOK hE rfl (GStep.move rfl) rfl rfl ?_
            first | refine DL.skip rfl rfl rfl ?_ | refine DL.go0 tauOK hE rfl (GStep.move rfl) rfl rfl ?_
            first | refine DL.skip rfl rfl rfl ?_ | refine DL.go0 tauOK hE rfl (GStep.move rfl) rfl rfl ?_
            first | refine DL.skip rfl rfl rfl ?_ | refine DL.go0 tauOK hE rfl (GStep.move rfl) rfl rfl ?_
            first | refine DL.skip rfl rfl rfl ?_ | refine DL.go0 tauOK hE rfl (G.call (v := .val _) (news := []) rfl (All2.cons (ArgOf.row rfl rfl (by simp [flat_len])) (All2.cons (ArgOf.row rfl rfl (by simp [flat_len])) All2.nil)) (gEqP_refl) rfl rfl) rfl rfl ?_
            first | refine DL.skip rfl rfl rfl ?_ | refine DL.go0 tauOK hE rfl (GStep.pickT rfl rfl) rfl rfl ?_ | refine DL.go0 tauOK hE rfl (GStep.pickF rfl rfl) rfl rfl ?_
            first | refine DL.go0 tauOK hE rfl (GStep.pickT rfl rfl) rfl rfl ?_ | refine DL.go0 tauOK hE rfl (GStep.pickF rfl rfl) rfl rfl ?_
            refine DL.go0 tauOK hE rfl (GStep.assign rfl) rfl rfl ?_
            refine DL.nil ?_
            refine DW.sub (T' := [(2, _)]) (Sub.cons rfl Sub.nil) (Sub.refl _) ?_
            refine DW.ret ?_
            exact RetD.vb rfl (by first | rfl | simp)
        · skip
          refine DW.skip ?_
          refine DW.seq ?_
          refine DW.draw tauOK hE mixed 22 (by kernel_rfl) ?_
          refine DR.go0 rfl (GStep.move rfl) rfl rfl ?_
          refine DR.go0 rfl (G.ia2 (i := 0) rfl rfl rfl rfl rfl rfl rfl (by omega)) rfl rfl ?_
          refine DR.go0 rfl (G.fa rfl rfl rfl (by decide)) rfl rfl ?_
          first | refine DR.go0 rfl (G.lf0r rfl rfl rfl (by omega)) rfl rfl ?_ | refine DR.go0 rfl (G.lf0w rfl rfl rfl (by omega)) rfl rfl ?_
          refine DR.go0 rfl (GStep.move rfl) rfl rfl ?_
          refine DR.go0 rfl (G.ia2 (i := 1) rfl rfl rfl rfl rfl rfl rfl (by omega)) rfl rfl ?_
          refine DR.go0 rfl (G.fa rfl rfl rfl (by decide)) rfl rfl ?_
          first | refine DR.go0 rfl (G.lf0r rfl rfl rfl (by omega)) rfl rfl ?_ | refine DR.go0 rfl (G.lf0w rfl rfl rfl (by omega)) rfl rfl ?_
          first | refine DR.go0 rfl (G.add rfl rfl (by omega)) rfl rfl ?_ | refine DR.go0 rfl (GStep.binI rfl rfl rfl) rfl rfl ?_
          first | refine DR.go0 rfl (G.quo rfl rfl (by omega) (by omega) (by omega)) rfl rfl ?_ | refine DR.go0 rfl (GStep.quo rfl rfl (by omega)) rfl rfl ?_
          refine DR.go0 rfl (GStep.move rfl) rfl rfl ?_
          refine DR.go0 rfl (G.ia2 (i := 0) rfl rfl rfl rfl rfl rfl rfl (by omega)) rfl rfl ?_
          refine DR.go0 rfl (G.fa rfl rfl rfl (by decide)) rfl rfl ?_
          first | refine DR.go0 rfl (G.lf1r rfl rfl rfl (by omega)) rfl rfl ?_ | refine DR.go0 rfl (G.lf1w rfl rfl rfl (by omega)) rfl rfl ?_
          refine DR.go0 rfl (GStep.move rfl) rfl rfl ?_
          refine DR.go0 rfl (G.ia2 (i := 1) rfl rfl rfl rfl rfl rfl rfl (by omega)) rfl rfl ?_
          refine DR.go0 rfl (G.fa rfl rfl rfl (by decide)) rfl rfl ?_
          first | refine DR.go0 rfl (G.lf1r rfl rfl rfl (by omega)) rfl rfl ?_ | refine DR.go0 rfl (G.lf1w rfl rfl rfl (by omega)) rfl rfl ?_
          first | refine DR.go0 rfl (G.add rfl rfl (by omega)) rfl rfl ?_ | refine DR.go0 rfl (GStep.binI rfl rfl rfl) rfl rfl ?_
          first | refine DR.go0 rfl (G.quo rfl rfl (by omega) (by omega) (by omega)) rfl rfl ?_ | refine DR.go0 rfl (GStep.quo rfl rfl (by omega)) rfl rfl ?_
          refine DR.go0 rfl (G.b01 rfl rfl rfl) rfl rfl ?_
          refine DR.go1 rfl (GStep.alloc2 rfl) rfl rfl rfl ?_
          refine DR.nil ?_
          refine DL.sb2 tauOK rfl rfl rfl rfl rfl rfl rfl ?_
          refine DL.nil ?_
          refine DW.sub (T' := [(3, _), (4, _), (8, _)]) (Sub.cons rfl (Sub.cons rfl (Sub.cons rfl Sub.nil))) (Sub.refl _) ?_
          refine DW.seq ?_
          refine DW.draw tauOK hE mixed 25 (by kernel_rfl) ?_
          refine DR.go0 rfl (GStep.move rfl) rfl rfl ?_
          refine DR.go0 rfl (G.ia2 (i := 0) rfl rfl rfl rfl rfl rfl rfl (by omega)) rfl rfl ?_
          refine DR.go0 rfl (G.fa rfl rfl rfl (by decide)) rfl rfl ?_
          first | refine DR.go0 rfl (G.lf0r rfl rfl rfl (by omega)) rfl rfl ?_ | refine DR.go0 rfl (G.lf0w rfl rfl rfl (by omega)) rfl rfl ?_
          refine DR.go0 rfl (GStep.move rfl) rfl rfl ?_
          refine DR.go0 rfl (G.ia2 (i := 1) rfl rfl rfl rfl rfl rfl rfl (by omega)) rfl rfl ?_
          refine DR.go0 rfl (G.fa rfl rfl rfl (by decide)) rfl rfl ?_
          first | refine DR.go0 rfl (G.lf0r rfl rfl rfl (by omega)) rfl rfl ?_ | refine DR.go0 rfl (G.lf0w rfl rfl rfl (by omega)) rfl rfl ?_
          first | refine DR.go0 rfl (G.add rfl rfl (by omega)) rfl rfl ?_ | refine DR.go0 rfl (GStep.binI rfl rfl rfl) rfl rfl ?_
          first | refine DR.go0 rfl (G.rem rfl rfl (by omega) (by omega)) rfl rfl ?_ | refine DR.go0 rfl (GStep.rem rfl rfl (by omega)) rfl rfl ?_
          refine DR.go0 rfl (G.tr (GStep.binI rfl rfl rfl) (by simp [-List.getD_eq_getElem?_getD, hx])) rfl rfl ?_
          refine DR.go0 rfl (GStep.move rfl) rfl rfl ?_
          first | refine DR.skip rfl rfl rfl ?_ | refine DR.go0 rfl (GStep.move rfl) rfl rfl ?_
          first | refine DR.skip rfl rfl rfl ?_ | refine DR.go0 rfl (G.ia2 (i := 0) rfl rfl rfl rfl rfl rfl rfl (by omega)) rfl rfl ?_
          first | refine DR.skip rfl rfl rfl ?_ | refine DR.go0 rfl (G.fa rfl rfl rfl (by decide)) rfl rfl ?_
          first | refine DR.skip rfl rfl rfl ?_ | refine DR.go0 rfl (G.lf1r rfl rfl rfl (by omega)) rfl rfl ?_ | refine DR.go0 rfl (G.lf1w rfl rfl rfl (by omega)) rfl rfl ?_
          first | refine DR.skip rfl rfl rfl ?_ | refine DR.go0 rfl (GStep.move rfl) rfl rfl ?_
          first | refine DR.skip rfl rfl rfl ?_ | refine DR.go0 rfl (G.ia2 (i := 1) rfl rfl rfl rfl rfl rfl rfl (by omega)) rfl rfl ?_
          first | refine DR.skip rfl rfl rfl ?_ | refine DR.go0 rfl (G.fa rfl rfl rfl (by decide)) rfl rfl ?_
          first | refine DR.skip rfl rfl rfl ?_ | refine DR.go0 rfl (G.lf1r rfl rfl rfl (by omega)) rfl rfl ?_ | refine DR.go0 rfl (G.lf1w rfl rfl rfl (by omega)) rfl rfl ?_
          first | refine DR.skip rfl rfl rfl ?_ | refine DR.go0 rfl (G.add rfl rfl (by omega)) rfl rfl ?_ | refine DR.go0 rfl (GStep.binI rfl rfl rfl) rfl rfl ?_
          first | refine DR.skip rfl rfl rfl ?_ | refine DR.go0 rfl (G.rem rfl rfl (by omega) (by omega)) rfl rfl ?_ | refine DR.go0 rfl (GStep.rem rfl rfl (by omega)) rfl rfl ?_
          first | refine DR.skip rfl rfl rfl ?_ | refine DR.go0 rfl (G.fl (GStep.binI rfl rfl rfl) (by simp [-List.getD_eq_getElem?_getD]; omega)) rfl rfl ?_
          first | refine DR.go0 rfl (GStep.pickT rfl rfl) rfl rfl ?_ | refine DR.go0 rfl (GStep.pickF rfl rfl) rfl rfl ?_
          refine DR.go0 rfl (GStep.assign rfl) rfl rfl ?_
          refine DR.nil ?_
          refine DL.nil ?_
          refine DW.sub (T' := [(3, _), (4, _), (8, _), (9, _)]) (Sub.cons rfl (Sub.cons rfl (Sub.cons rfl (Sub.cons rfl Sub.nil)))) (Sub.refl _) ?_
          refine DW.seq ?_
          refine DW.region ?_
          refine DL.go0 tauOK hE rfl (GStep.move rfl) rfl rfl ?_
          refine DL.go0 tauOK hE rfl (G.lb2 rfl rfl rfl) rfl rfl ?_
          refine DL.go1 tauOK hE rfl (G.call (v := .tup [.s _ _, .v _]) (news := [.row _ _ _]) rfl (All2.cons (ArgOf.row rfl rfl (by simp [flat_len])) (All2.cons (ArgOf.v rfl) All2.nil)) (gAddK_flat) rfl rfl) rfl rfl rfl ?_
          refine DL.go0 tauOK hE rfl (GStep.move rfl) rfl rfl ?_
          refine DL.go0 tauOK hE rfl (GStep.extr rfl rfl) rfl rfl ?_
          refine DL.go0 tauOK hE rfl (GStep.extr rfl rfl) rfl rfl ?_
          refine DL.go0 tauOK hE rfl (GStep.assign rfl) rfl rfl ?_
          refine DL.go0 tauOK hE rfl (GStep.assign rfl) rfl rfl ?_
          refine DL.nil ?_
          refine DW.sub (T' := [(4, _), (9, _), (10, _), (11, _)]) (Sub.cons rfl (Sub.cons rfl (Sub.cons rfl (Sub.cons rfl Sub.nil)))) (Sub.refl _) ?_
          refine DW.seq ?_
          refine DW.region ?_
          refine DL.go0 tauOK hE rfl (GStep.move rfl) rfl rfl ?_
          refine DL.go1 tauOK hE rfl (G.call (v := .tup [.s _ _, .v _]) (news := [.row _ _ _]) rfl (All2.cons (ArgOf.row rfl rfl (by simp [flat_len])) All2.nil) (gLean_flat) rfl rfl) rfl rfl rfl ?_
          refine DL.go0 tauOK hE rfl (GStep.move rfl) rfl rfl ?_
          refine DL.go0 tauOK hE rfl (GStep.extr rfl rfl) rfl rfl ?_
          refine DL.go0 tauOK hE rfl (GStep.extr rfl rfl) rfl rfl ?_
          refine DL.go0 tauOK hE rfl (GStep.assign rfl) rfl rfl ?_
          refine DL.go0 tauOK hE rfl (GStep.assign rfl) rfl rfl ?_
          refine DL.nil ?_
          refine DW.sub (T' := [(4, _), (9, _), (11, _), (12, _), (13, _)]) (Sub.cons rfl (Sub.cons rfl (Sub.cons rfl (Sub.cons rfl (Sub.cons rfl Sub.nil))))) (Sub.refl _) ?_
          refine DW.seq ?_
          refine DW.region ?_
          refine DL.go0 tauOK hE rfl (GStep.move rfl) rfl rfl ?_
          refine DL.go0 tauOK hE rfl (GStep.not rfl) rfl rfl ?_
          refine DL.go0 tauOK hE rfl (GStep.move rfl) rfl rfl ?_
          first | refine DL.skip rfl rfl rfl ?_ | refine DL.go0 tauOK hE rfl (GStep.move rfl) rfl rfl ?_
          first | refine DL.skip rfl rfl rfl ?_ | refine DL.go0 tauOK hE rfl (GStep.not rfl) rfl rfl ?_
          first | refine DL.go0 tauOK hE rfl (GStep.pickT rfl rfl) rfl rfl ?_ | refine DL.go0 tauOK hE rfl (GStep.pickF rfl rfl) rfl rfl ?_
          refine DL.go0 tauOK hE rfl (GStep.move rfl) rfl rfl ?_
          first | refine DL.skip rfl rfl rfl ?_ | refine DL.go0 tauOK hE rfl (GStep.move rfl) rfl rfl ?_
          first | refine DL.skip rfl rfl rfl ?_ | refine DL.go0 tauOK hE rfl (GStep.move rfl) rfl rfl ?_
          first | refine DL.skip rfl rfl rfl ?_ | refine DL.go0 tauOK hE rfl (GStep.move rfl) rfl rfl ?_
          first | refine DL.skip rfl rfl rfl ?_ | refine DL.go0 tauOK hE rfl (GStep.move rfl) rfl rfl ?_
          first | refine DL.skip rfl rfl rfl ?_ | refine DL.go0 tauOK hE rfl (G.call (v := .val _) (news := []) rfl (All2.cons (ArgOf.row rfl rfl (by simp [flat_len])) (All2.cons (ArgOf.row rfl rfl (by simp [flat_len])) All2.nil)) (rfl) rfl rfl) rfl rfl ?_
          first | refine DL.skip rfl rfl rfl ?_ | refine DL.go0 tauOK hE rfl (GStep.pickT rfl rfl) rfl rfl ?_ | refine DL.go0 tauOK hE rfl (GStep.pickF rfl rfl) rfl rfl ?_
          first | refine DL.go0 tauOK hE rfl (GStep.pickT rfl rfl) rfl rfl ?_ | refine DL.go0 tauOK hE rfl (GStep.pickF rfl rfl) rfl rfl ?_
          refine DL.go0 tauOK hE rfl (GStep.assign rfl) rfl rfl ?_
          refine DL.nil ?_
          refine DW.sub (T' := [(2, _)]) (Sub.cons rfl Sub.nil) (Sub.refl _) ?_
          refine DW.ret ?_
          exact RetD.vb rfl (by first | rfl | simp)
      · skip
        refine DW.skip ?_
        refine DW.seq ?_
        refine DW.draw tauOK hE mixed 22 (by kernel_rfl) ?_
        refine DR.go0 rfl (GStep.move rfl) rfl rfl ?_
        refine DR.go0 rfl (G.ia2 (i := 0) rfl rfl rfl rfl rfl rfl rfl (by omega)) rfl rfl ?_
        refine DR.go0 rfl (G.fa rfl rfl rfl (by decide)) rfl rfl ?_
        first | refine DR.go0 rfl (G.lf0r rfl rfl rfl (by omega)) rfl rfl ?_ | refine DR.go0 rfl (G.lf0w rfl rfl rfl (by omega)) rfl rfl ?_
        refine DR.go0 rfl (GStep.move rfl) rfl rfl ?_
        refine DR.go0 rfl (G.ia2 (i := 1) rfl rfl rfl rfl rfl rfl rfl (by omega)) rfl rfl ?_
        refine DR.go0 rfl (G.fa rfl rfl rfl (by decide)) rfl rfl ?_
        first | refine DR.go0 rfl (G.lf0r rfl rfl rfl (by omega)) rfl rfl ?_ | refine DR.go0 rfl (G.lf0w rfl rfl rfl (by omega)) rfl rfl ?_
        first | refine DR.go0 rfl (G.add rfl rfl (by omega)) rfl rfl ?_ | refine DR.go0 rfl (GStep.binI rfl rfl rfl) rfl rfl ?_
        first | refine DR.go0 rfl (G.quo rfl rfl (by omega) (by omega) (by omega)) rfl rfl ?_ | refine DR.go0 rfl (GStep.quo rfl rfl (by omega)) rfl rfl ?_
        refine DR.go0 rfl (GStep.move rfl) rfl rfl ?_
        refine DR.go0 rfl (G.ia2 (i := 0) rfl rfl rfl rfl rfl rfl rfl (by omega)) rfl rfl ?_
        refine DR.go0 rfl (G.fa rfl rfl rfl (by decide)) rfl rfl ?_
        first | refine DR.go0 rfl (G.lf1r rfl rfl rfl (by omega)) rfl rfl ?_ | refine DR.go0 rfl (G.lf1w rfl rfl rfl (by omega)) rfl rfl ?_
        refine DR.go0 rfl (GStep.move rfl) rfl rfl ?_
        refine DR.go0 rfl (G.ia2 (i := 1) rfl rfl rfl rfl rfl rfl rfl (by omega)) rfl rfl ?_
        refine DR.go0 rfl (G.fa rfl rfl rfl (by decide)) rfl rfl ?_
        first | refine DR.go0 rfl (G.lf1r rfl rfl rfl (by omega)) rfl rfl ?_ | refine DR.go0 rfl (G.lf1w rfl rfl rfl (by omega)) rfl rfl ?_
        first | refine DR.go0 rfl (G.add rfl rfl (by omega)) rfl rfl ?_ | refine DR.go0 rfl (GStep.binI rfl rfl rfl) rfl rfl ?_
        first | refine DR.go0 rfl (G.quo rfl rfl (by omega) (by omega) (by omega)) rfl rfl ?_ | refine DR.go0 rfl (GStep.quo rfl rfl (by omega)) rfl rfl ?_
        refine DR.go0 rfl (G.b01 rfl rfl rfl) rfl rfl ?_
        refine DR.go1 rfl (GStep.alloc2 rfl) rfl rfl rfl ?_
        refine DR.nil ?_
        refine DL.sb2 tauOK rfl rfl rfl rfl rfl rfl rfl ?_
        refine DL.nil ?_
        refine DW.sub (T' := [(3, _), (4, _), (8, _)]) (Sub.cons rfl (Sub.cons rfl (Sub.cons rfl Sub.nil))) (Sub.refl _) ?_
        refine DW.seq ?_
        refine DW.draw tauOK hE mixed 25 (by kernel_rfl) ?_
        refine DR.go0 rfl (GStep.move rfl) rfl rfl ?_
        refine DR.go0 rfl (G.ia2 (i := 0) rfl rfl rfl rfl rfl rfl rfl (by omega)) rfl rfl ?_
        refine DR.go0 rfl (G.fa rfl rfl rfl (by decide)) rfl rfl ?_
        first | refine DR.go0 rfl (G.lf0r rfl rfl rfl (by omega)) rfl rfl ?_ | refine DR.go0 rfl (G.lf0w rfl rfl rfl (by omega)) rfl rfl ?_
        refine DR.go0 rfl (GStep.move rfl) rfl rfl ?_
        refine DR.go0 rfl (G.ia2 (i := 1) rfl rfl rfl rfl rfl rfl rfl (by omega)) rfl rfl ?_
        refine DR.go0 rfl (G.fa rfl rfl rfl (by decide)) rfl rfl ?_
        first | refine DR.go0 rfl (G.lf0r rfl rfl rfl (by omega)) rfl rfl ?_ | refine DR.go0 rfl (G.lf0w rfl rfl rfl (by omega)) rfl rfl ?_
        first | refine DR.go0 rfl (G.add rfl rfl (by omega)) rfl rfl ?_ | refine DR.go0 rfl (GStep.binI rfl rfl rfl) rfl rfl ?_
        first | refine DR.go0 rfl (G.rem rfl rfl (by omega) (by omega)) rfl rfl ?_ | refine DR.go0 rfl (GStep.rem rfl rfl (by omega)) rfl rfl ?_
        refine DR.go0 rfl (G.fl (GStep.binI rfl rfl rfl) (by simp [-List.getD_eq_getElem?_getD]; omega)) rfl rfl ?_
        refine DR.go0 rfl (GStep.move rfl) rfl rfl ?_
        first | refine DR.skip rfl rfl rfl ?_ | refine DR.go0 rfl (GStep.move rfl) rfl rfl ?_
        first | refine DR.skip rfl rfl rfl ?_ | refine DR.go0 rfl (G.ia2 (i := 0) rfl rfl rfl rfl rfl rfl rfl (by omega)) rfl rfl ?_
        first | refine DR.skip rfl rfl rfl ?_ | refine DR.go0 rfl (G.fa rfl rfl rfl (by decide)) rfl rfl ?_
        first | refine DR.skip rfl rfl rfl ?_ | refine DR.go0 rfl (G.lf1r rfl rfl rfl (by omega)) rfl rfl ?_ | refine DR.go0 rfl (G.lf1w rfl rfl rfl (by omega)) rfl rfl ?_
        first | refine DR.skip rfl rfl rfl ?_ | refine DR.go0 rfl (GStep.move rfl) rfl rfl ?_
        first | refine DR.skip rfl rfl rfl ?_ | refine DR.go0 rfl (G.ia2 (i := 1) rfl rfl rfl rfl rfl rfl rfl (by omega)) rfl rfl ?_
        first | refine DR.skip rfl rfl rfl ?_ | refine DR.go0 rfl (G.fa rfl rfl rfl (by decide)) rfl rfl ?_
        first | refine DR.skip rfl rfl rfl ?_ | refine DR.go0 rfl (G.lf1r rfl rfl rfl (by omega)) rfl rfl ?_ | refine DR.go0 rfl (G.lf1w rfl rfl rfl (by omega)) rfl rfl ?_
        first | refine DR.skip rfl rfl rfl ?_ | refine DR.go0 rfl (G.add rfl rfl (by omega)) rfl rfl ?_ | refine DR.go0 rfl (GStep.binI rfl rfl rfl) rfl rfl ?_
        first | refine DR.skip rfl rfl rfl ?_ | refine DR.go0 rfl (G.rem rfl rfl (by omega) (by omega)) rfl rfl ?_ | refine DR.go0 rfl (GStep.rem rfl rfl (by omega)) rfl rfl ?_
        first | refine DR.skip rfl rfl rfl ?_ | refine DR.go0 rfl (GStep.binI rfl rfl rfl) rfl rfl ?_
        first | refine DR.go0 rfl (GStep.pickT rfl rfl) rfl rfl ?_ | refine DR.go0 rfl (GStep.pickF rfl rfl) rfl rfl ?_
        refine DR.go0 rfl (GStep.assign rfl) rfl rfl ?_
        refine DR.nil ?_
        refine DL.nil ?_
        refine DW.sub (T' := [(3, _), (4, _), (8, _), (9, _)]) (Sub.cons rfl (Sub.cons rfl (Sub.cons rfl (Sub.cons rfl Sub.nil)))) (Sub.refl _) ?_
        refine DW.seq ?_
        refine DW.region ?_
        refine DL.go0 tauOK hE rfl (GStep.move rfl) rfl rfl ?_
        refine DL.go0 tauOK hE rfl (G.lb2 rfl rfl rfl) rfl rfl ?_
        refine DL.go1 tauOK hE rfl (G.call (v := .tup [.s _ _, .v _]) (news := [.row _ _ _]) rfl (All2.cons (ArgOf.row rfl rfl (by simp [flat_len])) (All2.cons (ArgOf.v rfl) All2.nil)) (gAddK_flat) rfl rfl) rfl rfl rfl ?_
        refine DL.go0 tauOK hE rfl (GStep.move rfl) rfl rfl ?_
        refine DL.go0 tauOK hE rfl (GStep.extr rfl rfl) rfl rfl ?_
        refine DL.go0 tauOK hE rfl (GStep.extr rfl rfl) rfl rfl ?_
        refine DL.go0 tauOK hE rfl (GStep.assign rfl) rfl rfl ?_
        refine DL.go0 tauOK hE rfl (GStep.assign rfl) rfl rfl ?_
        refine DL.nil ?_
        refine DW.sub (T' := [(4, _), (9, _), (10, _), (11, _)]) (Sub.cons rfl (Sub.cons rfl (Sub.cons rfl (Sub.cons rfl Sub.nil)))) (Sub.refl _) ?_
        refine DW.seq ?_
        refine DW.region ?_
        refine DL.go0 tauOK hE rfl (GStep.move rfl) rfl rfl ?_
        refine DL.go1 tauOK hE rfl (G.call (v := .tup [.s _ _, .v _]) (news := [.row _ _ _]) rfl (All2.cons (ArgOf.row rfl rfl (by simp [flat_len])) All2.nil) (gLean_flat) rfl rfl) rfl rfl rfl ?_
        refine DL.go0 tauOK hE rfl (GStep.move rfl) rfl rfl ?_
        refine DL.go0 tauOK hE rfl (GStep.extr rfl rfl) rfl rfl ?_
        refine DL.go0 tauOK hE rfl (GStep.extr rfl rfl) rfl rfl ?_
        refine DL.go0 tauOK hE rfl (GStep.assign rfl) rfl rfl ?_
        refine DL.go0 tauOK hE rfl (GStep.assign rfl) rfl rfl ?_
        refine DL.nil ?_
        refine DW.sub (T' := [(4, _), (9, _), (11, _), (12, _), (13, _)]) (Sub.cons rfl (Sub.cons rfl (Sub.cons rfl (Sub.cons rfl (Sub.cons rfl Sub.nil))))) (Sub.refl _) ?_
        refine DW.seq ?_
        refine DW.region ?_
        refine DL.go0 tauOK hE rfl (GStep.move rfl) rfl rfl ?_
        refine DL.go0 tauOK hE rfl (GStep.not rfl) rfl rfl ?_
        refine DL.go0 tauOK hE rfl (GStep.move rfl) rfl rfl ?_
        first | refine DL.skip rfl rfl rfl ?_ | refine DL.go0 tauOK hE rfl (GStep.move rfl) rfl rfl ?_
        first | refine DL.skip rfl rfl rfl ?_ | refine DL.go0 tauOK hE rfl (GStep.not rfl) rfl rfl ?_
        first | refine DL.go0 tauOK hE rfl (GStep.pickT rfl rfl) rfl rfl ?_ | refine DL.go0 tauOK hE rfl (GStep.pickF rfl rfl) rfl rfl ?_
        refine DL.go0 tauOK hE rfl (GStep.move rfl) rfl rfl ?_
        first | refine DL.skip rfl rfl rfl ?_ | refine DL.go0 tauOK hE rfl (GStep.move rfl) rfl rfl ?_
        first | refine DL.skip rfl rfl rfl ?_ | refine DL.go0 tauOK hE rfl (GStep.move rfl) rfl rfl ?_
        first | refine DL.skip rfl rfl rfl ?_ | refine DL.go0 tauOK hE rfl (GStep.move rfl) rfl rfl ?_
        first | refine DL.skip rfl rfl rfl ?_ | refine DL.go0 tauOK hE rfl (GStep.move rfl) rfl rfl ?_
        first | refine DL.skip rfl rfl rfl ?_ | refine DL.go0 tauOK hE rfl (G.call (v := .val _) (news := []) rfl (All2.cons (ArgOf.row rfl rfl (by simp [flat_len])) (All2.cons (ArgOf.row rfl rfl (by simp [flat_len])) All2.nil)) (rfl) rfl rfl) rfl rfl ?_
        first | refine DL.skip rfl rfl rfl ?_ | refine DL.go0 tauOK hE rfl (GStep.pickT rfl rfl) rfl rfl ?_ | refine DL.go0 tauOK hE rfl (GStep.pickF rfl rfl) rfl rfl ?_
        first | refine DL.go0 tauOK hE rfl (GStep.pickT rfl rfl) rfl rfl ?_ | refine DL.go0 tauOK hE rfl (GStep.pickF rfl rfl) rfl rfl ?_
        refine DL.go0 tauOK hE rfl (GStep.assign rfl) rfl rfl ?_
        refine DL.nil ?_
        refine DW.sub (T' := [(2, _)]) (Sub.cons rfl Sub.nil) (Sub.refl _) ?_
        refine DW.ret ?_
        exact RetD.vb rfl (by first | rfl | simp)
end Go.Proofs.Ythloecijjcodjaa
