/-
  The draws of cores that are joined and cut, walked by the plain machine.
-/
import Derived.Test.YtionljjdfgeggaaDrawC
import Derived.Test.YtionljjdfgeggaaCorX
namespace Go.Proofs.Ytionljjdfgeggaa
open Go.RowKit
set_option linter.unusedVariables false
set_option linter.unusedSimpArgs false
theorem core_N {c : List Pc} (h : coreB c = true) : CoreN (.one (.row 38 2 c.length (flat c))) := by
  obtain ⟨h1, h2⟩ := coreB_iff.1 h
  exact ⟨c, rfl, h2, fun p hp => by have := coreR_bd h1 p hp; omega⟩
theorem DrawCoreJoin_dr : DRelF Try.prog 20 (gDraw CoreN) := by
  have hE : EnvOK Try.prog [(26, gCut)] := EnvOK.cons coreCut_ds EnvOK.nil
  refine DRelF.of tauOK (fn := Try.f20) Try.func20 rfl (by kernel_rfl) rfl rfl ?_
  intro C ds R hg hl
  obtain ⟨rfl, n, bs, rfl, hb⟩ := gDraw_iff hg
  refine ⟨by simp, ?_⟩
  obtain ⟨hn, hm, _⟩ := hl
  obtain rfl : n = bs.length := by omega
  clear hn
  refine DW.seq ?_
  refine DW.region ?_
  refine DL.go0 tauOK hE rfl (GStep.assign rfl) rfl rfl ?_
  refine DL.nil ?_
  refine DW.sub (T' := [(0, _)]) (Sub.cons rfl Sub.nil) (Sub.refl _) ?_
  refine DW.seq ?_
  refine DW.region ?_
  refine DL.go0 tauOK hE rfl (GStep.move rfl) rfl rfl ?_
  refine DL.open l6Open_d rfl rfl rfl rfl rfl rfl rfl rfl rfl hb ?_
  intro gr A
  refine DL.go0 tauOK hE rfl (GStep.assign rfl) rfl rfl ?_
  refine DL.nil ?_
  refine DW.sub (T' := [(3, _)]) (Sub.cons rfl Sub.nil) (Sub.refl _) ?_
  refine DW.seq ?_
  refine DW.region ?_
  refine DL.go0 tauOK hE rfl (GStep.move rfl) rfl rfl ?_
  refine DL.rd l91Core_dr rfl rfl rfl rfl rfl rfl rfl (by omega) ?_
  rintro r q ⟨c, rfl, e1, bc⟩ hq
  refine ⟨by simp [resN, rws], ?_⟩
  show DL _ _ _ _ _ _ ((10, .sl 10 0 _) :: _) ((10, .row _ _ _) :: _)
  refine DL.go0 tauOK hE rfl (GStep.assign rfl) rfl rfl ?_
  refine DL.nil ?_
  refine DW.sub (T' := [(3, _), (4, _)]) (Sub.cons rfl (Sub.cons rfl Sub.nil)) (Sub.refl _) ?_
  refine DW.seq ?_
  refine DW.region ?_
  refine DL.go0 tauOK hE rfl (GStep.move rfl) rfl rfl ?_
  refine DL.go0 tauOK hE rfl (GStep.move rfl) rfl rfl ?_
  refine DL.pickE tauOK pick_d rfl rfl rfl rfl rfl rfl rfl (by omega) (by omega) ?_
  intro d d_e d_0 d_1
  refine DL.go1 tauOK hE rfl (G.call (v := .tup [.s _ _, .v _]) (news := [.row _ _ _]) rfl (All2.cons (ArgOf.row rfl rfl (by simp [flat_len])) (All2.cons (ArgOf.v rfl) All2.nil)) (gCut_flat) rfl rfl) rfl rfl rfl ?_
  refine DL.go0 tauOK hE rfl (GStep.move rfl) rfl rfl ?_
  refine DL.go0 tauOK hE rfl (GStep.extr rfl rfl) rfl rfl ?_
  refine DL.go0 tauOK hE rfl (GStep.extr rfl rfl) rfl rfl ?_
  refine DL.go0 tauOK hE rfl (GStep.assign rfl) rfl rfl ?_
  refine DL.go0 tauOK hE rfl (GStep.assign rfl) rfl rfl ?_
  refine DL.nil ?_
  refine DW.sub (T' := [(4, _), (5, _), (6, _)]) (Sub.cons rfl (Sub.cons rfl (Sub.cons rfl Sub.nil))) (Sub.refl _) ?_
  refine DW.seq ?_
  refine DW.seq ?_
  cases ho : cutO c d
  · skip
    refine DW.region ?_
    refine DL.go0 tauOK hE rfl (GStep.move rfl) rfl rfl ?_
    refine DL.nil ?_
    refine DW.sub (T' := [(4, _), (5, _), (18, _)]) (Sub.cons rfl (Sub.cons rfl (Sub.cons rfl Sub.nil))) (Sub.refl _) ?_
    refine DW.condF rfl ?_
    refine DW.skip ?_
    refine DW.seq ?_
    refine DW.region ?_
    refine DL.go0 tauOK hE rfl (GStep.move rfl) rfl rfl ?_
    refine DL.go0 tauOK hE rfl (GStep.assign rfl) rfl rfl ?_
    refine DL.nil ?_
    refine DW.sub (T' := [(2, _)]) (Sub.cons rfl Sub.nil) (Sub.refl _) ?_
    refine DW.ret ?_
    exact ⟨_, coreN rfl (by omega) bc, RetD.s1 rfl rfl (by rw [flat_len]) (by omega)⟩
  · skip
    refine DW.region ?_
    refine DL.go0 tauOK hE rfl (GStep.move rfl) rfl rfl ?_
    refine DL.nil ?_
    refine DW.sub (T' := [(4, _), (5, _), (18, _)]) (Sub.cons rfl (Sub.cons rfl (Sub.cons rfl Sub.nil))) (Sub.refl _) ?_
    refine DW.condT rfl ?_
    refine DW.seq ?_
    refine DW.region ?_
    refine DL.go0 tauOK hE rfl (GStep.move rfl) rfl rfl ?_
    refine DL.go0 tauOK hE rfl (GStep.assign rfl) rfl rfl ?_
    refine DL.nil ?_
    refine DW.sub (T' := [(2, _)]) (Sub.cons rfl Sub.nil) (Sub.refl _) ?_
    refine DW.ret ?_
    exact ⟨_, core_N (cut_core ho), RetD.s1 rfl rfl (by rw [flat_len]) (by omega)⟩
def CutN (m : Nat) (r : RD) : Prop := ∃ (c : List Pc) (x : Int), r = .tup [.row 38 2 c.length (flat c), .v (.int .i64 x)] ∧ c.length ≤ m ∧ Bd2 31000 c ∧ (-2 ≤ x ∧ x ≤ 70000)
theorem cutN {c : List Pc} {n m : Nat} {x : Int} (h1 : c.length = n) (h3 : n ≤ m) (h4 : Bd2 31000 c) (hx : -2 ≤ x ∧ x ≤ 70000) : CutN m (.tup [.row 38 2 n (flat c), .v (.int .i64 x)]) := by
  subst h1
  exact ⟨c, x, rfl, h3, h4, hx⟩
theorem l91Within_dr : DRd Try.prog 48 30 (CutN 6) := by
  have hE : EnvOK Try.prog [] := EnvOK.nil
  refine DRd.of tauOK (fn := Try.f48) Try.func48 rfl (by kernel_rfl) rfl rfl rfl ?_
  intro C gr A bs p hp
  refine DW.seq ?_
  refine DW.region ?_
  refine DL.go0 tauOK hE rfl (GStep.assign rfl) rfl rfl ?_
  refine DL.go0 tauOK hE rfl (GStep.assign rfl) rfl rfl ?_
  refine DL.nil ?_
  refine DW.sub (T' := [(0, _)]) (Sub.cons rfl Sub.nil) (Sub.refl _) ?_
  refine DW.seq ?_
  refine DW.region ?_
  refine DL.go0 tauOK hE rfl (GStep.move rfl) rfl rfl ?_
  refine DL.rd l91Core_dr rfl rfl rfl rfl rfl rfl rfl (by omega) ?_
  rintro r q ⟨c, rfl, e1, bc⟩ hq
  refine ⟨by simp [resN, rws], ?_⟩
  show DL _ _ _ _ _ _ ((7, .sl 7 0 _) :: _) ((7, .row _ _ _) :: _)
  refine DL.go0 tauOK hE rfl (GStep.assign rfl) rfl rfl ?_
  refine DL.nil ?_
  refine DW.sub (T' := [(0, _), (4, _)]) (Sub.cons rfl (Sub.cons rfl Sub.nil)) (Sub.refl _) ?_
  refine DW.seq ?_
  refine DW.seq ?_
  by_cases h0 : c.length = 0
  · skip
    refine DW.region ?_
    refine DL.go0 tauOK hE rfl (GStep.move rfl) rfl rfl ?_
    first | refine DL.go0 tauOK hE rfl (GStep.len rfl rfl rfl) rfl rfl ?_ | refine DL.go0 tauOK hE rfl (GStep.lenNil rfl rfl) rfl rfl ?_
    refine DL.go0 tauOK hE rfl (G.tr (GStep.binI rfl rfl rfl) (by rw [beq_iff_eq]; omega)) rfl rfl ?_
    refine DL.go0 tauOK hE rfl (GStep.move rfl) rfl rfl ?_
    first | refine DL.skip rfl rfl rfl ?_ | refine DL.go0 tauOK hE rfl (GStep.move rfl) rfl rfl ?_
    first | refine DL.skip rfl rfl rfl ?_ | (refine DL.pickE tauOK pick_d rfl rfl rfl rfl rfl rfl rfl (by omega) (by omega) ?_; intro w w_e w_0 w_1)
    first | refine DL.skip rfl rfl rfl ?_ | refine DL.go0 tauOK hE rfl (GStep.binI rfl rfl rfl) rfl rfl ?_
    first | refine DL.go0 tauOK hE rfl (GStep.pickT rfl rfl) rfl rfl ?_ | refine DL.go0 tauOK hE rfl (GStep.pickF rfl rfl) rfl rfl ?_
    refine DL.nil ?_
    refine DW.sub (T' := [(0, _), (4, _), (15, _)]) (Sub.cons rfl (Sub.cons rfl (Sub.cons rfl Sub.nil))) (Sub.refl _) ?_
    refine DW.condT rfl ?_
    refine DW.seq ?_
    refine DW.region ?_
    refine DL.go0 tauOK hE rfl (GStep.move rfl) rfl rfl ?_
    refine DL.go0 tauOK hE rfl (GStep.move rfl) rfl rfl ?_
    refine DL.pickE tauOK pick_d rfl rfl rfl rfl rfl rfl rfl (by omega) (by omega) ?_
    intro x x_e x_0 x_1
    refine DL.go0 tauOK hE rfl (GStep.move rfl) rfl rfl ?_
    refine DL.pickE tauOK pick_d rfl rfl rfl rfl rfl rfl rfl (by omega) (by omega) ?_
    intro y y_e y_0 y_1
    first | refine DL.go0 tauOK hE rfl (G.quo rfl rfl (by omega) (by omega) (by omega)) rfl rfl ?_ | refine DL.go0 tauOK hE rfl (GStep.quo rfl rfl (by omega)) rfl rfl ?_
    first | refine DL.go0 tauOK hE rfl (G.sub rfl rfl (by omega)) rfl rfl ?_ | refine DL.go0 tauOK hE rfl (GStep.binI rfl rfl rfl) rfl rfl ?_
    refine DL.go0 tauOK hE rfl (GStep.assign rfl) rfl rfl ?_
    refine DL.go0 tauOK hE rfl (GStep.assign rfl) rfl rfl ?_
    refine DL.nil ?_
    refine DW.sub (T' := [(2, _), (3, _)]) (Sub.cons rfl (Sub.cons rfl Sub.nil)) (Sub.refl _) ?_
    refine DW.ret ?_
    exact ⟨_, _, cutN rfl (by omega) bc (by omega), by omega, rfl, RetD.sv rfl rfl (by rw [flat_len]) (by omega) rfl rfl⟩
  · skip
    refine DW.region ?_
    refine DL.go0 tauOK hE rfl (GStep.move rfl) rfl rfl ?_
    first | refine DL.go0 tauOK hE rfl (GStep.len rfl rfl rfl) rfl rfl ?_ | refine DL.go0 tauOK hE rfl (GStep.lenNil rfl rfl) rfl rfl ?_
    refine DL.go0 tauOK hE rfl (G.fl (GStep.binI rfl rfl rfl) (by rw [beq_eq_false_iff_ne]; omega)) rfl rfl ?_
    refine DL.go0 tauOK hE rfl (GStep.move rfl) rfl rfl ?_
    first | refine DL.skip rfl rfl rfl ?_ | refine DL.go0 tauOK hE rfl (GStep.move rfl) rfl rfl ?_
    first | refine DL.skip rfl rfl rfl ?_ | (refine DL.pickE tauOK pick_d rfl rfl rfl rfl rfl rfl rfl (by omega) (by omega) ?_; intro w w_e w_0 w_1)
    first | refine DL.skip rfl rfl rfl ?_ | refine DL.go0 tauOK hE rfl (GStep.binI rfl rfl rfl) rfl rfl ?_
    first | refine DL.go0 tauOK hE rfl (GStep.pickT rfl rfl) rfl rfl ?_ | refine DL.go0 tauOK hE rfl (GStep.pickF rfl rfl) rfl rfl ?_
    refine DL.nil ?_
    refine DW.sub (T' := [(0, _), (4, _), (15, _)]) (Sub.cons rfl (Sub.cons rfl (Sub.cons rfl Sub.nil))) (Sub.refl _) ?_
    refine DW.cond rfl (fun h1 => ?_) (fun h1 => ?_)
    · skip
      refine DW.seq ?_
      refine DW.region ?_
      refine DL.go0 tauOK hE rfl (GStep.move rfl) rfl rfl ?_
      refine DL.go0 tauOK hE rfl (GStep.move rfl) rfl rfl ?_
      refine DL.pickE tauOK pick_d rfl rfl rfl rfl rfl rfl rfl (by omega) (by omega) ?_
      intro x x_e x_0 x_1
      refine DL.go0 tauOK hE rfl (GStep.move rfl) rfl rfl ?_
      refine DL.pickE tauOK pick_d rfl rfl rfl rfl rfl rfl rfl (by omega) (by omega) ?_
      intro y y_e y_0 y_1
      first | refine DL.go0 tauOK hE rfl (G.quo rfl rfl (by omega) (by omega) (by omega)) rfl rfl ?_ | refine DL.go0 tauOK hE rfl (GStep.quo rfl rfl (by omega)) rfl rfl ?_
      first | refine DL.go0 tauOK hE rfl (G.sub rfl rfl (by omega)) rfl rfl ?_ | refine DL.go0 tauOK hE rfl (GStep.binI rfl rfl rfl) rfl rfl ?_
      refine DL.go0 tauOK hE rfl (GStep.assign rfl) rfl rfl ?_
      refine DL.go0 tauOK hE rfl (GStep.assign rfl) rfl rfl ?_
      refine DL.nil ?_
      refine DW.sub (T' := [(2, _), (3, _)]) (Sub.cons rfl (Sub.cons rfl Sub.nil)) (Sub.refl _) ?_
      refine DW.ret ?_
      exact ⟨_, _, cutN rfl (by omega) bc (by omega), by omega, rfl, RetD.sv rfl rfl (by rw [flat_len]) (by omega) rfl rfl⟩
    · skip
      refine DW.skip ?_
      refine DW.seq ?_
      refine DW.region ?_
      refine DL.go0 tauOK hE rfl (GStep.move rfl) rfl rfl ?_
      refine DL.go0 tauOK hE rfl (GStep.move rfl) rfl rfl ?_
      refine DL.go0 tauOK hE rfl (GStep.move rfl) rfl rfl ?_
      first | refine DL.go0 tauOK hE rfl (GStep.len rfl rfl rfl) rfl rfl ?_ | refine DL.go0 tauOK hE rfl (GStep.lenNil rfl rfl) rfl rfl ?_
      refine DL.pickE tauOK pick_d rfl rfl rfl rfl rfl rfl rfl (by omega) (by omega) ?_
      intro i i_e i_0 i_1
      refine DL.go0 tauOK hE rfl (G.ia2 (i := i.toNat) rfl rfl rfl rfl rfl rfl (by omega) (by omega)) rfl rfl ?_
      first | refine DL.go0 tauOK hE rfl (G.le2r rfl rfl rfl (by omega)) rfl rfl ?_ | refine DL.go0 tauOK hE rfl (G.le2w rfl rfl rfl (by omega)) rfl rfl ?_
      refine DL.go1 tauOK hE rfl (GStep.alloc2 rfl) rfl rfl rfl ?_
      refine DL.sb2 tauOK rfl rfl rfl rfl rfl rfl rfl ?_
      refine DL.nil ?_
      refine DW.sub (T' := [(0, _), (4, _), (5, _)]) (Sub.cons rfl (Sub.cons rfl (Sub.cons rfl Sub.nil))) (Sub.refl _) ?_
      have bp := bc.at (by omega) i.toNat
      refine DW.seq ?_
      refine DW.drawM tauOK hE pick_d mixed 15 (by kernel_rfl) (by kernel_rfl) ?_
      refine DM.go0 rfl (GStep.move rfl) rfl rfl ?_
      refine DM.go0 rfl (G.fa rfl rfl rfl (by decide)) rfl rfl ?_
      refine DM.go0 rfl (G.lbf0 rfl rfl rfl) rfl rfl ?_
      refine DM.go0 rfl (GStep.move rfl) rfl rfl ?_
      refine DM.go0 rfl (G.fa rfl rfl rfl (by decide)) rfl rfl ?_
      refine DM.go0 rfl (G.lbf1 rfl rfl rfl) rfl rfl ?_
      refine DM.go0 rfl (G.fa rfl rfl rfl (by decide)) rfl rfl ?_
      refine DM.go0 rfl (G.lbf0 rfl rfl rfl) rfl rfl ?_
      first | refine DM.go0 rfl (G.sub rfl rfl (by omega)) rfl rfl ?_ | refine DM.go0 rfl (GStep.binI rfl rfl rfl) rfl rfl ?_
      first | refine DM.go0 rfl (G.add rfl rfl (by omega)) rfl rfl ?_ | refine DM.go0 rfl (GStep.binI rfl rfl rfl) rfl rfl ?_
      refine DM.go0 rfl (G.maxi rfl rfl) rfl rfl ?_
      refine DM.pickE rfl rfl rfl rfl rfl rfl rfl (by omega) (by omega) ?_
      intro z z_e z_0 z_1
      first | refine DM.go0 rfl (G.add rfl rfl (by omega)) rfl rfl ?_ | refine DM.go0 rfl (GStep.binI rfl rfl rfl) rfl rfl ?_
      refine DM.go0 rfl (GStep.assign rfl) rfl rfl ?_
      refine DM.go0 rfl (GStep.assign rfl) rfl rfl ?_
      refine DM.nil (by kernel_rfl) ?_
      refine DL.nil ?_
      refine DW.sub (T' := [(2, _), (3, _)]) (Sub.cons rfl (Sub.cons rfl Sub.nil)) (Sub.refl _) ?_
      refine DW.ret ?_
      exact ⟨_, _, cutN rfl (by omega) bc (by omega), by omega, rfl, RetD.sv rfl rfl (by rw [flat_len]) (by omega) rfl rfl⟩
theorem DrawCoreCut_dr : DRelF Try.prog 32 (gDraw (CutN 20)) := by
  have hE : EnvOK Try.prog [] := EnvOK.nil
  refine DRelF.of tauOK (fn := Try.f32) Try.func32 rfl (by kernel_rfl) rfl rfl ?_
  intro C ds R hg hl
  obtain ⟨rfl, n, bs, rfl, hb⟩ := gDraw_iff hg
  refine ⟨by simp, ?_⟩
  obtain ⟨hn, hm, _⟩ := hl
  obtain rfl : n = bs.length := by omega
  clear hn
  refine DW.seq ?_
  refine DW.region ?_
  refine DL.go0 tauOK hE rfl (GStep.assign rfl) rfl rfl ?_
  refine DL.go0 tauOK hE rfl (GStep.assign rfl) rfl rfl ?_
  refine DL.nil ?_
  refine DW.sub (T' := [(0, _)]) (Sub.cons rfl Sub.nil) (Sub.refl _) ?_
  refine DW.seq ?_
  refine DW.region ?_
  refine DL.go0 tauOK hE rfl (GStep.move rfl) rfl rfl ?_
  refine DL.open l6Open_d rfl rfl rfl rfl rfl rfl rfl rfl rfl hb ?_
  intro gr A
  refine DL.go0 tauOK hE rfl (GStep.assign rfl) rfl rfl ?_
  refine DL.nil ?_
  refine DW.sub (T' := [(4, _)]) (Sub.cons rfl Sub.nil) (Sub.refl _) ?_
  refine DW.seq ?_
  refine DW.region ?_
  refine DL.go0 tauOK hE rfl (GStep.move rfl) rfl rfl ?_
  refine DL.rd l91Within_dr rfl rfl rfl rfl rfl rfl rfl (by omega) ?_
  rintro r q ⟨c, x, rfl, e1, bc, x0, x1⟩ hq
  refine ⟨by simp [resN, rws], ?_⟩
  show DL _ _ _ _ _ _ ((12, .tup [.s 12 _, .v _]) :: _) ((12, .row _ _ _) :: _)
  refine DL.go0 tauOK hE rfl (GStep.move rfl) rfl rfl ?_
  refine DL.go0 tauOK hE rfl (GStep.extr rfl rfl) rfl rfl ?_
  refine DL.go0 tauOK hE rfl (GStep.extr rfl rfl) rfl rfl ?_
  refine DL.go0 tauOK hE rfl (GStep.assign rfl) rfl rfl ?_
  refine DL.go0 tauOK hE rfl (GStep.assign rfl) rfl rfl ?_
  refine DL.nil ?_
  refine DW.sub (T' := [(4, _), (5, _), (6, _)]) (Sub.cons rfl (Sub.cons rfl (Sub.cons rfl Sub.nil))) (Sub.refl _) ?_
  refine DW.seq ?_
  refine DW.seq ?_
  refine DW.region ?_
  refine DL.go0 tauOK hE rfl (GStep.move rfl) rfl rfl ?_
  refine DL.pickE tauOK pick_d rfl rfl rfl rfl rfl rfl rfl (by omega) (by omega) ?_
  intro z z_e z_0 z_1
  refine DL.go0 tauOK hE rfl (GStep.binI rfl rfl rfl) rfl rfl ?_
  refine DL.nil ?_
  refine DW.sub (T' := [(5, _), (6, _), (17, _)]) (Sub.cons rfl (Sub.cons rfl (Sub.cons rfl Sub.nil))) (Sub.refl _) ?_
  refine DW.cond rfl (fun h1 => ?_) (fun h1 => ?_)
  · skip
    refine DW.seq ?_
    refine DW.region ?_
    refine DL.go1 tauOK hE rfl (G.bs0p rfl rfl) rfl rfl rfl ?_
    refine DL.go0 tauOK hE rfl (GStep.assign rfl) rfl rfl ?_
    refine DL.nil ?_
    refine DW.sub (T' := [(5, _), (6, _)]) (Sub.cons rfl (Sub.cons rfl Sub.nil)) (Sub.refl _) ?_
    refine DW.seq ?_
    refine DW.region ?_
    refine DL.go0 tauOK hE rfl (GStep.assign rfl) rfl rfl ?_
    refine DL.nil ?_
    refine DW.sub (T' := [(5, _), (6, _), (7, _)]) (Sub.cons rfl (Sub.cons rfl (Sub.cons rfl Sub.nil))) (Sub.refl _) ?_
    refine DW.block ?_
    refine DW.loop (α := Nat × List Pc) (fun (k, o) => [(5, .sl 18 0 k), (6, .val (.int .i64 x)), (7, .val (.int .i64 (k : Nat)))]) (fun (k, o) => [(18, .row 38 2 (flat o))]) (fun (k, o) => k ≤ 20 ∧ o.length = k ∧ Bd2 31000 o) (fun (k, o) => 20 - k) (0, []) (⟨by omega, rfl, Bd2.nil⟩) (Sub.cons rfl (Sub.cons rfl (Sub.cons rfl Sub.nil))) (Sub.cons rfl Sub.nil) ?_
    rintro ⟨k, o⟩ ⟨hk, ho, bo⟩
    skip
    refine DW.seq ?_
    refine DW.seq ?_
    refine DW.region ?_
    refine DL.go0 tauOK hE rfl (GStep.move rfl) rfl rfl ?_
    refine DL.go0 tauOK hE rfl (GStep.binI rfl rfl rfl) rfl rfl ?_
    refine DL.nil ?_
    refine DW.sub (T' := [(5, _), (6, _), (7, _), (20, _)]) (Sub.cons rfl (Sub.cons rfl (Sub.cons rfl (Sub.cons rfl Sub.nil)))) (Sub.refl _) ?_
    refine DW.cond rfl (fun hlt => ?_) (fun hlt => ?_)
    · skip
      have hlt : k < 20 := by simp at hlt; omega
      refine DW.skip ?_
      refine DW.seq ?_
      refine DW.block ?_
      refine DW.region ?_
      refine DL.go0 tauOK hE rfl (GStep.move rfl) rfl rfl ?_
      refine DL.go0 tauOK hE rfl (GStep.move rfl) rfl rfl ?_
      refine DL.go0 tauOK hE rfl (G.mul rfl rfl (by omega)) rfl rfl ?_
      refine DL.go0 tauOK hE rfl (GStep.move rfl) rfl rfl ?_
      refine DL.go0 tauOK hE rfl (G.mul rfl rfl (by omega)) rfl rfl ?_
      first | refine DL.go0 tauOK hE rfl (G.add rfl rfl (by omega)) rfl rfl ?_ | refine DL.go0 tauOK hE rfl (GStep.binI rfl rfl rfl) rfl rfl ?_
      refine DL.go0 tauOK hE rfl (G.b01 rfl rfl rfl) rfl rfl ?_
      refine DL.go1 tauOK hE rfl (G.bs1p rfl rfl rfl) rfl rfl rfl ?_
      refine DL.app2 tauOK [(6, _), (7, _)] rfl rfl rfl rfl rfl rfl rfl rfl (ho) rfl rfl rfl (by omega) (Sub.cons rfl (Sub.cons rfl Sub.nil)) rfl ?_
      refine DL.go0 tauOK hE rfl (GStep.assign rfl) rfl rfl ?_
      refine DL.nil ?_
      refine DW.sub (T' := [(5, _), (6, _), (7, _)]) (Sub.cons rfl (Sub.cons rfl (Sub.cons rfl Sub.nil))) (Sub.refl _) ?_
      refine DW.region ?_
      refine DL.go0 tauOK hE rfl (GStep.move rfl) rfl rfl ?_
      first | refine DL.go0 tauOK hE rfl (G.add rfl rfl (by omega)) rfl rfl ?_ | refine DL.go0 tauOK hE rfl (GStep.binI rfl rfl rfl) rfl rfl ?_
      refine DL.go0 tauOK hE rfl (GStep.assign rfl) rfl rfl ?_
      refine DL.nil ?_
      refine ⟨(k + 1, o ++ [(10 * (k : Int), 10 * (k : Int) + 10)]), ⟨by omega, by simp [ho], bo.snoc (by omega) (by omega)⟩, by first | omega | (dsimp only; omega), ?_, ?_⟩
      · exact Sub.cons rfl (Sub.cons rfl (Sub.cons rfl Sub.nil))
      · exact Sub.cons rfl Sub.nil
    · skip
      have hlt : k = 20 := by simp at hlt; omega
      refine DW.exit ?_
      refine DW.seq ?_
      refine DW.region ?_
      refine DL.go0 tauOK hE rfl (GStep.move rfl) rfl rfl ?_
      refine DL.go0 tauOK hE rfl (GStep.move rfl) rfl rfl ?_
      refine DL.go0 tauOK hE rfl (GStep.assign rfl) rfl rfl ?_
      refine DL.go0 tauOK hE rfl (GStep.assign rfl) rfl rfl ?_
      refine DL.nil ?_
      refine DW.sub (T' := [(2, _), (3, _)]) (Sub.cons rfl (Sub.cons rfl Sub.nil)) (Sub.refl _) ?_
      refine DW.ret ?_
      exact ⟨_, cutN ho (by omega) bo ⟨x0, x1⟩, RetD.sv rfl rfl (by rw [flat_len, ho]) (by omega) rfl rfl⟩
  · skip
    refine DW.skip ?_
    refine DW.seq ?_
    refine DW.region ?_
    refine DL.go0 tauOK hE rfl (GStep.move rfl) rfl rfl ?_
    refine DL.go0 tauOK hE rfl (GStep.move rfl) rfl rfl ?_
    refine DL.go0 tauOK hE rfl (GStep.assign rfl) rfl rfl ?_
    refine DL.go0 tauOK hE rfl (GStep.assign rfl) rfl rfl ?_
    refine DL.nil ?_
    refine DW.sub (T' := [(2, _), (3, _)]) (Sub.cons rfl (Sub.cons rfl Sub.nil)) (Sub.refl _) ?_
    refine DW.ret ?_
    exact ⟨_, cutN rfl (by omega) bc ⟨x0, x1⟩, RetD.sv rfl rfl (by rw [flat_len]) (by omega) rfl rfl⟩
end Go.Proofs.Ytionljjdfgeggaa
