/-
  The draws of a curve and a number, walked by the plain machine.
-/
import Derived.Test.YtidcomcnieggaaaDrawK
namespace Go.Proofs.Ytidcomcnieggaaa
open Go.RowKit
set_option linter.unusedVariables false
set_option linter.unusedSimpArgs false
def OnN (b : Int) (r : RD) : Prop := ∃ (c : List Kn) (x : Int), r = .tup [.row 25 2 c.length (flat c), .v (.int .i64 x)] ∧ 1 ≤ c.length ∧ c.length ≤ 9 ∧ Bd2 b c ∧ (-1 ≤ x ∧ x ≤ 50000)
theorem lit2c (a b : Int) {k : Int} (h0 : 0 ≤ k) (h1 : k < 2) {lo hi : Int} (ha : lo ≤ a ∧ a ≤ hi) (hb : lo ≤ b ∧ b ≤ hi) : lo ≤ ([a, b] : List Int).getD k.toNat 0 ∧ ([a, b] : List Int).getD k.toNat 0 ≤ hi := by
  have : k = 0 ∨ k = 1 := by omega
  rcases this with rfl | rfl
  · exact ha
  · exact hb
theorem l91On_dr : DRd Try.prog 48 30 (OnN 31000) := by
  have hE : EnvOK Try.prog [] := EnvOK.nil
  refine DRd.of tauOK (fn := Try.f48) Try.func48 rfl (by kernel_rfl) rfl rfl rfl ?_
  intro C gr A bs p hp
  refine DW.seq ?_
  refine DW.region ?_
  refine DL.go0 tauOK hE rfl (GStep.assign rfl) rfl rfl ?_
  refine DL.go0 tauOK hE rfl (GStep.assign rfl) rfl rfl ?_
  refine DL.nil ?_
  refine DW.sub (T' := [(0, _)]) (Sub.cons rfl Sub.nil) (Sub.refl _) ?_
  refine DW.seq ?_
  refine DW.region ?_
  refine DL.go0 tauOK hE rfl (GStep.move rfl) rfl rfl ?_
  refine DL.rd l91Curve_dr rfl rfl rfl rfl rfl rfl rfl (by omega) ?_
  rintro r q ⟨c, rfl, e1, e2, bc⟩ hq
  refine ⟨by simp [resN, rws], ?_⟩
  show DL _ _ _ _ _ _ ((6, .sl 6 0 _) :: _) ((6, .row _ _ _) :: _)
  refine DL.go0 tauOK hE rfl (GStep.assign rfl) rfl rfl ?_
  refine DL.nil ?_
  refine DW.sub (T' := [(0, _), (4, _)]) (Sub.cons rfl (Sub.cons rfl Sub.nil)) (Sub.refl _) ?_
  refine DW.seq ?_
  refine DW.seq ?_
  refine DW.region ?_
  refine DL.go0 tauOK hE rfl (GStep.move rfl) rfl rfl ?_
  refine DL.pickE tauOK pick_d rfl rfl rfl rfl rfl rfl rfl (by omega) (by omega) ?_
  intro x x_e x_0 x_1
  refine DL.go0 tauOK hE rfl (GStep.binI rfl rfl rfl) rfl rfl ?_
  refine DL.nil ?_
  refine DW.sub (T' := [(0, _), (4, _), (9, _)]) (Sub.cons rfl (Sub.cons rfl (Sub.cons rfl Sub.nil))) (Sub.refl _) ?_
  refine DW.cond rfl (fun h1 => ?_) (fun h1 => ?_)
  · skip
    have b0 := bc.at (by omega) 0
    have b1 := bc.at (by omega) (c.length - 1)
    refine DW.seq ?_
    refine DW.drawM tauOK hE pick_d mixed 21 (by kernel_rfl) (by kernel_rfl) ?_
    refine DM.go0 rfl (GStep.move rfl) rfl rfl ?_
    refine DM.go0 rfl (GStep.move rfl) rfl rfl ?_
    refine DM.go0 rfl (G.ia2 (i := 0) rfl rfl rfl rfl rfl rfl rfl (by omega)) rfl rfl ?_
    refine DM.go0 rfl (G.fa rfl rfl rfl (by decide)) rfl rfl ?_
    first | refine DM.go0 rfl (G.lf0r rfl rfl rfl (by omega)) rfl rfl ?_ | refine DM.go0 rfl (G.lf0w rfl rfl rfl (by omega)) rfl rfl ?_
    first | refine DM.go0 rfl (G.sub rfl rfl (by omega)) rfl rfl ?_ | refine DM.go0 rfl (GStep.binI rfl rfl rfl) rfl rfl ?_
    refine DM.go0 rfl (GStep.move rfl) rfl rfl ?_
    refine DM.go0 rfl (GStep.move rfl) rfl rfl ?_
    first | refine DM.go0 rfl (GStep.len rfl rfl rfl) rfl rfl ?_ | refine DM.go0 rfl (GStep.lenNil rfl rfl) rfl rfl ?_
    first | refine DM.go0 rfl (G.sub rfl rfl (by omega)) rfl rfl ?_ | refine DM.go0 rfl (GStep.binI rfl rfl rfl) rfl rfl ?_
    refine DM.go0 rfl (G.ia2 (i := c.length - 1) rfl rfl rfl rfl rfl rfl (by omega) (by omega)) rfl rfl ?_
    refine DM.go0 rfl (G.fa rfl rfl rfl (by decide)) rfl rfl ?_
    first | refine DM.go0 rfl (G.lf0r rfl rfl rfl (by omega)) rfl rfl ?_ | refine DM.go0 rfl (G.lf0w rfl rfl rfl (by omega)) rfl rfl ?_
    first | refine DM.go0 rfl (G.add rfl rfl (by omega)) rfl rfl ?_ | refine DM.go0 rfl (GStep.binI rfl rfl rfl) rfl rfl ?_
    refine DM.go1 rfl (G.bs2i rfl rfl rfl rfl) rfl rfl rfl ?_
    refine DM.go0 rfl (GStep.move rfl) rfl rfl ?_
    refine DM.pickE rfl rfl rfl rfl rfl rfl rfl (by omega) (by omega) ?_
    intro z z_e z_0 z_1
    refine DM.go0 rfl (G.ia1 (i := z.toNat) rfl rfl rfl rfl rfl rfl (by omega) (by omega)) rfl rfl ?_
    first | refine DM.go0 rfl (G.le1r rfl rfl rfl (by simp; omega)) rfl rfl ?_ | refine DM.go0 rfl (G.le1w rfl rfl rfl (by simp; omega)) rfl rfl ?_
    refine DM.go0 rfl (GStep.assign rfl) rfl rfl ?_
    refine DM.go0 rfl (GStep.assign rfl) rfl rfl ?_
    refine DM.nil (by kernel_rfl) ?_
    refine DL.nil ?_
    refine DW.sub (T' := [(2, _), (3, _)]) (Sub.cons rfl (Sub.cons rfl Sub.nil)) (Sub.refl _) ?_
    refine DW.ret ?_
    have b2 := lit2c ((c.getD 0 (0, 0)).1 - 1) ((c.getD (c.length - 1) (0, 0)).1 + 1) z_0 (z_1 (by omega)) (lo := -1) (hi := 50000) (by omega) (by omega)
    exact ⟨_, _, ⟨c, _, rfl, e1, e2, bc, b2⟩, by omega, rfl, RetD.sv rfl rfl (by rw [flat_len]) (by omega) rfl rfl⟩
  · skip
    have b0 := bc.at (by omega) 0
    have b1 := bc.at (by omega) (c.length - 1)
    refine DW.skip ?_
    refine DW.seq ?_
    refine DW.drawM tauOK hE pick_d mixed 25 (by kernel_rfl) (by kernel_rfl) ?_
    refine DM.go0 rfl (GStep.move rfl) rfl rfl ?_
    refine DM.go0 rfl (GStep.move rfl) rfl rfl ?_
    refine DM.go0 rfl (G.ia2 (i := 0) rfl rfl rfl rfl rfl rfl rfl (by omega)) rfl rfl ?_
    refine DM.go0 rfl (G.fa rfl rfl rfl (by decide)) rfl rfl ?_
    first | refine DM.go0 rfl (G.lf0r rfl rfl rfl (by omega)) rfl rfl ?_ | refine DM.go0 rfl (G.lf0w rfl rfl rfl (by omega)) rfl rfl ?_
    refine DM.go0 rfl (GStep.move rfl) rfl rfl ?_
    refine DM.go0 rfl (GStep.move rfl) rfl rfl ?_
    refine DM.go0 rfl (GStep.move rfl) rfl rfl ?_
    first | refine DM.go0 rfl (GStep.len rfl rfl rfl) rfl rfl ?_ | refine DM.go0 rfl (GStep.lenNil rfl rfl) rfl rfl ?_
    first | refine DM.go0 rfl (G.sub rfl rfl (by omega)) rfl rfl ?_ | refine DM.go0 rfl (GStep.binI rfl rfl rfl) rfl rfl ?_
    refine DM.go0 rfl (G.ia2 (i := c.length - 1) rfl rfl rfl rfl rfl rfl (by omega) (by omega)) rfl rfl ?_
    refine DM.go0 rfl (G.fa rfl rfl rfl (by decide)) rfl rfl ?_
    first | refine DM.go0 rfl (G.lf0r rfl rfl rfl (by omega)) rfl rfl ?_ | refine DM.go0 rfl (G.lf0w rfl rfl rfl (by omega)) rfl rfl ?_
    refine DM.go0 rfl (GStep.move rfl) rfl rfl ?_
    refine DM.go0 rfl (G.ia2 (i := 0) rfl rfl rfl rfl rfl rfl rfl (by omega)) rfl rfl ?_
    refine DM.go0 rfl (G.fa rfl rfl rfl (by decide)) rfl rfl ?_
    first | refine DM.go0 rfl (G.lf0r rfl rfl rfl (by omega)) rfl rfl ?_ | refine DM.go0 rfl (G.lf0w rfl rfl rfl (by omega)) rfl rfl ?_
    first | refine DM.go0 rfl (G.sub rfl rfl (by omega)) rfl rfl ?_ | refine DM.go0 rfl (GStep.binI rfl rfl rfl) rfl rfl ?_
    first | refine DM.go0 rfl (G.add rfl rfl (by omega)) rfl rfl ?_ | refine DM.go0 rfl (GStep.binI rfl rfl rfl) rfl rfl ?_
    refine DM.go0 rfl (G.mini rfl rfl) rfl rfl ?_
    refine DM.go0 rfl (G.maxi rfl rfl) rfl rfl ?_
    refine DM.pickE rfl rfl rfl rfl rfl rfl rfl (by omega) (by omega) ?_
    intro z z_e z_0 z_1
    first | refine DM.go0 rfl (G.add rfl rfl (by omega)) rfl rfl ?_ | refine DM.go0 rfl (GStep.binI rfl rfl rfl) rfl rfl ?_
    refine DM.go0 rfl (GStep.assign rfl) rfl rfl ?_
    refine DM.go0 rfl (GStep.assign rfl) rfl rfl ?_
    refine DM.nil (by kernel_rfl) ?_
    refine DL.nil ?_
    refine DW.sub (T' := [(2, _), (3, _)]) (Sub.cons rfl (Sub.cons rfl Sub.nil)) (Sub.refl _) ?_
    refine DW.ret ?_
    exact ⟨_, _, ⟨c, _, rfl, e1, e2, bc, by omega, by omega⟩, by omega, rfl, RetD.sv rfl rfl (by rw [flat_len]) (by omega) rfl rfl⟩
theorem DrawCurveAt_dr : DRelF Try.prog 25 (gDraw (OnN 31000)) := by
  have hE : EnvOK Try.prog [] := EnvOK.nil
  refine DRelF.of tauOK (fn := Try.f25) Try.func25 rfl (by kernel_rfl) rfl rfl ?_
  intro C ds R hg hl
  obtain ⟨rfl, n, bs, rfl, hb⟩ := gDraw_iff hg
  refine ⟨by simp, ?_⟩
  obtain ⟨hn, hm, _⟩ := hl
  obtain rfl : n = bs.length := by omega
  clear hn
  refine DW.seq ?_
  refine DW.region ?_
  refine DL.go0 tauOK hE rfl (GStep.assign rfl) rfl rfl ?_
  refine DL.go0 tauOK hE rfl (GStep.assign rfl) rfl rfl ?_
  refine DL.nil ?_
  refine DW.sub (T' := [(0, _)]) (Sub.cons rfl Sub.nil) (Sub.refl _) ?_
  refine DW.seq ?_
  refine DW.region ?_
  refine DL.go0 tauOK hE rfl (GStep.move rfl) rfl rfl ?_
  refine DL.open l6Open_d rfl rfl rfl rfl rfl rfl rfl rfl rfl hb ?_
  intro gr A
  refine DL.rd l91On_dr rfl rfl rfl rfl rfl rfl rfl (by omega) ?_
  rintro r q ⟨c, x, rfl, e1, e2, bc, x0, x1⟩ hq
  refine ⟨by simp [resN, rws], ?_⟩
  show DL _ _ _ _ _ _ ((6, .tup [.s 6 _, .v _]) :: _) ((6, .row _ _ _) :: _)
  refine DL.go0 tauOK hE rfl (GStep.extr rfl rfl) rfl rfl ?_
  refine DL.go0 tauOK hE rfl (GStep.extr rfl rfl) rfl rfl ?_
  refine DL.go0 tauOK hE rfl (GStep.assign rfl) rfl rfl ?_
  refine DL.go0 tauOK hE rfl (GStep.assign rfl) rfl rfl ?_
  refine DL.nil ?_
  refine DW.sub (T' := [(2, _), (3, _)]) (Sub.cons rfl (Sub.cons rfl Sub.nil)) (Sub.refl _) ?_
  refine DW.ret ?_
  exact ⟨_, ⟨c, x, rfl, e1, e2, bc, x0, x1⟩, RetD.sv rfl rfl (by rw [flat_len]) (by omega) rfl rfl⟩
end Go.Proofs.Ytidcomcnieggaaa
