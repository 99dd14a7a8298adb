/-
  The draw of two curves and a number, walked by the plain machine.
-/
import Derived.Test.YtidcomcnieggaaaDrawS
import Derived.Test.YtidcomcnieggaaaPureN
namespace Go.Proofs.Ytidcomcnieggaaa
open Go.RowKit
set_option linter.unusedVariables false
set_option linter.unusedSimpArgs false
def ThenN (r : RD) : Prop := ∃ (a b : List Kn) (x : Int), r = .tup [.row 25 2 a.length (flat a), .row 25 2 b.length (flat b), .v (.int .i64 x)] ∧ 1 ≤ a.length ∧ a.length ≤ 9 ∧ Bd2 31000 a ∧ 1 ≤ b.length ∧ b.length ≤ 9 ∧ Bd2 40000 b ∧ (-1 ≤ x ∧ x ≤ 50000)
theorem thenN {a b : List Kn} {x : Int} {n m : Nat} (h1 : a.length = n) (h2 : b.length = m) (e1 : 1 ≤ n) (e2 : n ≤ 9) (ba : Bd2 31000 a) (f1 : 1 ≤ m) (f2 : m ≤ 9) (bb : Bd2 40000 b) (hx : -1 ≤ x ∧ x ≤ 50000) : ThenN (.tup [.row 25 2 n (flat a), .row 25 2 m (flat b), .v (.int .i64 x)]) := by
  subst h1 h2
  exact ⟨a, b, x, rfl, e1, e2, ba, f1, f2, bb, hx⟩
theorem DrawCurveThen_dr : DRelF Try.prog 33 (gDraw ThenN) := by
  have hE : EnvOK Try.prog [] := EnvOK.nil
  refine DRelF.of tauOK (fn := Try.f33) Try.func33 rfl (by kernel_rfl) rfl rfl ?_
  intro C ds R hg hl
  obtain ⟨rfl, n, bs, rfl, hb⟩ := gDraw_iff hg
  refine ⟨by simp, ?_⟩
  obtain ⟨hn, hm, _⟩ := hl
  obtain rfl : n = bs.length := by omega
  clear hn
  refine DW.seq ?_
  refine DW.region ?_
  refine DL.go0 tauOK hE rfl (GStep.assign rfl) rfl rfl ?_
  refine DL.go0 tauOK hE rfl (GStep.assign rfl) rfl rfl ?_
  refine DL.go0 tauOK hE rfl (GStep.assign rfl) rfl rfl ?_
  refine DL.nil ?_
  refine DW.sub (T' := [(0, _)]) (Sub.cons rfl Sub.nil) (Sub.refl _) ?_
  refine DW.seq ?_
  refine DW.region ?_
  refine DL.go0 tauOK hE rfl (GStep.move rfl) rfl rfl ?_
  refine DL.open l6Open_d rfl rfl rfl rfl rfl rfl rfl rfl rfl hb ?_
  intro gr A
  refine DL.go0 tauOK hE rfl (GStep.assign rfl) rfl rfl ?_
  refine DL.nil ?_
  refine DW.sub (T' := [(5, _)]) (Sub.cons rfl Sub.nil) (Sub.refl _) ?_
  refine DW.seq ?_
  refine DW.region ?_
  refine DL.go0 tauOK hE rfl (GStep.move rfl) rfl rfl ?_
  refine DL.rd l91On_dr rfl rfl rfl rfl rfl rfl rfl (by omega) ?_
  rintro r q ⟨a, x, rfl, e1, e2, ba, x0, x1⟩ hq
  refine ⟨by simp [resN, rws], ?_⟩
  show DL _ _ _ _ _ _ ((13, .tup [.s 13 _, .v _]) :: _) ((13, .row _ _ _) :: _)
  refine DL.go0 tauOK hE rfl (GStep.move rfl) rfl rfl ?_
  refine DL.go0 tauOK hE rfl (GStep.extr rfl rfl) rfl rfl ?_
  refine DL.go0 tauOK hE rfl (GStep.extr rfl rfl) rfl rfl ?_
  refine DL.go0 tauOK hE rfl (GStep.assign rfl) rfl rfl ?_
  refine DL.go0 tauOK hE rfl (GStep.assign rfl) rfl rfl ?_
  refine DL.nil ?_
  refine DW.sub (T' := [(5, _), (6, _), (7, _)]) (Sub.cons rfl (Sub.cons rfl (Sub.cons rfl Sub.nil))) (Sub.refl _) ?_
  refine DW.seq ?_
  refine DW.region ?_
  refine DL.go0 tauOK hE rfl (GStep.move rfl) rfl rfl ?_
  refine DL.rd l91Curve_dr rfl rfl rfl rfl rfl rfl rfl (by omega) ?_
  rintro r q2 ⟨b, rfl, f1, f2, bb⟩ hq2
  refine ⟨by simp [resN, rws], ?_⟩
  show DL _ _ _ _ _ _ ((17, .sl 17 0 _) :: _) ((17, .row _ _ _) :: _)
  refine DL.go0 tauOK hE rfl (GStep.assign rfl) rfl rfl ?_
  refine DL.nil ?_
  refine DW.sub (T' := [(5, _), (6, _), (7, _), (8, _)]) (Sub.cons rfl (Sub.cons rfl (Sub.cons rfl (Sub.cons rfl Sub.nil)))) (Sub.refl _) ?_
  refine DW.seq ?_
  refine DW.seq ?_
  refine DW.region ?_
  refine DL.go0 tauOK hE rfl (GStep.move rfl) rfl rfl ?_
  refine DL.pickE tauOK pick_d rfl rfl rfl rfl rfl rfl rfl (by omega) (by omega) ?_
  intro z z_e z_0 z_1
  refine DL.go0 tauOK hE rfl (GStep.binI rfl rfl rfl) rfl rfl ?_
  refine DL.nil ?_
  refine DW.sub (T' := [(6, _), (7, _), (8, _), (20, _)]) (Sub.cons rfl (Sub.cons rfl (Sub.cons rfl (Sub.cons rfl Sub.nil)))) (Sub.refl _) ?_
  refine DW.cond rfl (fun h1 => ?_) (fun h1 => ?_)
  · skip
    have b0 := bb.at (by omega) 0
    have bb2 : Bd2 31000 (b.set 0 (0, (b.getD 0 (0, 0)).2)) := bb.set (by omega) (by omega) 0
    have b1 := bb2.at (by omega) (b.length - 1)
    have hls : (b.set 0 (0, (b.getD 0 (0, 0)).2)).length = b.length := by simp
    refine DW.seq ?_
    refine DW.region ?_
    refine DL.go0 tauOK hE rfl (GStep.move rfl) rfl rfl ?_
    refine DL.go0 tauOK hE rfl (G.ia2 (i := 0) rfl rfl rfl rfl rfl rfl rfl (by omega)) rfl rfl ?_
    refine DL.go0 tauOK hE rfl (G.fa rfl rfl rfl (by decide)) rfl rfl ?_
    refine DL.sf0 tauOK rfl rfl rfl rfl rfl rfl rfl (by omega) ?_
    refine DL.nil ?_
    refine DW.sub (T' := [(6, _), (7, _), (8, _)]) (Sub.cons rfl (Sub.cons rfl (Sub.cons rfl Sub.nil))) (Sub.refl _) ?_
    refine DW.region ?_
    refine DL.go0 tauOK hE rfl (GStep.move rfl) rfl rfl ?_
    refine DL.go0 tauOK hE rfl (GStep.move rfl) rfl rfl ?_
    first | refine DL.go0 tauOK hE rfl (GStep.len rfl rfl rfl) rfl rfl ?_ | refine DL.go0 tauOK hE rfl (GStep.lenNil rfl rfl) rfl rfl ?_
    first | refine DL.go0 tauOK hE rfl (G.sub rfl rfl (by omega)) rfl rfl ?_ | refine DL.go0 tauOK hE rfl (GStep.binI rfl rfl rfl) rfl rfl ?_
    refine DL.go0 tauOK hE rfl (GStep.move rfl) rfl rfl ?_
    refine DL.go0 tauOK hE rfl (GStep.move rfl) rfl rfl ?_
    first | refine DL.go0 tauOK hE rfl (GStep.len rfl rfl rfl) rfl rfl ?_ | refine DL.go0 tauOK hE rfl (GStep.lenNil rfl rfl) rfl rfl ?_
    first | refine DL.go0 tauOK hE rfl (G.sub rfl rfl (by omega)) rfl rfl ?_ | refine DL.go0 tauOK hE rfl (GStep.binI rfl rfl rfl) rfl rfl ?_
    refine DL.go0 tauOK hE rfl (G.ia2 (i := b.length - 1) rfl rfl rfl rfl rfl rfl (by omega) (by omega)) rfl rfl ?_
    refine DL.go0 tauOK hE rfl (G.fa rfl rfl rfl (by decide)) rfl rfl ?_
    first | refine DL.go0 tauOK hE rfl (G.lf0r rfl rfl rfl (by omega)) rfl rfl ?_ | refine DL.go0 tauOK hE rfl (G.lf0w rfl rfl rfl (by omega)) rfl rfl ?_
    first | refine DL.go0 tauOK hE rfl (G.add rfl rfl (by omega)) rfl rfl ?_ | refine DL.go0 tauOK hE rfl (GStep.binI rfl rfl rfl) rfl rfl ?_
    refine DL.go0 tauOK hE rfl (G.ia2 (i := b.length - 1) rfl rfl rfl rfl rfl rfl (by omega) (by omega)) rfl rfl ?_
    refine DL.go0 tauOK hE rfl (G.fa rfl rfl rfl (by decide)) rfl rfl ?_
    refine DL.sf0 tauOK rfl rfl rfl rfl rfl rfl rfl (by omega) ?_
    refine DL.nil ?_
    refine DW.sub (T' := [(6, _), (7, _), (8, _)]) (Sub.cons rfl (Sub.cons rfl (Sub.cons rfl Sub.nil))) (Sub.refl _) ?_
    refine DW.seq ?_
    refine DW.region ?_
    refine DL.go0 tauOK hE rfl (GStep.move rfl) rfl rfl ?_
    refine DL.go0 tauOK hE rfl (GStep.move rfl) rfl rfl ?_
    refine DL.go0 tauOK hE rfl (GStep.move rfl) rfl rfl ?_
    refine DL.go0 tauOK hE rfl (GStep.assign rfl) rfl rfl ?_
    refine DL.go0 tauOK hE rfl (GStep.assign rfl) rfl rfl ?_
    refine DL.go0 tauOK hE rfl (GStep.assign rfl) rfl rfl ?_
    refine DL.nil ?_
    refine DW.sub (T' := [(2, _), (3, _), (4, _)]) (Sub.cons rfl (Sub.cons rfl (Sub.cons rfl Sub.nil))) (Sub.refl _) ?_
    refine DW.ret ?_
    exact ⟨_, thenN rfl (by simp) e1 e2 ba f1 f2 ((bb2.mono (by omega)).set (by omega) (by omega) _) ⟨x0, x1⟩, RetD.ssv rfl rfl (by rw [flat_len]) (by omega) rfl rfl (by simp [flat_len]) (by omega) (by decide) rfl rfl⟩
  · skip
    refine DW.skip ?_
    refine DW.seq ?_
    refine DW.region ?_
    refine DL.go0 tauOK hE rfl (GStep.move rfl) rfl rfl ?_
    refine DL.go0 tauOK hE rfl (GStep.move rfl) rfl rfl ?_
    refine DL.go0 tauOK hE rfl (GStep.move rfl) rfl rfl ?_
    refine DL.go0 tauOK hE rfl (GStep.assign rfl) rfl rfl ?_
    refine DL.go0 tauOK hE rfl (GStep.assign rfl) rfl rfl ?_
    refine DL.go0 tauOK hE rfl (GStep.assign rfl) rfl rfl ?_
    refine DL.nil ?_
    refine DW.sub (T' := [(2, _), (3, _), (4, _)]) (Sub.cons rfl (Sub.cons rfl (Sub.cons rfl Sub.nil))) (Sub.refl _) ?_
    refine DW.ret ?_
    exact ⟨_, ⟨a, _, x, rfl, e1, e2, ba, f1, f2, bb.mono (by omega), x0, x1⟩, RetD.ssv rfl rfl (by rw [flat_len]) (by omega) rfl rfl (by rw [flat_len]) (by omega) (by decide) rfl rfl⟩
@[simp] theorem lineC_len : lineC.length = 2 := rfl
def gLine0 : List AD → Option RD
  | [] => some (.one (.row 25 2 2 (flat lineC)))
  | _ => none
theorem line_dl : DFun Try.prog 27 gLine0 := by
  have hE : EnvOK Try.prog [] := EnvOK.nil
  refine DFun.of tauOK (fn := Try.f27) Try.func27 rfl (by kernel_rfl) rfl rfl ?_
  intro C ds r hg hl
  unfold gLine0 at hg
  split at hg
  case h_2 => cases hg
  cases hg
  refine ⟨by simp, ?_⟩
  refine DW.seq ?_
  refine DW.region ?_
  refine DL.go0 tauOK hE rfl (GStep.assign rfl) rfl rfl ?_
  refine DL.nil ?_
  refine DW.sub (T' := []) (Sub.nil) (Sub.refl _) ?_
  refine DW.seq ?_
  refine DW.region ?_
  refine DL.go0 tauOK hE rfl (G.b01 rfl rfl rfl) rfl rfl ?_
  refine DL.go0 tauOK hE rfl (G.b01 rfl rfl rfl) rfl rfl ?_
  refine DL.go1 tauOK hE rfl (G.bs2p rfl rfl rfl rfl) rfl rfl rfl ?_
  refine DL.go0 tauOK hE rfl (GStep.assign rfl) rfl rfl ?_
  refine DL.nil ?_
  refine DW.sub (T' := [(0, _)]) (Sub.cons rfl Sub.nil) (Sub.refl _) ?_
  refine DW.ret ?_
  exact RetD.s1 rfl rfl rfl (by omega)
end Go.Proofs.Ytidcomcnieggaaa
