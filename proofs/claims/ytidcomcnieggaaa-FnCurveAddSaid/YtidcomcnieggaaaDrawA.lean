/-
  The draw of a curve and a knot, walked by the plain machine.
-/
import Derived.Test.YtidcomcnieggaaaDrawK
namespace Go.Proofs.Ytidcomcnieggaaa
open Go.RowKit
set_option linter.unusedVariables false
set_option linter.unusedSimpArgs false
theorem RetD.sc {τ : List (Nat × TK)} {T : DT} {H : DH} {t1 t2 id1 m1 sz1 : Nat} {ty e1 : TypeId} {c2 : RC} {l1 : List Int} (h1 : lk T t1 = some (.sl id1 0 m1)) (hg : lk H id1 = some (.row e1 sz1 l1)) (hl : l1.length = m1 * sz1) (hs : 0 < sz1) (h2 : RV τ T H (.cell t2 ty) c2) : RetD τ [.tmp t1, .cell t2 ty] (.tup [.row e1 sz1 m1 l1, c2]) T H :=
  ⟨by simp, by simp, ⟨RV.row h1 hg hl hs, h2, trivial⟩, by rw [List.flatMap_cons, List.flatMap_cons, rvIds_s h1]; simp [rvIds]⟩
def AddN (r : RD) : Prop := ∃ (c : List Kn) (a b : Int), r = .tup [.row 25 2 c.length (flat c), .v (.agg #[.int .i64 a, .int .i64 b])] ∧ 1 ≤ c.length ∧ c.length ≤ 9 ∧ Bd2 40000 c ∧ (0 ≤ a ∧ a ≤ 40000) ∧ (0 ≤ b ∧ b ≤ 40000)
theorem DrawCurveAdd_dr : DRelF Try.prog 12 (gDraw AddN) := by
  have hE : EnvOK Try.prog [] := EnvOK.nil
  refine DRelF.of tauOK (fn := Try.f12) Try.func12 rfl (by kernel_rfl) rfl rfl ?_
  intro C ds R hg hl
  obtain ⟨rfl, n, bs, rfl, hb⟩ := gDraw_iff hg
  refine ⟨by simp, ?_⟩
  obtain ⟨hn, hm, _⟩ := hl
  obtain rfl : n = bs.length := by omega
  clear hn
  refine DW.seq ?_
  refine DW.region ?_
  refine DL.go0 tauOK hE rfl (GStep.assign rfl) rfl rfl ?_
  refine DL.go1 tauOK hE rfl (GStep.alloc2 rfl) rfl rfl rfl ?_
  refine DL.nil ?_
  refine DW.sub (T' := [(0, _), (3, _)]) (Sub.cons rfl (Sub.cons rfl Sub.nil)) (Sub.refl _) ?_
  refine DW.seq ?_
  refine DW.region ?_
  refine DL.go0 tauOK hE rfl (GStep.move rfl) rfl rfl ?_
  refine DL.open l6Open_d rfl rfl rfl rfl rfl rfl rfl rfl rfl hb ?_
  intro gr A
  refine DL.go0 tauOK hE rfl (GStep.assign rfl) rfl rfl ?_
  refine DL.nil ?_
  refine DW.sub (T' := [(3, _), (4, _)]) (Sub.cons rfl (Sub.cons rfl Sub.nil)) (Sub.refl _) ?_
  refine DW.seq ?_
  refine DW.region ?_
  refine DL.go0 tauOK hE rfl (GStep.move rfl) rfl rfl ?_
  refine DL.rd l91Curve_dr rfl rfl rfl rfl rfl rfl rfl (by omega) ?_
  rintro r q ⟨c, rfl, e1, e2, bc⟩ hq
  refine ⟨by simp [resN, rws], ?_⟩
  show DL _ _ _ _ _ _ ((11, .sl 11 0 _) :: _) ((11, .row _ _ _) :: _)
  refine DL.go0 tauOK hE rfl (GStep.assign rfl) rfl rfl ?_
  refine DL.nil ?_
  refine DW.sub (T' := [(3, _), (4, _), (5, _)]) (Sub.cons rfl (Sub.cons rfl (Sub.cons rfl Sub.nil))) (Sub.refl _) ?_
  refine DW.seq ?_
  refine DW.region ?_
  refine DL.go0 tauOK hE rfl (GStep.move rfl) rfl rfl ?_
  refine DL.pickE tauOK pick_d rfl rfl rfl rfl rfl rfl rfl (by omega) (by omega) ?_
  intro x x_e x_0 x_1
  refine DL.go0 tauOK hE rfl (GStep.move rfl) rfl rfl ?_
  refine DL.pickE tauOK pick_d rfl rfl rfl rfl rfl rfl rfl (by omega) (by omega) ?_
  intro y y_e y_0 y_1
  refine DL.go0 tauOK hE rfl (G.b01 rfl rfl rfl) rfl rfl ?_
  refine DL.go1 tauOK hE rfl (GStep.alloc2 rfl) rfl rfl rfl ?_
  refine DL.sb2 tauOK rfl rfl rfl rfl rfl rfl rfl ?_
  refine DL.nil ?_
  refine DW.sub (T' := [(3, _), (4, _), (5, _), (6, _)]) (Sub.cons rfl (Sub.cons rfl (Sub.cons rfl (Sub.cons rfl Sub.nil)))) (Sub.refl _) ?_
  refine DW.seq ?_
  refine DW.seq ?_
  by_cases h1 : c.length > 1
  · skip
    refine DW.region ?_
    refine DL.go0 tauOK hE rfl (GStep.move rfl) rfl rfl ?_
    first | refine DL.go0 tauOK hE rfl (GStep.len rfl rfl rfl) rfl rfl ?_ | refine DL.go0 tauOK hE rfl (GStep.lenNil rfl rfl) rfl rfl ?_
    refine DL.go0 tauOK hE rfl (G.tr (GStep.binI rfl rfl rfl) (by simp; omega)) rfl rfl ?_
    refine DL.go0 tauOK hE rfl (GStep.move rfl) rfl rfl ?_
    first | refine DL.skip rfl rfl rfl ?_ | refine DL.go0 tauOK hE rfl (GStep.move rfl) rfl rfl ?_
    first | refine DL.skip rfl rfl rfl ?_ | (refine DL.pickE tauOK pick_d rfl rfl rfl rfl rfl rfl rfl (by omega) (by omega) ?_; intro z z_e z_0 z_1)
    first | refine DL.skip rfl rfl rfl ?_ | refine DL.go0 tauOK hE rfl (GStep.binI rfl rfl rfl) rfl rfl ?_
    first | refine DL.go0 tauOK hE rfl (GStep.pickT rfl rfl) rfl rfl ?_ | refine DL.go0 tauOK hE rfl (GStep.pickF rfl rfl) rfl rfl ?_
    refine DL.nil ?_
    refine DW.sub (T' := [(3, _), (4, _), (5, _), (6, _), (24, _)]) (Sub.cons rfl (Sub.cons rfl (Sub.cons rfl (Sub.cons rfl (Sub.cons rfl Sub.nil))))) (Sub.refl _) ?_
    refine DW.cond rfl (fun h2 => ?_) (fun h2 => ?_)
    · skip
      refine DW.seq ?_
      refine DW.region ?_
      refine DL.go0 tauOK hE rfl (GStep.move rfl) rfl rfl ?_
      refine DL.go0 tauOK hE rfl (GStep.move rfl) rfl rfl ?_
      first | refine DL.go0 tauOK hE rfl (GStep.len rfl rfl rfl) rfl rfl ?_ | refine DL.go0 tauOK hE rfl (GStep.lenNil rfl rfl) rfl rfl ?_
      first | refine DL.go0 tauOK hE rfl (G.sub rfl rfl (by omega)) rfl rfl ?_ | refine DL.go0 tauOK hE rfl (GStep.binI rfl rfl rfl) rfl rfl ?_
      refine DL.pickE tauOK pick_d rfl rfl rfl rfl rfl rfl rfl (by omega) (by omega) ?_
      intro i i_e i_0 i_1
      refine DL.go0 tauOK hE rfl (GStep.assign rfl) rfl rfl ?_
      refine DL.nil ?_
      refine DW.sub (T' := [(3, _), (5, _), (6, _), (7, _)]) (Sub.cons rfl (Sub.cons rfl (Sub.cons rfl (Sub.cons rfl Sub.nil)))) (Sub.refl _) ?_
      have i2 : i < (c.length : Int) - 1 := i_1 (by omega)
      have b1 := bc.at (by omega) i.toNat
      have b2 := bc.at (by omega) (i.toNat + 1)
      refine DW.draw tauOK hE mixed 27 (by kernel_rfl) ?_
      refine DR.go0 rfl (GStep.move rfl) rfl rfl ?_
      refine DR.go0 rfl (GStep.move rfl) rfl rfl ?_
      refine DR.go0 rfl (G.ia2 (i := i.toNat) rfl rfl rfl rfl rfl rfl (by omega) (by omega)) rfl rfl ?_
      refine DR.go0 rfl (G.fa rfl rfl rfl (by decide)) rfl rfl ?_
      first | refine DR.go0 rfl (G.lf0r rfl rfl rfl (by omega)) rfl rfl ?_ | refine DR.go0 rfl (G.lf0w rfl rfl rfl (by omega)) rfl rfl ?_
      refine DR.go0 rfl (GStep.move rfl) rfl rfl ?_
      refine DR.go0 rfl (GStep.move rfl) rfl rfl ?_
      first | refine DR.go0 rfl (G.add rfl rfl (by omega)) rfl rfl ?_ | refine DR.go0 rfl (GStep.binI rfl rfl rfl) rfl rfl ?_
      refine DR.go0 rfl (G.ia2 (i := i.toNat + 1) rfl rfl rfl rfl rfl rfl (by omega) (by omega)) rfl rfl ?_
      refine DR.go0 rfl (G.fa rfl rfl rfl (by decide)) rfl rfl ?_
      first | refine DR.go0 rfl (G.lf0r rfl rfl rfl (by omega)) rfl rfl ?_ | refine DR.go0 rfl (G.lf0w rfl rfl rfl (by omega)) rfl rfl ?_
      first | refine DR.go0 rfl (G.add rfl rfl (by omega)) rfl rfl ?_ | refine DR.go0 rfl (GStep.binI rfl rfl rfl) rfl rfl ?_
      first | refine DR.go0 rfl (G.quo rfl rfl (by omega) (by omega) (by omega)) rfl rfl ?_ | refine DR.go0 rfl (GStep.quo rfl rfl (by omega)) rfl rfl ?_
      refine DR.go0 rfl (GStep.move rfl) rfl rfl ?_
      refine DR.go0 rfl (GStep.move rfl) rfl rfl ?_
      refine DR.go0 rfl (G.ia2 (i := i.toNat) rfl rfl rfl rfl rfl rfl (by omega) (by omega)) rfl rfl ?_
      refine DR.go0 rfl (G.fa rfl rfl rfl (by decide)) rfl rfl ?_
      first | refine DR.go0 rfl (G.lf1r rfl rfl rfl (by omega)) rfl rfl ?_ | refine DR.go0 rfl (G.lf1w rfl rfl rfl (by omega)) rfl rfl ?_
      refine DR.go0 rfl (GStep.move rfl) rfl rfl ?_
      refine DR.go0 rfl (GStep.move rfl) rfl rfl ?_
      first | refine DR.go0 rfl (G.add rfl rfl (by omega)) rfl rfl ?_ | refine DR.go0 rfl (GStep.binI rfl rfl rfl) rfl rfl ?_
      refine DR.go0 rfl (G.ia2 (i := i.toNat + 1) rfl rfl rfl rfl rfl rfl (by omega) (by omega)) rfl rfl ?_
      refine DR.go0 rfl (G.fa rfl rfl rfl (by decide)) rfl rfl ?_
      first | refine DR.go0 rfl (G.lf1r rfl rfl rfl (by omega)) rfl rfl ?_ | refine DR.go0 rfl (G.lf1w rfl rfl rfl (by omega)) rfl rfl ?_
      first | refine DR.go0 rfl (G.add rfl rfl (by omega)) rfl rfl ?_ | refine DR.go0 rfl (GStep.binI rfl rfl rfl) rfl rfl ?_
      first | refine DR.go0 rfl (G.quo rfl rfl (by omega) (by omega) (by omega)) rfl rfl ?_ | refine DR.go0 rfl (GStep.quo rfl rfl (by omega)) rfl rfl ?_
      refine DR.go0 rfl (G.b01 rfl rfl rfl) rfl rfl ?_
      refine DR.nil ?_
      refine DL.sb2 tauOK rfl rfl rfl rfl rfl rfl rfl ?_
      refine DL.nil ?_
      refine DW.sub (T' := [(3, _), (5, _), (6, _)]) (Sub.cons rfl (Sub.cons rfl (Sub.cons rfl Sub.nil))) (Sub.refl _) ?_
      refine DW.seq ?_
      refine DW.draw tauOK hE mixed 3 (by kernel_rfl) ?_
      refine DR.go0 rfl (GStep.move rfl) rfl rfl ?_
      refine DR.go0 rfl (G.lb2 rfl rfl rfl) rfl rfl ?_
      refine DR.go0 rfl (GStep.assign rfl) rfl rfl ?_
      refine DR.nil ?_
      refine DL.sb2 tauOK rfl rfl rfl rfl rfl rfl rfl ?_
      refine DL.nil ?_
      refine DW.sub (T' := [(2, _), (3, _)]) (Sub.cons rfl (Sub.cons rfl Sub.nil)) (Sub.refl _) ?_
      refine DW.ret ?_
      exact ⟨_, ⟨c, _, _, rfl, e1, e2, bc.mono (by omega), by omega, by omega⟩, RetD.sc rfl rfl (by rw [flat_len]) (by omega) (RV.cell rfl rfl rfl)⟩
    · skip
      refine DW.skip ?_
      refine DW.seq ?_
      refine DW.draw tauOK hE mixed 3 (by kernel_rfl) ?_
      refine DR.go0 rfl (GStep.move rfl) rfl rfl ?_
      refine DR.go0 rfl (G.lb2 rfl rfl rfl) rfl rfl ?_
      refine DR.go0 rfl (GStep.assign rfl) rfl rfl ?_
      refine DR.nil ?_
      refine DL.sb2 tauOK rfl rfl rfl rfl rfl rfl rfl ?_
      refine DL.nil ?_
      refine DW.sub (T' := [(2, _), (3, _)]) (Sub.cons rfl (Sub.cons rfl Sub.nil)) (Sub.refl _) ?_
      refine DW.ret ?_
      exact ⟨_, ⟨c, _, _, rfl, e1, e2, bc.mono (by omega), by omega, by omega⟩, RetD.sc rfl rfl (by rw [flat_len]) (by omega) (RV.cell rfl rfl rfl)⟩
  · skip
    refine DW.region ?_
    refine DL.go0 tauOK hE rfl (GStep.move rfl) rfl rfl ?_
    first | refine DL.go0 tauOK hE rfl (GStep.len rfl rfl rfl) rfl rfl ?_ | refine DL.go0 tauOK hE rfl (GStep.lenNil rfl rfl) rfl rfl ?_
    refine DL.go0 tauOK hE rfl (G.fl (GStep.binI rfl rfl rfl) (by simp; omega)) rfl rfl ?_
    refine DL.go0 tauOK hE rfl (GStep.move rfl) rfl rfl ?_
    first | refine DL.skip rfl rfl rfl ?_ | refine DL.go0 tauOK hE rfl (GStep.move rfl) rfl rfl ?_
    first | refine DL.skip rfl rfl rfl ?_ | (refine DL.pickE tauOK pick_d rfl rfl rfl rfl rfl rfl rfl (by omega) (by omega) ?_; intro z z_e z_0 z_1)
    first | refine DL.skip rfl rfl rfl ?_ | refine DL.go0 tauOK hE rfl (GStep.binI rfl rfl rfl) rfl rfl ?_
    first | refine DL.go0 tauOK hE rfl (GStep.pickT rfl rfl) rfl rfl ?_ | refine DL.go0 tauOK hE rfl (GStep.pickF rfl rfl) rfl rfl ?_
    refine DL.nil ?_
    refine DW.sub (T' := [(3, _), (4, _), (5, _), (6, _), (24, _)]) (Sub.cons rfl (Sub.cons rfl (Sub.cons rfl (Sub.cons rfl (Sub.cons rfl Sub.nil))))) (Sub.refl _) ?_
    refine DW.condF rfl ?_
    refine DW.skip ?_
    refine DW.seq ?_
    refine DW.draw tauOK hE mixed 3 (by kernel_rfl) ?_
    refine DR.go0 rfl (GStep.move rfl) rfl rfl ?_
    refine DR.go0 rfl (G.lb2 rfl rfl rfl) rfl rfl ?_
    refine DR.go0 rfl (GStep.assign rfl) rfl rfl ?_
    refine DR.nil ?_
    refine DL.sb2 tauOK rfl rfl rfl rfl rfl rfl rfl ?_
    refine DL.nil ?_
    refine DW.sub (T' := [(2, _), (3, _)]) (Sub.cons rfl (Sub.cons rfl Sub.nil)) (Sub.refl _) ?_
    refine DW.ret ?_
    exact ⟨_, ⟨c, _, _, rfl, e1, e2, bc.mono (by omega), by omega, by omega⟩, RetD.sc rfl rfl (by rw [flat_len]) (by omega) (RV.cell rfl rfl rfl)⟩
end Go.Proofs.Ytidcomcnieggaaa
