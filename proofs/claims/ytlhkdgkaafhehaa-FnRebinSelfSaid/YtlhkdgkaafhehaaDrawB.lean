/-
  The draws of records with depths or other edges.
-/
import Derived.Test.YtlhkdgkaafhehaaDrawN
import Derived.Test.YtlhkdgkaafhehaaDenB
namespace Go.Proofs.Ytlhkdgkaafhehaa
open Go.RowKit
set_option linter.unusedVariables false
set_option linter.unusedSimpArgs false
theorem RetD.ssvv {τ : List (Nat × TK)} {T : DT} {H : DH} {t1 t2 t3 t4 id1 id2 m1 m2 sz1 sz2 : Nat} {e1 e2 : TypeId} {l1 l2 : List Int} {x y : Value} (h1 : lk T t1 = some (.sl id1 0 m1)) (hg : lk H id1 = some (.row e1 sz1 l1)) (hl : l1.length = m1 * sz1) (hs : 0 < sz1) (h2 : lk T t2 = some (.sl id2 0 m2)) (hg2 : lk H id2 = some (.row e2 sz2 l2)) (hl2 : l2.length = m2 * sz2) (hs2 : 0 < sz2) (hne : id1 ≠ id2)
    (h3 : lk T t3 = some (.val x)) (hx : x.ownBlock = none) (h4 : lk T t4 = some (.val y)) (hy : y.ownBlock = none) : RetD τ [.tmp t1, .tmp t2, .tmp t3, .tmp t4] (.tup [.row e1 sz1 m1 l1, .row e2 sz2 m2 l2, .v x, .v y]) T H :=
  ⟨by simp, by simp, ⟨RV.row h1 hg hl hs, RV.row h2 hg2 hl2 hs2, RV.v h3 hx, RV.v h4 hy, trivial⟩, by simp [rvIds_s h1, rvIds_s h2, rvIds_v h3, rvIds_v h4, hne]⟩
theorem RetD.sss {τ : List (Nat × TK)} {T : DT} {H : DH} {t1 t2 t3 id1 id2 id3 m1 m2 m3 sz1 sz2 sz3 : Nat} {e1 e2 e3 : TypeId} {l1 l2 l3 : List Int} (h1 : lk T t1 = some (.sl id1 0 m1)) (hg : lk H id1 = some (.row e1 sz1 l1)) (hl : l1.length = m1 * sz1) (hs : 0 < sz1) (h2 : lk T t2 = some (.sl id2 0 m2)) (hg2 : lk H id2 = some (.row e2 sz2 l2)) (hl2 : l2.length = m2 * sz2) (hs2 : 0 < sz2) (h3 : lk T t3 = some (.sl id3 0 m3)) (hg3 : lk H id3 = some (.row e3 sz3 l3)) (hl3 : l3.length = m3 * sz3) (hs3 : 0 < sz3) (hne : id1 ≠ id2 ∧ id1 ≠ id3 ∧ id2 ≠ id3) : RetD τ [.tmp t1, .tmp t2, .tmp t3] (.tup [.row e1 sz1 m1 l1, .row e2 sz2 m2 l2, .row e3 sz3 m3 l3]) T H :=
  ⟨by simp, by simp, ⟨RV.row h1 hg hl hs, RV.row h2 hg2 hl2 hs2, RV.row h3 hg3 hl3 hs3, trivial⟩, by simp [rvIds_s h1, rvIds_s h2, rvIds_s h3, hne]⟩
def BetN (r : RD) : Prop := ∃ (l a : List Int) (t b : Int), r = .tup [.row 3 1 l.length l, .row 3 1 a.length a, .v (.int .i64 t), .v (.int .i64 b)] ∧ 2 ≤ l.length ∧ l.length ≤ 6 ∧ 1 ≤ a.length ∧ a.length ≤ 6 ∧ Bd 20000 l ∧ Bd 20000 a ∧ 0 ≤ t ∧ t ≤ 100 ∧ -1 ≤ b ∧ b ≤ 30001
theorem lit3 (a b c : Int) {k : Int} (h0 : 0 ≤ k) (h1 : k < 3) (lo hi : Int) (ha : lo ≤ a ∧ a ≤ hi) (hb : lo ≤ b ∧ b ≤ hi) (hc : lo ≤ c ∧ c ≤ hi) : lo ≤ ([a, b, c] : List Int).getD k.toNat 0 ∧ ([a, b, c] : List Int).getD k.toNat 0 ≤ hi := by
  have : k = 0 ∨ k = 1 ∨ k = 2 := by omega
  rcases this with rfl | rfl | rfl
  · exact ha
  · exact hb
  · exact hc
def RebN (r : RD) : Prop := ∃ (l a o : List Int), r = .tup [.row 3 1 l.length l, .row 3 1 a.length a, .row 3 1 o.length o] ∧ 2 ≤ l.length ∧ l.length ≤ 6 ∧ 1 ≤ a.length ∧ a.length ≤ 6 ∧ Bd 20000 l ∧ Bd 20000 a ∧ 2 ≤ o.length ∧ o.length ≤ 6 ∧ Bd 20000 o
theorem DrawRecordBetween_dr : DRelF Try.prog 14 (gDraw BetN) := by
  have hE : EnvOK Try.prog [] := EnvOK.nil
  refine DRelF.of tauOK (fn := Try.f14) Try.func14 rfl (by kernel_rfl) rfl rfl ?_
  intro C ds R hg hl
  obtain ⟨rfl, n, bs, rfl, hb⟩ := gDraw_iff hg
  refine ⟨by simp, ?_⟩
  obtain ⟨hn, hm, _⟩ := hl
  obtain rfl : n = bs.length := by omega
  clear hn
  refine DW.seq ?_
  refine DW.region ?_
  refine DL.go0 tauOK hE rfl (GStep.assign rfl) rfl rfl ?_
  refine DL.go0 tauOK hE rfl (GStep.assign rfl) rfl rfl ?_
  refine DL.go0 tauOK hE rfl (GStep.assign rfl) rfl rfl ?_
  refine DL.go0 tauOK hE rfl (GStep.assign rfl) rfl rfl ?_
  refine DL.nil ?_
  refine DW.sub (T' := [(0, _)]) (Sub.cons rfl Sub.nil) (Sub.refl _) ?_
  refine DW.seq ?_
  refine DW.region ?_
  refine DL.go0 tauOK hE rfl (GStep.move rfl) rfl rfl ?_
  refine DL.open l6Open_d rfl rfl rfl rfl rfl rfl rfl rfl rfl hb ?_
  intro gr A
  refine DL.go0 tauOK hE rfl (GStep.assign rfl) rfl rfl ?_
  refine DL.nil ?_
  refine DW.sub (T' := [(6, _)]) (Sub.cons rfl Sub.nil) (Sub.refl _) ?_
  refine DW.seq ?_
  refine DW.region ?_
  refine DL.go0 tauOK hE rfl (GStep.move rfl) rfl rfl ?_
  refine DL.rd l91Record_dr rfl rfl rfl rfl rfl rfl rfl (by omega) ?_
  rintro r q ⟨l, a, rfl, e1, e2, e3, e4, bl, ba⟩ hq
  refine ⟨by simp [resN, rws], ?_⟩
  show DL _ _ _ _ _ _ ((14, .tup [.s 14 _, .s 1014 _]) :: _) ((1014, .row _ _ _) :: (14, .row _ _ _) :: _)
  refine DL.go0 tauOK hE rfl (GStep.move rfl) rfl rfl ?_
  refine DL.go0 tauOK hE rfl (GStep.extr rfl rfl) rfl rfl ?_
  refine DL.go0 tauOK hE rfl (GStep.extr rfl rfl) rfl rfl ?_
  refine DL.go0 tauOK hE rfl (GStep.assign rfl) rfl rfl ?_
  refine DL.go0 tauOK hE rfl (GStep.assign rfl) rfl rfl ?_
  refine DL.nil ?_
  refine DW.sub (T' := [(6, _), (7, _), (8, _)]) (Sub.cons rfl (Sub.cons rfl (Sub.cons rfl Sub.nil))) (Sub.refl _) ?_
  refine DW.seq ?_
  refine DW.region ?_
  refine DL.go0 tauOK hE rfl (GStep.move rfl) rfl rfl ?_
  refine DL.pickE tauOK pick_d rfl rfl rfl rfl rfl rfl rfl (by omega) (by omega) ?_
  intro x x_e x_0 x_1
  refine DL.go0 tauOK hE rfl (GStep.assign rfl) rfl rfl ?_
  refine DL.nil ?_
  refine DW.sub (T' := [(6, _), (7, _), (8, _), (9, _)]) (Sub.cons rfl (Sub.cons rfl (Sub.cons rfl (Sub.cons rfl Sub.nil)))) (Sub.refl _) ?_
  refine DW.seq ?_
  refine DW.seq ?_
  refine DW.region ?_
  refine DL.go0 tauOK hE rfl (GStep.move rfl) rfl rfl ?_
  refine DL.pickE tauOK pick_d rfl rfl rfl rfl rfl rfl rfl (by omega) (by omega) ?_
  intro y y_e y_0 y_1
  refine DL.go0 tauOK hE rfl (GStep.binI rfl rfl rfl) rfl rfl ?_
  refine DL.nil ?_
  refine DW.sub (T' := [(6, _), (7, _), (8, _), (9, _), (21, _)]) (Sub.cons rfl (Sub.cons rfl (Sub.cons rfl (Sub.cons rfl (Sub.cons rfl Sub.nil))))) (Sub.refl _) ?_
  refine DW.cond rfl (fun h1 => ?_) (fun h1 => ?_)
  · skip
    refine DW.seq ?_
    refine DW.drawM tauOK hE pick_d mixed 14 (by kernel_rfl) (by kernel_rfl) ?_
    refine DM.go0 rfl (GStep.move rfl) rfl rfl ?_
    refine DM.go0 rfl (GStep.move rfl) rfl rfl ?_
    refine DM.go0 rfl (GStep.move rfl) rfl rfl ?_
    refine DM.go0 rfl (GStep.move rfl) rfl rfl ?_
    first | refine DM.go0 rfl (G.sub rfl rfl (by omega)) rfl rfl ?_ | refine DM.go0 rfl (GStep.binI rfl rfl rfl) rfl rfl ?_
    refine DM.go1 rfl (GStep.bslice1 (l := [_, _, _]) rfl rfl (by decide) rfl rfl) rfl rfl rfl ?_
    refine DM.go0 rfl (GStep.move rfl) rfl rfl ?_
    refine DM.pickE rfl rfl rfl rfl rfl rfl rfl (by omega) (by omega) ?_
    intro z z_e z_0 z_1
    refine DM.go0 rfl (G.ia1 (i := z.toNat) rfl rfl rfl rfl rfl rfl (by omega) (by omega)) rfl rfl ?_
    first | refine DM.go0 rfl (G.le1r rfl rfl rfl (by simp; omega)) rfl rfl ?_ | refine DM.go0 rfl (G.le1w rfl rfl rfl (by simp; omega)) rfl rfl ?_
    refine DM.go0 rfl (GStep.assign rfl) rfl rfl ?_
    refine DM.go0 rfl (GStep.assign rfl) rfl rfl ?_
    refine DM.go0 rfl (GStep.assign rfl) rfl rfl ?_
    refine DM.go0 rfl (GStep.assign rfl) rfl rfl ?_
    refine DM.nil (by kernel_rfl) ?_
    refine DL.nil ?_
    refine DW.sub (T' := [(2, _), (3, _), (4, _), (5, _)]) (Sub.cons rfl (Sub.cons rfl (Sub.cons rfl (Sub.cons rfl Sub.nil)))) (Sub.refl _) ?_
    refine DW.ret ?_
    have b1 := lit3 (x - 1) 30001 30000 z_0 (z_1 (by omega)) (-1) 30001 (by omega) (by omega) (by omega)
    exact ⟨_, ⟨l, a, _, _, rfl, e1, e2, e3, e4, bl, ba, by omega, by omega, b1.1, b1.2⟩, RetD.ssvv rfl rfl (by simp) (by omega) rfl rfl (by simp) (by omega) (by decide) rfl rfl rfl rfl⟩
  · skip
    refine DW.skip ?_
    refine DW.seq ?_
    refine DW.region ?_
    refine DL.go0 tauOK hE rfl (GStep.move rfl) rfl rfl ?_
    refine DL.go0 tauOK hE rfl (GStep.move rfl) rfl rfl ?_
    refine DL.go0 tauOK hE rfl (GStep.move rfl) rfl rfl ?_
    refine DL.go0 tauOK hE rfl (GStep.move rfl) rfl rfl ?_
    refine DL.go0 tauOK hE rfl (GStep.move rfl) rfl rfl ?_
    refine DL.pickE tauOK pick_d rfl rfl rfl rfl rfl rfl rfl (by omega) (by omega) ?_
    intro z z_e z_0 z_1
    first | refine DL.go0 tauOK hE rfl (G.add rfl rfl (by omega)) rfl rfl ?_ | refine DL.go0 tauOK hE rfl (GStep.binI rfl rfl rfl) rfl rfl ?_
    refine DL.go0 tauOK hE rfl (GStep.assign rfl) rfl rfl ?_
    refine DL.go0 tauOK hE rfl (GStep.assign rfl) rfl rfl ?_
    refine DL.go0 tauOK hE rfl (GStep.assign rfl) rfl rfl ?_
    refine DL.go0 tauOK hE rfl (GStep.assign rfl) rfl rfl ?_
    refine DL.nil ?_
    refine DW.sub (T' := [(2, _), (3, _), (4, _), (5, _)]) (Sub.cons rfl (Sub.cons rfl (Sub.cons rfl (Sub.cons rfl Sub.nil)))) (Sub.refl _) ?_
    refine DW.ret ?_
    exact ⟨_, ⟨l, a, _, _, rfl, e1, e2, e3, e4, bl, ba, by omega, by omega, by omega, by omega⟩, RetD.ssvv rfl rfl (by simp) (by omega) rfl rfl (by simp) (by omega) (by decide) rfl rfl rfl rfl⟩
theorem DrawRecordMean_dr : DRelF Try.prog 27 (gDraw BetN) := by
  have hE : EnvOK Try.prog [] := EnvOK.nil
  refine DRelF.of tauOK (fn := Try.f27) Try.func27 rfl (by kernel_rfl) rfl rfl ?_
  intro C ds R hg hl
  have gg := hg
  obtain ⟨rfl, n, bs, rfl, hb⟩ := gDraw_iff hg
  refine ⟨by simp, ?_⟩
  obtain ⟨hn, hm, _⟩ := hl
  obtain rfl : n = bs.length := by omega
  clear hn hg
  refine DW.seq ?_
  refine DW.region ?_
  refine DL.go0 tauOK hE rfl (GStep.assign rfl) rfl rfl ?_
  refine DL.go0 tauOK hE rfl (GStep.assign rfl) rfl rfl ?_
  refine DL.go0 tauOK hE rfl (GStep.assign rfl) rfl rfl ?_
  refine DL.go0 tauOK hE rfl (GStep.assign rfl) rfl rfl ?_
  refine DL.nil ?_
  refine DW.sub (T' := [(0, _)]) (Sub.cons rfl Sub.nil) (Sub.refl _) ?_
  refine DW.seq ?_
  refine DW.region ?_
  refine DL.go0 tauOK hE rfl (GStep.move rfl) rfl rfl ?_
  refine DL.rel DrawRecordBetween_dr rfl rfl rfl rfl rfl (All2.cons (ArgOf.ro rfl rfl (by simp [flat_len])) All2.nil) (gg) ?_
  rintro r ⟨l, a, t, b, rfl, e1, e2, e3, e4, bl, ba, t0, t1, b0, b1⟩
  refine ⟨by simp [resN, rws], ?_⟩
  show DL _ _ _ _ _ _ ((7, .tup [.s 7 _, .s 1007 _, .v _, .v _]) :: _) ((1007, .row _ _ _) :: (7, .row _ _ _) :: _)
  refine DL.go0 tauOK hE rfl (GStep.extr rfl rfl) rfl rfl ?_
  refine DL.go0 tauOK hE rfl (GStep.extr rfl rfl) rfl rfl ?_
  refine DL.go0 tauOK hE rfl (GStep.extr rfl rfl) rfl rfl ?_
  refine DL.go0 tauOK hE rfl (GStep.extr rfl rfl) rfl rfl ?_
  refine DL.go0 tauOK hE rfl (GStep.assign rfl) rfl rfl ?_
  refine DL.go0 tauOK hE rfl (GStep.assign rfl) rfl rfl ?_
  refine DL.go0 tauOK hE rfl (GStep.assign rfl) rfl rfl ?_
  refine DL.go0 tauOK hE rfl (GStep.assign rfl) rfl rfl ?_
  refine DL.nil ?_
  refine DW.sub (T' := [(2, _), (3, _), (4, _), (5, _)]) (Sub.cons rfl (Sub.cons rfl (Sub.cons rfl (Sub.cons rfl Sub.nil)))) (Sub.refl _) ?_
  refine DW.ret ?_
  exact ⟨_, ⟨l, a, _, _, rfl, e1, e2, e3, e4, bl, ba, by omega, by omega, by omega, by omega⟩, RetD.ssvv rfl rfl (by simp) (by omega) rfl rfl (by simp) (by omega) (by decide) rfl rfl rfl rfl⟩
theorem DrawRecordRebin_dr : DRelF Try.prog 29 (gDraw RebN) := by
  have hE : EnvOK Try.prog [] := EnvOK.nil
  refine DRelF.of tauOK (fn := Try.f29) Try.func29 rfl (by kernel_rfl) rfl rfl ?_
  intro C ds R hg hl
  obtain ⟨rfl, n, bs, rfl, hb⟩ := gDraw_iff hg
  refine ⟨by simp, ?_⟩
  obtain ⟨hn, hm, _⟩ := hl
  obtain rfl : n = bs.length := by omega
  clear hn
  refine DW.seq ?_
  refine DW.region ?_
  refine DL.go0 tauOK hE rfl (GStep.assign rfl) rfl rfl ?_
  refine DL.go0 tauOK hE rfl (GStep.assign rfl) rfl rfl ?_
  refine DL.go0 tauOK hE rfl (GStep.assign rfl) rfl rfl ?_
  refine DL.nil ?_
  refine DW.sub (T' := [(0, _)]) (Sub.cons rfl Sub.nil) (Sub.refl _) ?_
  refine DW.seq ?_
  refine DW.region ?_
  refine DL.go0 tauOK hE rfl (GStep.move rfl) rfl rfl ?_
  refine DL.open l6Open_d rfl rfl rfl rfl rfl rfl rfl rfl rfl hb ?_
  intro gr A
  refine DL.go0 tauOK hE rfl (GStep.assign rfl) rfl rfl ?_
  refine DL.nil ?_
  refine DW.sub (T' := [(5, _)]) (Sub.cons rfl Sub.nil) (Sub.refl _) ?_
  refine DW.seq ?_
  refine DW.region ?_
  refine DL.go0 tauOK hE rfl (GStep.move rfl) rfl rfl ?_
  refine DL.rd l91Record_dr rfl rfl rfl rfl rfl rfl rfl (by omega) ?_
  rintro r q ⟨l, a, rfl, e1, e2, e3, e4, bl, ba⟩ hq
  refine ⟨by simp [resN, rws], ?_⟩
  show DL _ _ _ _ _ _ ((14, .tup [.s 14 _, .s 1014 _]) :: _) ((1014, .row _ _ _) :: (14, .row _ _ _) :: _)
  refine DL.go0 tauOK hE rfl (GStep.move rfl) rfl rfl ?_
  refine DL.go0 tauOK hE rfl (GStep.extr rfl rfl) rfl rfl ?_
  refine DL.go0 tauOK hE rfl (GStep.extr rfl rfl) rfl rfl ?_
  refine DL.go0 tauOK hE rfl (GStep.assign rfl) rfl rfl ?_
  refine DL.go0 tauOK hE rfl (GStep.assign rfl) rfl rfl ?_
  refine DL.nil ?_
  refine DW.sub (T' := [(5, _), (6, _), (7, _)]) (Sub.cons rfl (Sub.cons rfl (Sub.cons rfl Sub.nil))) (Sub.refl _) ?_
  refine DW.seq ?_
  refine DW.region ?_
  refine DL.go0 tauOK hE rfl (GStep.move rfl) rfl rfl ?_
  refine DL.rd l91Record_dr rfl rfl rfl rfl rfl rfl rfl (by omega) ?_
  rintro r q' ⟨l', a', rfl, e1', e2', e3', e4', bl', ba'⟩ hq'
  refine ⟨by simp [resN, rws], ?_⟩
  show DL _ _ _ _ _ _ ((19, .tup [.s 19 _, .s 1019 _]) :: _) ((1019, .row _ _ _) :: (19, .row _ _ _) :: _)
  refine DL.go0 tauOK hE rfl (GStep.move rfl) rfl rfl ?_
  refine DL.go0 tauOK hE rfl (GStep.extr rfl rfl) rfl rfl ?_
  refine DL.go0 tauOK hE rfl (GStep.extr rfl rfl) rfl rfl ?_
  refine DL.go0 tauOK hE rfl (GStep.assign rfl) rfl rfl ?_
  refine DL.go0 tauOK hE rfl (GStep.assign rfl) rfl rfl ?_
  refine DL.nil ?_
  refine DW.sub (T' := [(6, _), (7, _), (8, _)]) (Sub.cons rfl (Sub.cons rfl (Sub.cons rfl Sub.nil))) (Sub.refl _) ?_
  refine DW.seq ?_
  refine DW.region ?_
  refine DL.go0 tauOK hE rfl (GStep.move rfl) rfl rfl ?_
  refine DL.go0 tauOK hE rfl (GStep.move rfl) rfl rfl ?_
  refine DL.go0 tauOK hE rfl (GStep.move rfl) rfl rfl ?_
  refine DL.go0 tauOK hE rfl (GStep.assign rfl) rfl rfl ?_
  refine DL.go0 tauOK hE rfl (GStep.assign rfl) rfl rfl ?_
  refine DL.go0 tauOK hE rfl (GStep.assign rfl) rfl rfl ?_
  refine DL.nil ?_
  refine DW.sub (T' := [(2, _), (3, _), (4, _)]) (Sub.cons rfl (Sub.cons rfl (Sub.cons rfl Sub.nil))) (Sub.refl _) ?_
  refine DW.ret ?_
  exact ⟨_, ⟨l, a, l', rfl, e1, e2, e3, e4, bl, ba, e1', e2', bl'⟩, RetD.sss rfl rfl (by simp) (by omega) rfl rfl (by simp) (by omega) rfl rfl (by simp) (by omega) (by decide)⟩
end Go.Proofs.Ytlhkdgkaafhehaa
