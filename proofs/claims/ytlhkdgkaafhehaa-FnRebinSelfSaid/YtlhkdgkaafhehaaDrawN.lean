/-
  The draws of records, walked by the plain machine.
-/
import Derived.Test.YtlhkdgkaafhehaaPick
import Derived.Test.YtlhkdgkaafhehaaLawH
namespace Go.Proofs.Ytlhkdgkaafhehaa
open Go.RowKit
set_option linter.unusedVariables false
set_option linter.unusedSimpArgs false

def Bd (b : Int) (l : List Int) : Prop := ∀ z ∈ l, -b ≤ z ∧ z ≤ b
theorem Bd.nil (b : Int) : Bd b [] := fun z hz => by cases hz
theorem Bd.one {b z : Int} (h1 : -b ≤ z) (h2 : z ≤ b) : Bd b [z] := fun y hy => by simp at hy; subst hy; exact ⟨h1, h2⟩
theorem Bd.snoc {b : Int} {l : List Int} {z : Int} (h : Bd b l) (h1 : -b ≤ z) (h2 : z ≤ b) : Bd b (l ++ [z]) := by
  intro y hy
  rcases List.mem_append.1 hy with hy | hy
  · exact h y hy
  · simp at hy; subst hy; exact ⟨h1, h2⟩
theorem Bd.at {b : Int} {l : List Int} (h : Bd b l) (hb : 0 ≤ b) (j : Nat) : -b ≤ l.getD j 0 ∧ l.getD j 0 ≤ b := by
  by_cases hj : j < l.length
  · exact h _ (by simp [List.getD_eq_getElem?_getD, List.getElem?_eq_getElem hj])
  · rw [List.getD_eq_getElem?_getD, List.getElem?_eq_none (by omega)]
    simp; omega
theorem Bd.set {b : Int} {l : List Int} {z : Int} (h : Bd b l) (h1 : -b ≤ z) (h2 : z ≤ b) (j : Nat) : Bd b (l.set j z) := by
  intro y hy
  rcases List.mem_or_eq_of_mem_set hy with hy | hy
  · exact h y hy
  · subst hy; exact ⟨h1, h2⟩
theorem lit9 {k : Int} (h0 : 0 ≤ k) (h1 : k < 9) : 1 ≤ ([1, 2, 3, 4, 5, 6, 8, 10, 12] : List Int).getD k.toNat 0 ∧ ([1, 2, 3, 4, 5, 6, 8, 10, 12] : List Int).getD k.toNat 0 ≤ 12 := by
  have : ∀ j, j < 9 → 1 ≤ ([1, 2, 3, 4, 5, 6, 8, 10, 12] : List Int).getD j 0 ∧ ([1, 2, 3, 4, 5, 6, 8, 10, 12] : List Int).getD j 0 ≤ 12 := by decide
  exact this _ (by omega)
theorem lit2 (a b : Int) {k c : Int} (h0 : 0 ≤ k) (h1 : k < 2) (ha : -c ≤ a ∧ a ≤ c) (hb : -c ≤ b ∧ b ≤ c) : -c ≤ ([a, b] : List Int).getD k.toNat 0 ∧ ([a, b] : List Int).getD k.toNat 0 ≤ c := by
  have : k = 0 ∨ k = 1 := by omega
  rcases this with rfl | rfl
  · exact ha
  · exact hb

def RecN (r : RD) : Prop := ∃ l a : List Int, r = .tup [.row 3 1 l.length l, .row 3 1 a.length a] ∧ 2 ≤ l.length ∧ l.length ≤ 6 ∧ 1 ≤ a.length ∧ a.length ≤ 6 ∧ Bd 20000 l ∧ Bd 20000 a
theorem recN {l a : List Int} {n m : Nat} (h1 : l.length = n) (h2 : a.length = m) (h3 : 2 ≤ n) (h4 : n ≤ 6) (h5 : 1 ≤ m) (h6 : m ≤ 6) (h7 : Bd 20000 l) (h8 : Bd 20000 a) : RecN (.tup [.row 3 1 n l, .row 3 1 m a]) := by
  subst h1 h2
  exact ⟨l, a, rfl, h3, h4, h5, h6, h7, h8⟩

theorem l91Record_dr : DRd Try.prog 38 20 RecN := by
  have hE : EnvOK Try.prog [] := EnvOK.nil
  refine DRd.of tauOK (fn := Try.f38) Try.func38 rfl (by kernel_rfl) rfl rfl rfl ?_
  intro C gr A bs p hp
  refine DW.seq ?_
  refine DW.region ?_
  refine DL.go0 tauOK hE rfl (GStep.assign rfl) rfl rfl ?_
  refine DL.go0 tauOK hE rfl (GStep.assign rfl) rfl rfl ?_
  refine DL.nil ?_
  refine DW.sub (T' := [(0, _)]) (Sub.cons rfl Sub.nil) (Sub.refl _) ?_
  refine DW.seq ?_
  refine DW.region ?_
  refine DL.go0 tauOK hE rfl (GStep.move rfl) rfl rfl ?_
  refine DL.pickE tauOK pick_d rfl rfl rfl rfl rfl rfl rfl (by omega) (by omega) ?_
  intro x x_e x_0 x_1
  refine DL.go0 tauOK hE rfl (GStep.assign rfl) rfl rfl ?_
  refine DL.nil ?_
  refine DW.sub (T' := [(0, _), (4, _)]) (Sub.cons rfl (Sub.cons rfl Sub.nil)) (Sub.refl _) ?_
  refine DW.seq ?_
  refine DW.region ?_
  refine DL.go0 tauOK hE rfl (GStep.move rfl) rfl rfl ?_
  refine DL.go1 tauOK hE rfl (G.bs1i rfl rfl rfl) rfl rfl rfl ?_
  refine DL.go0 tauOK hE rfl (GStep.assign rfl) rfl rfl ?_
  refine DL.nil ?_
  refine DW.sub (T' := [(0, _), (4, _), (5, _)]) (Sub.cons rfl (Sub.cons rfl (Sub.cons rfl Sub.nil))) (Sub.refl _) ?_
  refine DW.seq ?_
  refine DW.region ?_
  refine DL.go1 tauOK hE rfl (G.bs0i rfl rfl) rfl rfl rfl ?_
  refine DL.go0 tauOK hE rfl (GStep.assign rfl) rfl rfl ?_
  refine DL.nil ?_
  refine DW.sub (T' := [(0, _), (4, _), (5, _), (6, _)]) (Sub.cons rfl (Sub.cons rfl (Sub.cons rfl (Sub.cons rfl Sub.nil)))) (Sub.refl _) ?_
  refine DW.seq ?_
  refine DW.region ?_
  refine DL.go0 tauOK hE rfl (GStep.move rfl) rfl rfl ?_
  refine DL.pickE tauOK pick_d rfl rfl rfl rfl rfl rfl rfl (by omega) (by omega) ?_
  intro y y_e y_0 y_1
  first | refine DL.go0 tauOK hE rfl (G.add rfl rfl (by omega)) rfl rfl ?_ | refine DL.go0 tauOK hE rfl (GStep.binI rfl rfl rfl) rfl rfl ?_
  refine DL.go0 tauOK hE rfl (GStep.assign rfl) rfl rfl ?_
  refine DL.nil ?_
  refine DW.sub (T' := [(0, _), (4, _), (5, _), (6, _), (7, _)]) (Sub.cons rfl (Sub.cons rfl (Sub.cons rfl (Sub.cons rfl (Sub.cons rfl Sub.nil))))) (Sub.refl _) ?_
  refine DW.seq ?_
  refine DW.seq ?_
  refine DW.region ?_
  refine DL.go0 tauOK hE rfl (GStep.assign rfl) rfl rfl ?_
  refine DL.nil ?_
  refine DW.sub (T' := [(0, _), (4, _), (5, _), (6, _), (7, _), (8, _)]) (Sub.cons rfl (Sub.cons rfl (Sub.cons rfl (Sub.cons rfl (Sub.cons rfl (Sub.cons rfl Sub.nil)))))) (Sub.refl _) ?_
  refine DW.block ?_
  refine DW.loop (α := Nat × Int × List Int × List Int × Nat) (fun (k, v, l, a, q) => [(0, .ptr 0 0), (4, .val (.int .i64 v)), (5, .sl 12 0 (k + 1)), (6, .sl 13 0 k), (7, .val (.int .i64 (1 + y))), (8, .val (.int .i64 (k : Nat)))]) (fun (k, v, l, a, q) => [(0, .rdr gr A bs q), (12, .row 3 1 l), (13, .row 3 1 a)]) (fun (k, v, l, a, q) => k ≤ (1 + y).toNat ∧ l.length = k + 1 ∧ a.length = k ∧ Bd 20000 l ∧ Bd 20000 a ∧ 0 ≤ v ∧ v ≤ 20 + 12 * k ∧ q = p + 2 + 2 * k) (fun (k, v, l, a, q) => (1 + y).toNat - k) (0, x, [x], [], p + 1 + 1) (⟨by omega, rfl, rfl, Bd.one (by omega) (by omega), Bd.nil _, by omega, by omega, by omega⟩) (Sub.cons rfl (Sub.cons rfl (Sub.cons rfl (Sub.cons rfl (Sub.cons rfl (Sub.cons rfl Sub.nil)))))) (Sub.cons rfl (Sub.cons rfl (Sub.cons rfl Sub.nil))) ?_
  rintro ⟨k, v, l, a, q⟩ ⟨hk, hl, ha, bl, ba, v0, v1, hq⟩
  skip
  refine DW.seq ?_
  refine DW.seq ?_
  refine DW.region ?_
  refine DL.go0 tauOK hE rfl (GStep.move rfl) rfl rfl ?_
  refine DL.go0 tauOK hE rfl (GStep.move rfl) rfl rfl ?_
  refine DL.go0 tauOK hE rfl (GStep.binI rfl rfl rfl) rfl rfl ?_
  refine DL.nil ?_
  refine DW.sub (T' := [(0, _), (4, _), (5, _), (6, _), (7, _), (8, _), (19, _)]) (Sub.cons rfl (Sub.cons rfl (Sub.cons rfl (Sub.cons rfl (Sub.cons rfl (Sub.cons rfl (Sub.cons rfl Sub.nil))))))) (Sub.refl _) ?_
  refine DW.cond rfl (fun hlt => ?_) (fun hlt => ?_)
  · skip
    have hlt : (k : Int) < 1 + y := by simpa using hlt
    refine DW.skip ?_
    refine DW.seq ?_
    refine DW.block ?_
    refine DW.seq ?_
    refine DW.region ?_
    refine DL.go0 tauOK hE rfl (GStep.move rfl) rfl rfl ?_
    refine DL.go1 tauOK hE rfl (GStep.bslice1 (l := [_, _, _, _, _, _, _, _, _]) rfl rfl (by decide) rfl rfl) rfl rfl rfl ?_
    refine DL.go0 tauOK hE rfl (GStep.move rfl) rfl rfl ?_
    refine DL.pickE tauOK pick_d rfl rfl rfl rfl rfl rfl rfl (by omega) (by omega) ?_
    intro z z_e z_0 z_1
    have hz := lit9 z_0 (z_1 (by omega))
    refine DL.go0 tauOK hE rfl (G.ia1 (i := z.toNat) rfl rfl rfl rfl rfl rfl (by omega) (by omega)) rfl rfl ?_
    first | refine DL.go0 tauOK hE rfl (G.le1r rfl rfl rfl (by simp; omega)) rfl rfl ?_ | refine DL.go0 tauOK hE rfl (G.le1w rfl rfl rfl (by simp; omega)) rfl rfl ?_
    first | refine DL.go0 tauOK hE rfl (G.add rfl rfl (by omega)) rfl rfl ?_ | refine DL.go0 tauOK hE rfl (GStep.binI rfl rfl rfl) rfl rfl ?_
    refine DL.go0 tauOK hE rfl (GStep.assign rfl) rfl rfl ?_
    refine DL.nil ?_
    refine DW.sub (T' := [(0, _), (4, _), (5, _), (6, _), (7, _), (8, _)]) (Sub.cons rfl (Sub.cons rfl (Sub.cons rfl (Sub.cons rfl (Sub.cons rfl (Sub.cons rfl Sub.nil)))))) (Sub.refl _) ?_
    refine DW.seq ?_
    refine DW.region ?_
    refine DL.go0 tauOK hE rfl (GStep.move rfl) rfl rfl ?_
    refine DL.go0 tauOK hE rfl (GStep.move rfl) rfl rfl ?_
    refine DL.go1 tauOK hE rfl (G.bs1i rfl rfl rfl) rfl rfl rfl ?_
    refine DL.app1 tauOK [(0, _), (4, _), (6, _), (7, _), (8, _)] rfl rfl rfl rfl rfl rfl rfl rfl (hl) rfl rfl rfl (by omega) (Sub.cons rfl (Sub.cons rfl (Sub.cons rfl (Sub.cons rfl (Sub.cons rfl Sub.nil))))) rfl ?_
    refine DL.go0 tauOK hE rfl (GStep.assign rfl) rfl rfl ?_
    refine DL.nil ?_
    refine DW.sub (T' := [(0, _), (4, _), (5, _), (6, _), (7, _), (8, _)]) (Sub.cons rfl (Sub.cons rfl (Sub.cons rfl (Sub.cons rfl (Sub.cons rfl (Sub.cons rfl Sub.nil)))))) (Sub.refl _) ?_
    refine DW.region ?_
    refine DL.go0 tauOK hE rfl (GStep.move rfl) rfl rfl ?_
    refine DL.go0 tauOK hE rfl (GStep.move rfl) rfl rfl ?_
    refine DL.pickE tauOK pick_d rfl rfl rfl rfl rfl rfl rfl (by omega) (by omega) ?_
    intro u u_e u_0 u_1
    refine DL.go1 tauOK hE rfl (G.bs1i rfl rfl rfl) rfl rfl rfl ?_
    refine DL.app1 tauOK [(0, _), (4, _), (5, _), (7, _), (8, _)] rfl rfl rfl rfl rfl rfl rfl rfl (ha) rfl rfl rfl (by omega) (Sub.cons rfl (Sub.cons rfl (Sub.cons rfl (Sub.cons rfl (Sub.cons rfl Sub.nil))))) rfl ?_
    refine DL.go0 tauOK hE rfl (GStep.assign rfl) rfl rfl ?_
    refine DL.nil ?_
    refine DW.sub (T' := [(0, _), (4, _), (5, _), (6, _), (7, _), (8, _)]) (Sub.cons rfl (Sub.cons rfl (Sub.cons rfl (Sub.cons rfl (Sub.cons rfl (Sub.cons rfl Sub.nil)))))) (Sub.refl _) ?_
    refine DW.region ?_
    refine DL.go0 tauOK hE rfl (GStep.move rfl) rfl rfl ?_
    first | refine DL.go0 tauOK hE rfl (G.add rfl rfl (by omega)) rfl rfl ?_ | refine DL.go0 tauOK hE rfl (GStep.binI rfl rfl rfl) rfl rfl ?_
    refine DL.go0 tauOK hE rfl (GStep.assign rfl) rfl rfl ?_
    refine DL.nil ?_
    refine ⟨(k + 1, v + ([1, 2, 3, 4, 5, 6, 8, 10, 12] : List Int).getD z.toNat 0, l ++ [v + ([1, 2, 3, 4, 5, 6, 8, 10, 12] : List Int).getD z.toNat 0], a ++ [u], q + 1 + 1), ⟨by omega, by simp [hl], by simp [ha], bl.snoc (by omega) (by omega), ba.snoc (by omega) (by omega), by omega, by omega, by omega⟩, by first | omega | (dsimp only; omega), ?_, ?_⟩
    · exact Sub.cons rfl (Sub.cons rfl (Sub.cons rfl (Sub.cons rfl (Sub.cons rfl (Sub.cons rfl Sub.nil)))))
    · exact Sub.cons rfl (Sub.cons rfl (Sub.cons rfl Sub.nil))
  · skip
    have hlt : k = (1 + y).toNat := by simp at hlt; omega
    refine DW.exit ?_
    have hk1 : 1 ≤ k := by omega
    have hk5 : k ≤ 5 := by omega
    clear hlt hk
    refine DW.seq ?_
    refine DW.seq ?_
    refine DW.region ?_
    refine DL.go0 tauOK hE rfl (GStep.move rfl) rfl rfl ?_
    refine DL.pickE tauOK pick_d rfl rfl rfl rfl rfl rfl rfl (by omega) (by omega) ?_
    intro z z_e z_0 z_1
    refine DL.nil ?_
    refine DW.sub (T' := [(0, _), (5, _), (6, _), (39, _)]) (Sub.cons rfl (Sub.cons rfl (Sub.cons rfl (Sub.cons rfl Sub.nil)))) (Sub.refl _) ?_
    refine DW.block ?_
    refine DW.seq ?_
    refine DW.region ?_
    refine DL.go0 tauOK hE rfl (GStep.binI rfl rfl rfl) rfl rfl ?_
    refine DL.go0 tauOK hE rfl (GStep.assign rfl) rfl rfl ?_
    refine DL.nil ?_
    refine DW.sub (T' := [(0, _), (5, _), (6, _), (39, _), (40, _)]) (Sub.cons rfl (Sub.cons rfl (Sub.cons rfl (Sub.cons rfl (Sub.cons rfl Sub.nil))))) (Sub.refl _) ?_
    refine DW.cond rfl (fun h1 => ?_) (fun h1 => ?_)
    · skip
      refine DW.region ?_
      refine DL.go0 tauOK hE rfl (GStep.move rfl) rfl rfl ?_
      refine DL.go0 tauOK hE rfl (GStep.move rfl) rfl rfl ?_
      refine DL.go0 tauOK hE rfl (G.ia1 (i := 0) rfl rfl rfl rfl rfl rfl rfl (by omega)) rfl rfl ?_
      first | refine DL.go0 tauOK hE rfl (G.le1r rfl rfl rfl (by omega)) rfl rfl ?_ | refine DL.go0 tauOK hE rfl (G.le1w rfl rfl rfl (by omega)) rfl rfl ?_
      refine DL.go0 tauOK hE rfl (G.ia1 (i := 1) rfl rfl rfl rfl rfl rfl (by omega) (by omega)) rfl rfl ?_
      refine DL.se1 tauOK rfl rfl rfl rfl rfl rfl rfl (by omega) ?_
      refine DL.nil ?_
      refine DW.sub (T' := [(5, _), (6, _)]) (Sub.cons rfl (Sub.cons rfl Sub.nil)) (Sub.refl _) ?_
      have b1 := bl.at (by omega) 0
      refine DW.seq ?_
      refine DW.region ?_
      refine DL.go0 tauOK hE rfl (GStep.move rfl) rfl rfl ?_
      refine DL.go0 tauOK hE rfl (GStep.move rfl) rfl rfl ?_
      refine DL.go0 tauOK hE rfl (GStep.assign rfl) rfl rfl ?_
      refine DL.go0 tauOK hE rfl (GStep.assign rfl) rfl rfl ?_
      refine DL.nil ?_
      refine DW.sub (T' := [(2, _), (3, _)]) (Sub.cons rfl (Sub.cons rfl Sub.nil)) (Sub.refl _) ?_
      refine DW.ret ?_
      exact ⟨_, _, recN (by simp [hl]) ha (by omega) (by omega) (by omega) (by omega) (bl.set b1.1 b1.2 1) ba, by omega, rfl, RetD.ss rfl rfl (by simp [hl]) (by omega) rfl rfl (by simp [ha]) (by omega) (by decide)⟩
    · skip
      refine DW.seq ?_
      refine DW.region ?_
      refine DL.go0 tauOK hE rfl (GStep.binI rfl rfl rfl) rfl rfl ?_
      refine DL.go0 tauOK hE rfl (GStep.assign rfl) rfl rfl ?_
      refine DL.nil ?_
      refine DW.sub (T' := [(0, _), (5, _), (6, _), (39, _), (47, _)]) (Sub.cons rfl (Sub.cons rfl (Sub.cons rfl (Sub.cons rfl (Sub.cons rfl Sub.nil))))) (Sub.refl _) ?_
      refine DW.cond rfl (fun h2 => ?_) (fun h2 => ?_)
      · skip
        refine DW.region ?_
        refine DL.go0 tauOK hE rfl (GStep.move rfl) rfl rfl ?_
        refine DL.go1 tauOK hE rfl (G.bs2i rfl rfl rfl rfl) rfl rfl rfl ?_
        refine DL.go0 tauOK hE rfl (GStep.move rfl) rfl rfl ?_
        refine DL.pickE tauOK pick_d rfl rfl rfl rfl rfl rfl rfl (by omega) (by omega) ?_
        intro u u_e u_0 u_1
        refine DL.go0 tauOK hE rfl (G.ia1 (i := u.toNat) rfl rfl rfl rfl rfl rfl (by omega) (by omega)) rfl rfl ?_
        first | refine DL.go0 tauOK hE rfl (G.le1r rfl rfl rfl (by simp; omega)) rfl rfl ?_ | refine DL.go0 tauOK hE rfl (G.le1w rfl rfl rfl (by simp; omega)) rfl rfl ?_
        refine DL.go0 tauOK hE rfl (G.ia1 (i := 0) rfl rfl rfl rfl rfl rfl rfl (by omega)) rfl rfl ?_
        refine DL.se1 tauOK rfl rfl rfl rfl rfl rfl rfl (by omega) ?_
        refine DL.nil ?_
        refine DW.sub (T' := [(5, _), (6, _)]) (Sub.cons rfl (Sub.cons rfl Sub.nil)) (Sub.refl _) ?_
        have b1 := lit2 (-1) 10001 (c := 20000) u_0 (u_1 (by omega)) (by omega) (by omega)
        refine DW.seq ?_
        refine DW.region ?_
        refine DL.go0 tauOK hE rfl (GStep.move rfl) rfl rfl ?_
        refine DL.go0 tauOK hE rfl (GStep.move rfl) rfl rfl ?_
        refine DL.go0 tauOK hE rfl (GStep.assign rfl) rfl rfl ?_
        refine DL.go0 tauOK hE rfl (GStep.assign rfl) rfl rfl ?_
        refine DL.nil ?_
        refine DW.sub (T' := [(2, _), (3, _)]) (Sub.cons rfl (Sub.cons rfl Sub.nil)) (Sub.refl _) ?_
        refine DW.ret ?_
        exact ⟨_, _, recN hl (by simp [ha]) (by omega) (by omega) (by omega) (by omega) bl (ba.set b1.1 b1.2 0), by omega, rfl, RetD.ss rfl rfl (by simp [hl]) (by omega) rfl rfl (by simp [ha]) (by omega) (by decide)⟩
      · skip
        refine DW.seq ?_
        refine DW.region ?_
        refine DL.go0 tauOK hE rfl (GStep.binI rfl rfl rfl) rfl rfl ?_
        refine DL.go0 tauOK hE rfl (GStep.assign rfl) rfl rfl ?_
        refine DL.nil ?_
        refine DW.sub (T' := [(5, _), (6, _), (56, _)]) (Sub.cons rfl (Sub.cons rfl (Sub.cons rfl Sub.nil))) (Sub.refl _) ?_
        refine DW.cond rfl (fun h3 => ?_) (fun h3 => ?_)
        · skip
          refine DW.region ?_
          refine DL.go0 tauOK hE rfl (GStep.move rfl) rfl rfl ?_
          refine DL.go1 tauOK hE rfl (G.bs1i rfl rfl rfl) rfl rfl rfl ?_
          refine DL.app1 tauOK [(5, _)] rfl rfl rfl rfl rfl rfl rfl rfl (ha) rfl rfl rfl (by omega) (Sub.cons rfl Sub.nil) rfl ?_
          refine DL.go0 tauOK hE rfl (GStep.assign rfl) rfl rfl ?_
          refine DL.nil ?_
          refine DW.sub (T' := [(5, _), (6, _)]) (Sub.cons rfl (Sub.cons rfl Sub.nil)) (Sub.refl _) ?_
          refine DW.seq ?_
          refine DW.region ?_
          refine DL.go0 tauOK hE rfl (GStep.move rfl) rfl rfl ?_
          refine DL.go0 tauOK hE rfl (GStep.move rfl) rfl rfl ?_
          refine DL.go0 tauOK hE rfl (GStep.assign rfl) rfl rfl ?_
          refine DL.go0 tauOK hE rfl (GStep.assign rfl) rfl rfl ?_
          refine DL.nil ?_
          refine DW.sub (T' := [(2, _), (3, _)]) (Sub.cons rfl (Sub.cons rfl Sub.nil)) (Sub.refl _) ?_
          refine DW.ret ?_
          exact ⟨_, _, recN hl (by simp [ha]) (by omega) (by omega) (by omega) (by omega) bl (ba.snoc (by omega) (by omega)), by omega, rfl, RetD.ss rfl rfl (by simp [hl]) (by omega) rfl rfl (by simp [ha]) (by omega) (by decide)⟩
        · skip
          refine DW.skip ?_
          refine DW.seq ?_
          refine DW.region ?_
          refine DL.go0 tauOK hE rfl (GStep.move rfl) rfl rfl ?_
          refine DL.go0 tauOK hE rfl (GStep.move rfl) rfl rfl ?_
          refine DL.go0 tauOK hE rfl (GStep.assign rfl) rfl rfl ?_
          refine DL.go0 tauOK hE rfl (GStep.assign rfl) rfl rfl ?_
          refine DL.nil ?_
          refine DW.sub (T' := [(2, _), (3, _)]) (Sub.cons rfl (Sub.cons rfl Sub.nil)) (Sub.refl _) ?_
          refine DW.ret ?_
          exact ⟨_, _, recN hl ha (by omega) (by omega) (by omega) (by omega) bl ba, by omega, rfl, RetD.ss rfl rfl (by simp [hl]) (by omega) rfl rfl (by simp [ha]) (by omega) (by decide)⟩
def gDraw (R : RD → Prop) : List AD → Option (RD → Prop)
  | [.sl .u8 1 _ bs] => if bytesB bs = true then some R else none
  | _ => none
theorem gDraw_iff {R R' : RD → Prop} {ds : List AD} (h : gDraw R ds = some R') : R' = R ∧ ∃ n bs, ds = [.sl .u8 1 n bs] ∧ ∀ z ∈ bs, 0 ≤ z ∧ z ≤ 255 := by
  unfold gDraw at h
  split at h
  case h_2 => cases h
  rename_i n bs
  split at h
  case isFalse => cases h
  rename_i hb
  cases h
  refine ⟨rfl, n, bs, rfl, fun z hz => ?_⟩
  have := List.all_eq_true.1 hb z hz
  simpa using this
def MerN (r : RD) : Prop := ∃ (l a : List Int) (k : Int), r = .tup [.row 3 1 l.length l, .row 3 1 a.length a, .v (.int .i64 k)] ∧ 2 ≤ l.length ∧ l.length ≤ 6 ∧ 1 ≤ a.length ∧ a.length ≤ 6 ∧ Bd 20000 l ∧ Bd 20000 a ∧ -1 ≤ k ∧ k ≤ 6
theorem merN {l a : List Int} {n m : Nat} {k : Int} (h1 : l.length = n) (h2 : a.length = m) (h3 : 2 ≤ n) (h4 : n ≤ 6) (h5 : 1 ≤ m) (h6 : m ≤ 6) (h7 : Bd 20000 l) (h8 : Bd 20000 a) (h9 : -1 ≤ k) (h10 : k ≤ 6) : MerN (.tup [.row 3 1 n l, .row 3 1 m a, .v (.int .i64 k)]) := by
  subst h1 h2
  exact ⟨l, a, k, rfl, h3, h4, h5, h6, h7, h8, h9, h10⟩
end Go.Proofs.Ytlhkdgkaafhehaa
