/-
  The draws of curves, walked by the plain machine.
-/
import Derived.Test.YtidcomcnieggaaaDenC
import Derived.Test.YtidcomcnieggaaaPairs
import Derived.Test.YtidcomcnieggaaaPureK
namespace Go.Proofs.Ytidcomcnieggaaa
open Go.RowKit
set_option linter.unusedVariables false
set_option linter.unusedSimpArgs false

def gDraw (R : RD → Prop) : List AD → Option (RD → Prop)
  | [.sl .u8 1 _ bs] => if bytesB bs = true then some R else none
  | _ => none
theorem gDraw_iff {R R' : RD → Prop} {ds : List AD} (h : gDraw R ds = some R') : R' = R ∧ ∃ n bs, ds = [.sl .u8 1 n bs] ∧ ∀ z ∈ bs, 0 ≤ z ∧ z ≤ 255 := by
  unfold gDraw at h
  split at h
  case h_2 => cases h
  rename_i n bs
  split at h
  case isFalse => cases h
  rename_i hb
  cases h
  refine ⟨rfl, n, bs, rfl, fun z hz => ?_⟩
  have := List.all_eq_true.1 hb z hz
  simpa using this
def Bd2 (b : Int) (c : List Kn) : Prop := ∀ k ∈ c, (0 ≤ k.1 ∧ k.1 ≤ b) ∧ (0 ≤ k.2 ∧ k.2 ≤ b)
theorem Bd2.one {b x y : Int} (h1 : 0 ≤ x ∧ x ≤ b) (h2 : 0 ≤ y ∧ y ≤ b) : Bd2 b [(x, y)] := fun k hk => by simp at hk; subst hk; exact ⟨h1, h2⟩
theorem Bd2.snoc {b : Int} {c : List Kn} {x y : Int} (h : Bd2 b c) (h1 : 0 ≤ x ∧ x ≤ b) (h2 : 0 ≤ y ∧ y ≤ b) : Bd2 b (c ++ [(x, y)]) := by
  intro k hk
  rcases List.mem_append.1 hk with hk | hk
  · exact h k hk
  · simp at hk; subst hk; exact ⟨h1, h2⟩
theorem Bd2.at {b : Int} {c : List Kn} (h : Bd2 b c) (hb : 0 ≤ b) (j : Nat) : (0 ≤ (c.getD j (0, 0)).1 ∧ (c.getD j (0, 0)).1 ≤ b) ∧ (0 ≤ (c.getD j (0, 0)).2 ∧ (c.getD j (0, 0)).2 ≤ b) := by
  by_cases hj : j < c.length
  · exact h _ (by simp [List.getD_eq_getElem?_getD, List.getElem?_eq_getElem hj])
  · rw [List.getD_eq_getElem?_getD, List.getElem?_eq_none (by omega)]
    simp; exact hb
theorem Bd2.set {b : Int} {c : List Kn} {x y : Int} (h : Bd2 b c) (h1 : 0 ≤ x ∧ x ≤ b) (h2 : 0 ≤ y ∧ y ≤ b) (j : Nat) : Bd2 b (c.set j (x, y)) := by
  intro k hk
  rcases List.mem_or_eq_of_mem_set hk with hk | hk
  · exact h k hk
  · subst hk; exact ⟨h1, h2⟩
theorem Bd2.mono {a b : Int} {c : List Kn} (h : Bd2 a c) (hab : a ≤ b) : Bd2 b c := fun k hk => by have := h k hk; omega
theorem Bd2.take {b : Int} {c : List Kn} (h : Bd2 b c) (m : Nat) : Bd2 b (c.take m) := fun k hk => h k (List.mem_of_mem_take hk)
/-- a drawn curve, or another list -/
def CurN (b : Int) (r : RD) : Prop := ∃ c : List Kn, r = .one (.row 25 2 c.length (flat c)) ∧ 1 ≤ c.length ∧ c.length ≤ 9 ∧ Bd2 b c
theorem curN {c : List Kn} {n : Nat} {b : Int} (h1 : c.length = n) (h2 : 1 ≤ n) (h3 : n ≤ 9) (h4 : Bd2 b c) : CurN b (.one (.row 25 2 n (flat c))) := by
  subst h1
  exact ⟨c, rfl, h2, h3, h4⟩
theorem l91Curve_dr : DRd Try.prog 36 20 (CurN 31000) := by
  have hE : EnvOK Try.prog [] := EnvOK.nil
  refine DRd.of tauOK (fn := Try.f36) Try.func36 rfl (by kernel_rfl) rfl rfl rfl ?_
  intro C gr A bs p hp
  refine DW.seq ?_
  refine DW.region ?_
  refine DL.go0 tauOK hE rfl (GStep.assign rfl) rfl rfl ?_
  refine DL.nil ?_
  refine DW.sub (T' := [(0, _)]) (Sub.cons rfl Sub.nil) (Sub.refl _) ?_
  refine DW.seq ?_
  refine DW.region ?_
  refine DL.go0 tauOK hE rfl (GStep.move rfl) rfl rfl ?_
  refine DL.pickE tauOK pick_d rfl rfl rfl rfl rfl rfl rfl (by omega) (by omega) ?_
  intro x x_e x_0 x_1
  refine DL.go0 tauOK hE rfl (GStep.move rfl) rfl rfl ?_
  refine DL.pickE tauOK pick_d rfl rfl rfl rfl rfl rfl rfl (by omega) (by omega) ?_
  intro y y_e y_0 y_1
  refine DL.go0 tauOK hE rfl (G.b01 rfl rfl rfl) rfl rfl ?_
  refine DL.go1 tauOK hE rfl (GStep.alloc2 rfl) rfl rfl rfl ?_
  refine DL.sb2 tauOK rfl rfl rfl rfl rfl rfl rfl ?_
  refine DL.nil ?_
  refine DW.sub (T' := [(0, _), (3, _)]) (Sub.cons rfl (Sub.cons rfl Sub.nil)) (Sub.refl _) ?_
  refine DW.seq ?_
  refine DW.region ?_
  refine DL.go0 tauOK hE rfl (G.lb2 rfl rfl rfl) rfl rfl ?_
  refine DL.go1 tauOK hE rfl (G.bs1p rfl rfl rfl) rfl rfl rfl ?_
  refine DL.go0 tauOK hE rfl (GStep.assign rfl) rfl rfl ?_
  refine DL.nil ?_
  refine DW.sub (T' := [(0, _), (3, _), (4, _)]) (Sub.cons rfl (Sub.cons rfl (Sub.cons rfl Sub.nil))) (Sub.refl _) ?_
  refine DW.seq ?_
  refine DW.region ?_
  refine DL.go0 tauOK hE rfl (GStep.move rfl) rfl rfl ?_
  refine DL.pickE tauOK pick_d rfl rfl rfl rfl rfl rfl rfl (by omega) (by omega) ?_
  intro z z_e z_0 z_1
  first | refine DL.go0 tauOK hE rfl (G.add rfl rfl (by omega)) rfl rfl ?_ | refine DL.go0 tauOK hE rfl (GStep.binI rfl rfl rfl) rfl rfl ?_
  refine DL.go0 tauOK hE rfl (GStep.assign rfl) rfl rfl ?_
  refine DL.nil ?_
  refine DW.sub (T' := [(0, _), (3, _), (4, _), (5, _)]) (Sub.cons rfl (Sub.cons rfl (Sub.cons rfl (Sub.cons rfl Sub.nil)))) (Sub.refl _) ?_
  refine DW.seq ?_
  refine DW.seq ?_
  refine DW.region ?_
  refine DL.go0 tauOK hE rfl (GStep.assign rfl) rfl rfl ?_
  refine DL.nil ?_
  refine DW.sub (T' := [(0, _), (3, _), (4, _), (5, _), (6, _)]) (Sub.cons rfl (Sub.cons rfl (Sub.cons rfl (Sub.cons rfl (Sub.cons rfl Sub.nil))))) (Sub.refl _) ?_
  refine DW.block ?_
  refine DW.loop (α := Nat × Int × Int × List Kn × Nat) (fun (k, u, v, c, q) => [(0, .ptr 0 0), (3, .ptr 3 0), (4, .sl 13 0 (k + 1)), (5, .val (.int .i64 (1 + z))), (6, .val (.int .i64 (k : Nat)))]) (fun (k, u, v, c, q) => [(0, .rdr gr A bs q), (3, .box 25 [u, v]), (13, .row 25 2 (flat c))]) (fun (k, u, v, c, q) => k ≤ (1 + z).toNat ∧ c.length = k + 1 ∧ Bd2 31000 c ∧ (0 ≤ u ∧ u ≤ 20 + 12 * k) ∧ (0 ≤ v ∧ v ≤ 20 + 12 * k) ∧ q = p + 3 + 2 * k) (fun (k, u, v, c, q) => (1 + z).toNat - k) (0, x, y, [(x, y)], p + 1 + 1 + 1) (⟨by omega, rfl, Bd2.one (by omega) (by omega), by omega, by omega, by omega⟩) (Sub.cons rfl (Sub.cons rfl (Sub.cons rfl (Sub.cons rfl (Sub.cons rfl Sub.nil))))) (Sub.cons rfl (Sub.cons rfl (Sub.cons rfl Sub.nil))) ?_
  rintro ⟨k, u, v, c, q⟩ ⟨hk, hc, bc, bu, bv, hq⟩
  skip
  refine DW.seq ?_
  refine DW.seq ?_
  refine DW.region ?_
  refine DL.go0 tauOK hE rfl (GStep.move rfl) rfl rfl ?_
  refine DL.go0 tauOK hE rfl (GStep.move rfl) rfl rfl ?_
  refine DL.go0 tauOK hE rfl (GStep.binI rfl rfl rfl) rfl rfl ?_
  refine DL.nil ?_
  refine DW.sub (T' := [(0, _), (3, _), (4, _), (5, _), (6, _), (19, _)]) (Sub.cons rfl (Sub.cons rfl (Sub.cons rfl (Sub.cons rfl (Sub.cons rfl (Sub.cons rfl Sub.nil)))))) (Sub.refl _) ?_
  refine DW.cond rfl (fun hlt => ?_) (fun hlt => ?_)
  · skip
    have hlt : (k : Int) < 1 + z := by simpa using hlt
    refine DW.skip ?_
    refine DW.seq ?_
    refine DW.block ?_
    refine DW.seq ?_
    refine DW.drawM tauOK hE pick_d mixed 13 (by kernel_rfl) (by kernel_rfl) ?_
    refine DM.go0 rfl (G.fa rfl rfl rfl (by decide)) rfl rfl ?_
    refine DM.go0 rfl (G.lbf0 rfl rfl rfl) rfl rfl ?_
    first | refine DM.go0 rfl (G.add rfl rfl (by omega)) rfl rfl ?_ | refine DM.go0 rfl (GStep.binI rfl rfl rfl) rfl rfl ?_
    refine DM.go0 rfl (GStep.move rfl) rfl rfl ?_
    refine DM.pickE rfl rfl rfl rfl rfl rfl rfl (by omega) (by omega) ?_
    intro s s_e s_0 s_1
    first | refine DM.go0 rfl (G.add rfl rfl (by omega)) rfl rfl ?_ | refine DM.go0 rfl (GStep.binI rfl rfl rfl) rfl rfl ?_
    refine DM.go0 rfl (G.fa rfl rfl rfl (by decide)) rfl rfl ?_
    refine DM.go0 rfl (G.lbf1 rfl rfl rfl) rfl rfl ?_
    first | refine DM.go0 rfl (G.add rfl rfl (by omega)) rfl rfl ?_ | refine DM.go0 rfl (GStep.binI rfl rfl rfl) rfl rfl ?_
    refine DM.go0 rfl (GStep.move rfl) rfl rfl ?_
    refine DM.pickE rfl rfl rfl rfl rfl rfl rfl (by omega) (by omega) ?_
    intro t t_e t_0 t_1
    first | refine DM.go0 rfl (G.add rfl rfl (by omega)) rfl rfl ?_ | refine DM.go0 rfl (GStep.binI rfl rfl rfl) rfl rfl ?_
    refine DM.go0 rfl (G.b01 rfl rfl rfl) rfl rfl ?_
    refine DM.nil (by kernel_rfl) ?_
    refine DL.sb2 tauOK rfl rfl rfl rfl rfl rfl rfl ?_
    refine DL.nil ?_
    refine DW.sub (T' := [(0, _), (3, _), (4, _), (5, _), (6, _)]) (Sub.cons rfl (Sub.cons rfl (Sub.cons rfl (Sub.cons rfl (Sub.cons rfl Sub.nil))))) (Sub.refl _) ?_
    refine DW.region ?_
    refine DL.go0 tauOK hE rfl (GStep.move rfl) rfl rfl ?_
    refine DL.go0 tauOK hE rfl (G.lb2 rfl rfl rfl) rfl rfl ?_
    refine DL.go1 tauOK hE rfl (G.bs1p rfl rfl rfl) rfl rfl rfl ?_
    refine DL.app2 tauOK [(0, _), (3, _), (5, _), (6, _)] rfl rfl rfl rfl rfl rfl rfl rfl (hc) rfl rfl rfl (by omega) (Sub.cons rfl (Sub.cons rfl (Sub.cons rfl (Sub.cons rfl Sub.nil)))) rfl ?_
    refine DL.go0 tauOK hE rfl (GStep.assign rfl) rfl rfl ?_
    refine DL.nil ?_
    refine DW.sub (T' := [(0, _), (3, _), (4, _), (5, _), (6, _)]) (Sub.cons rfl (Sub.cons rfl (Sub.cons rfl (Sub.cons rfl (Sub.cons rfl Sub.nil))))) (Sub.refl _) ?_
    refine DW.region ?_
    refine DL.go0 tauOK hE rfl (GStep.move rfl) rfl rfl ?_
    first | refine DL.go0 tauOK hE rfl (G.add rfl rfl (by omega)) rfl rfl ?_ | refine DL.go0 tauOK hE rfl (GStep.binI rfl rfl rfl) rfl rfl ?_
    refine DL.go0 tauOK hE rfl (GStep.assign rfl) rfl rfl ?_
    refine DL.nil ?_
    refine ⟨(k + 1, u + 1 + s, v + 1 + t, c ++ [(u + 1 + s, v + 1 + t)], q + 1 + 1), ⟨by omega, by simp [hc], bc.snoc (by omega) (by omega), by omega, by omega, by omega⟩, by first | omega | (dsimp only; omega), ?_, ?_⟩
    · exact Sub.cons rfl (Sub.cons rfl (Sub.cons rfl (Sub.cons rfl (Sub.cons rfl Sub.nil))))
    · exact Sub.cons rfl (Sub.cons rfl (Sub.cons rfl Sub.nil))
  · skip
    have hlt : k = (1 + z).toNat := by simp at hlt; omega
    refine DW.exit ?_
    have hk1 : 1 ≤ k := by omega
    have hk5 : k ≤ 5 := by omega
    have hz : z = (k : Int) - 1 := by omega
    clear hlt hk
    have bk := bc.at (by omega) k
    have bk1 := bc.at (by omega) (k - 1)
    refine DW.seq ?_
    refine DW.seq ?_
    refine DW.region ?_
    refine DL.go0 tauOK hE rfl (GStep.move rfl) rfl rfl ?_
    refine DL.pickE tauOK pick_d rfl rfl rfl rfl rfl rfl rfl (by omega) (by omega) ?_
    intro w w_e w_0 w_1
    refine DL.nil ?_
    refine DW.sub (T' := [(4, _), (5, _), (40, _)]) (Sub.cons rfl (Sub.cons rfl (Sub.cons rfl Sub.nil))) (Sub.refl _) ?_
    refine DW.block ?_
    refine DW.seq ?_
    refine DW.region ?_
    refine DL.go0 tauOK hE rfl (GStep.binI rfl rfl rfl) rfl rfl ?_
    refine DL.go0 tauOK hE rfl (GStep.assign rfl) rfl rfl ?_
    refine DL.nil ?_
    refine DW.sub (T' := [(4, _), (5, _), (40, _), (41, _)]) (Sub.cons rfl (Sub.cons rfl (Sub.cons rfl (Sub.cons rfl Sub.nil)))) (Sub.refl _) ?_
    refine DW.cond rfl (fun h1 => ?_) (fun h1 => ?_)
    · skip
      refine DW.region ?_
      refine DL.go0 tauOK hE rfl (GStep.move rfl) rfl rfl ?_
      refine DL.go0 tauOK hE rfl (GStep.move rfl) rfl rfl ?_
      refine DL.go0 tauOK hE rfl (GStep.move rfl) rfl rfl ?_
      refine DL.go0 tauOK hE rfl (GStep.move rfl) rfl rfl ?_
      first | refine DL.go0 tauOK hE rfl (G.sub rfl rfl (by omega)) rfl rfl ?_ | refine DL.go0 tauOK hE rfl (GStep.binI rfl rfl rfl) rfl rfl ?_
      refine DL.go0 tauOK hE rfl (G.ia2 (i := k - 1) rfl rfl rfl rfl rfl rfl (by omega) (by omega)) rfl rfl ?_
      refine DL.go0 tauOK hE rfl (G.fa rfl rfl rfl (by decide)) rfl rfl ?_
      first | refine DL.go0 tauOK hE rfl (G.lf1r rfl rfl rfl (by omega)) rfl rfl ?_ | refine DL.go0 tauOK hE rfl (G.lf1w rfl rfl rfl (by omega)) rfl rfl ?_
      refine DL.go0 tauOK hE rfl (G.ia2 (i := k) rfl rfl rfl rfl rfl rfl (by omega) (by omega)) rfl rfl ?_
      refine DL.go0 tauOK hE rfl (G.fa rfl rfl rfl (by decide)) rfl rfl ?_
      refine DL.sf1 tauOK rfl rfl rfl rfl rfl rfl rfl (by omega) ?_
      refine DL.nil ?_
      refine DW.sub (T' := [(4, _)]) (Sub.cons rfl Sub.nil) (Sub.refl _) ?_
      refine DW.seq ?_
      refine DW.region ?_
      refine DL.go0 tauOK hE rfl (GStep.move rfl) rfl rfl ?_
      refine DL.go0 tauOK hE rfl (GStep.assign rfl) rfl rfl ?_
      refine DL.nil ?_
      refine DW.sub (T' := [(2, _)]) (Sub.cons rfl Sub.nil) (Sub.refl _) ?_
      refine DW.ret ?_
      exact ⟨_, _, curN (by simp [hc]) (by omega) (by omega) (bc.set (by omega) (by omega) k), by omega, rfl, RetD.s1 rfl rfl (by simp [flat_len, hc]) (by omega)⟩
    · skip
      refine DW.seq ?_
      refine DW.region ?_
      refine DL.go0 tauOK hE rfl (GStep.binI rfl rfl rfl) rfl rfl ?_
      refine DL.go0 tauOK hE rfl (GStep.assign rfl) rfl rfl ?_
      refine DL.nil ?_
      refine DW.sub (T' := [(4, _), (5, _), (40, _), (53, _)]) (Sub.cons rfl (Sub.cons rfl (Sub.cons rfl (Sub.cons rfl Sub.nil)))) (Sub.refl _) ?_
      refine DW.cond rfl (fun h2 => ?_) (fun h2 => ?_)
      · skip
        refine DW.seq ?_
        refine DW.region ?_
        refine DL.go0 tauOK hE rfl (GStep.move rfl) rfl rfl ?_
        refine DL.go0 tauOK hE rfl (GStep.slice (l := 0) (h := 1) rfl rfl rfl rfl rfl rfl rfl (rfl) (by omega) (by omega) (by omega)) rfl rfl ?_
        refine DL.go0 tauOK hE rfl (GStep.assign rfl) rfl rfl ?_
        refine DL.nil ?_
        refine DW.sub (T' := [(2, _)]) (Sub.cons rfl Sub.nil) (Sub.refl _) ?_
        refine DW.trunc 13 1 (by decide) rfl (by simp [flat_len]; omega) rfl ?_
        refine DW.ret ?_
        have e : List.take (1 * 2) (flat c) = flat (c.take 1) := flat_take c 1
        rw [e]
        exact ⟨_, _, curN (by simp [hc]) (by omega) (by omega) (bc.take 1), by omega, rfl, RetD.s1 rfl rfl (by simp [flat_len, hc]) (by omega)⟩
      · skip
        refine DW.seq ?_
        refine DW.region ?_
        refine DL.go0 tauOK hE rfl (GStep.binI rfl rfl rfl) rfl rfl ?_
        refine DL.go0 tauOK hE rfl (GStep.assign rfl) rfl rfl ?_
        refine DL.nil ?_
        refine DW.sub (T' := [(4, _), (5, _), (57, _)]) (Sub.cons rfl (Sub.cons rfl (Sub.cons rfl Sub.nil))) (Sub.refl _) ?_
        refine DW.cond rfl (fun h3 => ?_) (fun h3 => ?_)
        · skip
          refine DW.region ?_
          refine DL.go0 tauOK hE rfl (GStep.move rfl) rfl rfl ?_
          refine DL.go0 tauOK hE rfl (GStep.move rfl) rfl rfl ?_
          refine DL.go0 tauOK hE rfl (G.ia2 (i := k) rfl rfl rfl rfl rfl rfl (by omega) (by omega)) rfl rfl ?_
          refine DL.go0 tauOK hE rfl (G.fa rfl rfl rfl (by decide)) rfl rfl ?_
          refine DL.sf0 tauOK rfl rfl rfl rfl rfl rfl rfl (by omega) ?_
          refine DL.nil ?_
          refine DW.sub (T' := [(4, _)]) (Sub.cons rfl Sub.nil) (Sub.refl _) ?_
          refine DW.seq ?_
          refine DW.region ?_
          refine DL.go0 tauOK hE rfl (GStep.move rfl) rfl rfl ?_
          refine DL.go0 tauOK hE rfl (GStep.assign rfl) rfl rfl ?_
          refine DL.nil ?_
          refine DW.sub (T' := [(2, _)]) (Sub.cons rfl Sub.nil) (Sub.refl _) ?_
          refine DW.ret ?_
          exact ⟨_, _, curN (by simp [hc]) (by omega) (by omega) (bc.set (by omega) (by omega) k), by omega, rfl, RetD.s1 rfl rfl (by simp [flat_len, hc]) (by omega)⟩
        · skip
          refine DW.skip ?_
          refine DW.seq ?_
          refine DW.region ?_
          refine DL.go0 tauOK hE rfl (GStep.move rfl) rfl rfl ?_
          refine DL.go0 tauOK hE rfl (GStep.assign rfl) rfl rfl ?_
          refine DL.nil ?_
          refine DW.sub (T' := [(2, _)]) (Sub.cons rfl Sub.nil) (Sub.refl _) ?_
          refine DW.ret ?_
          exact ⟨_, _, curN hc (by omega) (by omega) bc, by omega, rfl, RetD.s1 rfl rfl (by simp [flat_len, hc]) (by omega)⟩
theorem DrawCurveTurn_dr : DRelF Try.prog 18 (gDraw (CurN 40000)) := by
  have hE : EnvOK Try.prog [] := EnvOK.nil
  refine DRelF.of tauOK (fn := Try.f18) Try.func18 rfl (by kernel_rfl) rfl rfl ?_
  intro C ds R hg hl
  obtain ⟨rfl, n, bs, rfl, hb⟩ := gDraw_iff hg
  refine ⟨by simp, ?_⟩
  obtain ⟨hn, hm, _⟩ := hl
  obtain rfl : n = bs.length := by omega
  clear hn
  refine DW.seq ?_
  refine DW.region ?_
  refine DL.go0 tauOK hE rfl (GStep.assign rfl) rfl rfl ?_
  refine DL.nil ?_
  refine DW.sub (T' := [(0, _)]) (Sub.cons rfl Sub.nil) (Sub.refl _) ?_
  refine DW.seq ?_
  refine DW.region ?_
  refine DL.go0 tauOK hE rfl (GStep.move rfl) rfl rfl ?_
  refine DL.open l6Open_d rfl rfl rfl rfl rfl rfl rfl rfl rfl hb ?_
  intro gr A
  refine DL.rd l91Curve_dr rfl rfl rfl rfl rfl rfl rfl (by omega) ?_
  rintro r q ⟨c, rfl, e1, e2, bc⟩ hq
  refine ⟨by simp [resN, rws], ?_⟩
  show DL _ _ _ _ _ _ ((5, .sl 5 0 _) :: _) ((5, .row _ _ _) :: _)
  refine DL.go0 tauOK hE rfl (GStep.assign rfl) rfl rfl ?_
  refine DL.nil ?_
  refine DW.sub (T' := [(2, _)]) (Sub.cons rfl Sub.nil) (Sub.refl _) ?_
  refine DW.ret ?_
  exact ⟨_, curN rfl e1 e2 (bc.mono (by omega)), RetD.s1 rfl rfl (by simp [flat_len]) (by omega)⟩
end Go.Proofs.Ytidcomcnieggaaa
