/-
  The draws of cores, walked by the plain machine.
-/
import Derived.Test.YtionljjdfgeggaaDenC
import Derived.Test.YtionljjdfgeggaaPairs
import Derived.Test.YtionljjdfgeggaaPureT
namespace Go.Proofs.Ytionljjdfgeggaa
open Go.RowKit
set_option linter.unusedVariables false
set_option linter.unusedSimpArgs false
def gDraw (R : RD → Prop) : List AD → Option (RD → Prop)
  | [.sl .u8 1 _ bs] => if bytesB bs = true then some R else none
  | _ => none
theorem gDraw_iff {R R' : RD → Prop} {ds : List AD} (h : gDraw R ds = some R') : R' = R ∧ ∃ n bs, ds = [.sl .u8 1 n bs] ∧ ∀ z ∈ bs, 0 ≤ z ∧ z ≤ 255 := by
  unfold gDraw at h
  split at h
  case h_2 => cases h
  rename_i n bs
  split at h
  case isFalse => cases h
  rename_i hb
  cases h
  refine ⟨rfl, n, bs, rfl, fun z hz => ?_⟩
  have := List.all_eq_true.1 hb z hz
  simpa using this
def Bd2 (b : Int) (c : List Pc) : Prop := ∀ k ∈ c, (0 ≤ k.1 ∧ k.1 ≤ b) ∧ (0 ≤ k.2 ∧ k.2 ≤ b)
theorem Bd2.nil {b : Int} : Bd2 b [] := fun k hk => by cases hk
theorem Bd2.snoc {b : Int} {c : List Pc} {x y : Int} (h : Bd2 b c) (h1 : 0 ≤ x ∧ x ≤ b) (h2 : 0 ≤ y ∧ y ≤ b) : Bd2 b (c ++ [(x, y)]) := by
  intro k hk
  rcases List.mem_append.1 hk with hk | hk
  · exact h k hk
  · simp at hk; subst hk; exact ⟨h1, h2⟩
theorem Bd2.at {b : Int} {c : List Pc} (h : Bd2 b c) (hb : 0 ≤ b) (j : Nat) : (0 ≤ (c.getD j (0, 0)).1 ∧ (c.getD j (0, 0)).1 ≤ b) ∧ (0 ≤ (c.getD j (0, 0)).2 ∧ (c.getD j (0, 0)).2 ≤ b) := by
  by_cases hj : j < c.length
  · exact h _ (by simp [List.getD_eq_getElem?_getD, List.getElem?_eq_getElem hj])
  · rw [List.getD_eq_getElem?_getD, List.getElem?_eq_none (by omega)]
    simp; exact hb
theorem Bd2.set {b : Int} {c : List Pc} {x y : Int} (h : Bd2 b c) (h1 : 0 ≤ x ∧ x ≤ b) (h2 : 0 ≤ y ∧ y ≤ b) (j : Nat) : Bd2 b (c.set j (x, y)) := by
  intro k hk
  rcases List.mem_or_eq_of_mem_set hk with hk | hk
  · exact h k hk
  · subst hk; exact ⟨h1, h2⟩
/-- a drawn core, or another list -/
def CoreN (r : RD) : Prop := ∃ c : List Pc, r = .one (.row 38 2 c.length (flat c)) ∧ c.length ≤ 20 ∧ Bd2 31000 c
theorem coreN {c : List Pc} {n : Nat} (h1 : c.length = n) (h3 : n ≤ 20) (h4 : Bd2 31000 c) : CoreN (.one (.row 38 2 n (flat c))) := by
  subst h1
  exact ⟨c, rfl, h3, h4⟩
/-- a drawn core of few pieces -/
def Core6 (r : RD) : Prop := ∃ c : List Pc, r = .one (.row 38 2 c.length (flat c)) ∧ c.length ≤ 6 ∧ Bd2 31000 c
theorem core6 {c : List Pc} {n : Nat} (h1 : c.length = n) (h3 : n ≤ 6) (h4 : Bd2 31000 c) : Core6 (.one (.row 38 2 n (flat c))) := by
  subst h1
  exact ⟨c, rfl, h3, h4⟩
theorem l91Core_dr : DRd Try.prog 34 20 Core6 := by
  have hE : EnvOK Try.prog [] := EnvOK.nil
  refine DRd.of tauOK (fn := Try.f34) Try.func34 rfl (by kernel_rfl) rfl rfl rfl ?_
  intro C gr A bs p hp
  refine DW.seq ?_
  refine DW.region ?_
  refine DL.go0 tauOK hE rfl (GStep.assign rfl) rfl rfl ?_
  refine DL.nil ?_
  refine DW.sub (T' := [(0, _)]) (Sub.cons rfl Sub.nil) (Sub.refl _) ?_
  refine DW.seq ?_
  refine DW.region ?_
  refine DL.go1 tauOK hE rfl (G.bs0p rfl rfl) rfl rfl rfl ?_
  refine DL.go0 tauOK hE rfl (GStep.assign rfl) rfl rfl ?_
  refine DL.nil ?_
  refine DW.sub (T' := [(0, _), (3, _)]) (Sub.cons rfl (Sub.cons rfl Sub.nil)) (Sub.refl _) ?_
  refine DW.seq ?_
  refine DW.region ?_
  refine DL.go0 tauOK hE rfl (GStep.move rfl) rfl rfl ?_
  refine DL.pickE tauOK pick_d rfl rfl rfl rfl rfl rfl rfl (by omega) (by omega) ?_
  intro x x_e x_0 x_1
  refine DL.go0 tauOK hE rfl (G.mul rfl rfl (by omega)) rfl rfl ?_
  refine DL.go0 tauOK hE rfl (GStep.assign rfl) rfl rfl ?_
  refine DL.nil ?_
  refine DW.sub (T' := [(0, _), (3, _), (4, _)]) (Sub.cons rfl (Sub.cons rfl (Sub.cons rfl Sub.nil))) (Sub.refl _) ?_
  refine DW.seq ?_
  refine DW.region ?_
  refine DL.go0 tauOK hE rfl (GStep.move rfl) rfl rfl ?_
  refine DL.pickE tauOK pick_d rfl rfl rfl rfl rfl rfl rfl (by omega) (by omega) ?_
  intro z z_e z_0 z_1
  refine DL.go0 tauOK hE rfl (GStep.assign rfl) rfl rfl ?_
  refine DL.nil ?_
  refine DW.sub (T' := [(0, _), (3, _), (4, _), (5, _)]) (Sub.cons rfl (Sub.cons rfl (Sub.cons rfl (Sub.cons rfl Sub.nil)))) (Sub.refl _) ?_
  refine DW.seq ?_
  refine DW.seq ?_
  refine DW.region ?_
  refine DL.go0 tauOK hE rfl (GStep.assign rfl) rfl rfl ?_
  refine DL.nil ?_
  refine DW.sub (T' := [(0, _), (3, _), (4, _), (5, _), (6, _)]) (Sub.cons rfl (Sub.cons rfl (Sub.cons rfl (Sub.cons rfl (Sub.cons rfl Sub.nil))))) (Sub.refl _) ?_
  refine DW.block ?_
  refine DW.loop (α := Nat × Int × List Pc × Nat) (fun (k, v, c, q) => [(0, .ptr 0 0), (3, .sl 8 0 k), (4, .val (.int .i64 v)), (5, .val (.int .i64 z)), (6, .val (.int .i64 (k : Nat)))]) (fun (k, v, c, q) => [(0, .rdr gr A bs q), (8, .row 38 2 (flat c))]) (fun (k, v, c, q) => k ≤ z.toNat ∧ c.length = k ∧ Bd2 31000 c ∧ (0 ≤ v ∧ v ≤ 40 + 77 * k) ∧ q = p + 2 + 2 * k) (fun (k, v, c, q) => z.toNat - k) (0, x * 10, [], p + 1 + 1) (⟨by omega, rfl, Bd2.nil, by omega, by omega⟩) (Sub.cons rfl (Sub.cons rfl (Sub.cons rfl (Sub.cons rfl (Sub.cons rfl Sub.nil))))) (Sub.cons rfl (Sub.cons rfl Sub.nil)) ?_
  rintro ⟨k, v, c, q⟩ ⟨hk, hc, bc, bv, hq⟩
  skip
  refine DW.seq ?_
  refine DW.seq ?_
  refine DW.region ?_
  refine DL.go0 tauOK hE rfl (GStep.move rfl) rfl rfl ?_
  refine DL.go0 tauOK hE rfl (GStep.move rfl) rfl rfl ?_
  refine DL.go0 tauOK hE rfl (GStep.binI rfl rfl rfl) rfl rfl ?_
  refine DL.nil ?_
  refine DW.sub (T' := [(0, _), (3, _), (4, _), (5, _), (6, _), (16, _)]) (Sub.cons rfl (Sub.cons rfl (Sub.cons rfl (Sub.cons rfl (Sub.cons rfl (Sub.cons rfl Sub.nil)))))) (Sub.refl _) ?_
  refine DW.cond rfl (fun hlt => ?_) (fun hlt => ?_)
  · skip
    have hlt : (k : Int) < z := by simpa using hlt
    refine DW.skip ?_
    refine DW.seq ?_
    refine DW.block ?_
    refine DW.seq ?_
    refine DW.region ?_
    refine DL.go0 tauOK hE rfl (GStep.move rfl) rfl rfl ?_
    refine DL.go0 tauOK hE rfl (GStep.move rfl) rfl rfl ?_
    first | refine DL.go0 tauOK hE rfl (G.add rfl rfl (by omega)) rfl rfl ?_ | refine DL.go0 tauOK hE rfl (GStep.binI rfl rfl rfl) rfl rfl ?_
    refine DL.go0 tauOK hE rfl (GStep.move rfl) rfl rfl ?_
    refine DL.pickE tauOK pick_d rfl rfl rfl rfl rfl rfl rfl (by omega) (by omega) ?_
    intro s s_e s_0 s_1
    first | refine DL.go0 tauOK hE rfl (G.add rfl rfl (by omega)) rfl rfl ?_ | refine DL.go0 tauOK hE rfl (GStep.binI rfl rfl rfl) rfl rfl ?_
    refine DL.go0 tauOK hE rfl (G.b01 rfl rfl rfl) rfl rfl ?_
    refine DL.go1 tauOK hE rfl (GStep.alloc2 rfl) rfl rfl rfl ?_
    refine DL.sb2 tauOK rfl rfl rfl rfl rfl rfl rfl ?_
    refine DL.nil ?_
    refine DW.sub (T' := [(0, _), (3, _), (5, _), (6, _), (7, _)]) (Sub.cons rfl (Sub.cons rfl (Sub.cons rfl (Sub.cons rfl (Sub.cons rfl Sub.nil))))) (Sub.refl _) ?_
    refine DW.seq ?_
    refine DW.region ?_
    refine DL.go0 tauOK hE rfl (GStep.move rfl) rfl rfl ?_
    refine DL.go0 tauOK hE rfl (G.lb2 rfl rfl rfl) rfl rfl ?_
    refine DL.go1 tauOK hE rfl (G.bs1p rfl rfl rfl) rfl rfl rfl ?_
    refine DL.app2 tauOK [(0, _), (5, _), (6, _), (7, _)] rfl rfl rfl rfl rfl rfl rfl rfl (hc) rfl rfl rfl (by omega) (Sub.cons rfl (Sub.cons rfl (Sub.cons rfl (Sub.cons rfl Sub.nil)))) rfl ?_
    refine DL.go0 tauOK hE rfl (GStep.assign rfl) rfl rfl ?_
    refine DL.nil ?_
    refine DW.sub (T' := [(0, _), (3, _), (5, _), (6, _), (7, _)]) (Sub.cons rfl (Sub.cons rfl (Sub.cons rfl (Sub.cons rfl (Sub.cons rfl Sub.nil))))) (Sub.refl _) ?_
    refine DW.drawM tauOK hE pick_d mixed 8 (by kernel_rfl) (by kernel_rfl) ?_
    refine DM.go0 rfl (G.fa rfl rfl rfl (by decide)) rfl rfl ?_
    refine DM.go0 rfl (G.lbf1 rfl rfl rfl) rfl rfl ?_
    refine DM.go0 rfl (GStep.move rfl) rfl rfl ?_
    refine DM.pickE rfl rfl rfl rfl rfl rfl rfl (by omega) (by omega) ?_
    intro w w_e w_0 w_1
    first | refine DM.go0 rfl (G.sub rfl rfl (by omega)) rfl rfl ?_ | refine DM.go0 rfl (GStep.binI rfl rfl rfl) rfl rfl ?_
    refine DM.go0 rfl (G.maxi rfl rfl) rfl rfl ?_
    first | refine DM.go0 rfl (G.add rfl rfl (by omega)) rfl rfl ?_ | refine DM.go0 rfl (GStep.binI rfl rfl rfl) rfl rfl ?_
    refine DM.go0 rfl (GStep.assign rfl) rfl rfl ?_
    refine DM.nil (by kernel_rfl) ?_
    refine DL.nil ?_
    refine DW.sub (T' := [(0, _), (3, _), (4, _), (5, _), (6, _)]) (Sub.cons rfl (Sub.cons rfl (Sub.cons rfl (Sub.cons rfl (Sub.cons rfl Sub.nil))))) (Sub.refl _) ?_
    refine DW.region ?_
    refine DL.go0 tauOK hE rfl (GStep.move rfl) rfl rfl ?_
    first | refine DL.go0 tauOK hE rfl (G.add rfl rfl (by omega)) rfl rfl ?_ | refine DL.go0 tauOK hE rfl (GStep.binI rfl rfl rfl) rfl rfl ?_
    refine DL.go0 tauOK hE rfl (GStep.assign rfl) rfl rfl ?_
    refine DL.nil ?_
    refine ⟨(k + 1, v + 1 + s + max 0 (w - 12), c ++ [(v, v + 1 + s)], q + 1 + 1), ⟨by omega, by simp [hc], bc.snoc (by omega) (by omega), by omega, by omega⟩, by first | omega | (dsimp only; omega), ?_, ?_⟩
    · exact Sub.cons rfl (Sub.cons rfl (Sub.cons rfl (Sub.cons rfl (Sub.cons rfl Sub.nil))))
    · exact Sub.cons rfl (Sub.cons rfl Sub.nil)
  · skip
    have hlt : k = z.toNat := by simp at hlt; omega
    refine DW.exit ?_
    have hz : z = (k : Int) := by omega
    have hk5 : k ≤ 5 := by omega
    clear hlt hk
    have bk1 := bc.at (by omega) (k - 1)
    have b0 := bc.at (by omega) 0
    refine DW.seq ?_
    refine DW.seq ?_
    refine DW.region ?_
    refine DL.go0 tauOK hE rfl (GStep.move rfl) rfl rfl ?_
    refine DL.go0 tauOK hE rfl (GStep.binI rfl rfl rfl) rfl rfl ?_
    refine DL.nil ?_
    refine DW.sub (T' := [(0, _), (3, _), (5, _), (38, _)]) (Sub.cons rfl (Sub.cons rfl (Sub.cons rfl (Sub.cons rfl Sub.nil)))) (Sub.refl _) ?_
    refine DW.cond rfl (fun h0 => ?_) (fun h0 => ?_)
    · skip
      have hk1 : 1 ≤ k := by simp at h0; omega
      refine DW.seq ?_
      refine DW.region ?_
      refine DL.go0 tauOK hE rfl (GStep.move rfl) rfl rfl ?_
      refine DL.pickE tauOK pick_d rfl rfl rfl rfl rfl rfl rfl (by omega) (by omega) ?_
      intro w w_e w_0 w_1
      refine DL.nil ?_
      refine DW.sub (T' := [(3, _), (5, _), (40, _)]) (Sub.cons rfl (Sub.cons rfl (Sub.cons rfl Sub.nil))) (Sub.refl _) ?_
      refine DW.block ?_
      refine DW.seq ?_
      refine DW.region ?_
      refine DL.go0 tauOK hE rfl (GStep.binI rfl rfl rfl) rfl rfl ?_
      refine DL.go0 tauOK hE rfl (GStep.assign rfl) rfl rfl ?_
      refine DL.nil ?_
      refine DW.sub (T' := [(3, _), (5, _), (40, _), (41, _)]) (Sub.cons rfl (Sub.cons rfl (Sub.cons rfl (Sub.cons rfl Sub.nil)))) (Sub.refl _) ?_
      refine DW.cond rfl (fun h1 => ?_) (fun h1 => ?_)
      · skip
        refine DW.region ?_
        refine DL.go0 tauOK hE rfl (GStep.move rfl) rfl rfl ?_
        refine DL.go0 tauOK hE rfl (GStep.move rfl) rfl rfl ?_
        first | refine DL.go0 tauOK hE rfl (G.sub rfl rfl (by omega)) rfl rfl ?_ | refine DL.go0 tauOK hE rfl (GStep.binI rfl rfl rfl) rfl rfl ?_
        refine DL.go0 tauOK hE rfl (GStep.move rfl) rfl rfl ?_
        refine DL.go0 tauOK hE rfl (GStep.move rfl) rfl rfl ?_
        first | refine DL.go0 tauOK hE rfl (G.sub rfl rfl (by omega)) rfl rfl ?_ | refine DL.go0 tauOK hE rfl (GStep.binI rfl rfl rfl) rfl rfl ?_
        refine DL.go0 tauOK hE rfl (G.ia2 (i := k - 1) rfl rfl rfl rfl rfl rfl (by omega) (by omega)) rfl rfl ?_
        refine DL.go0 tauOK hE rfl (G.fa rfl rfl rfl (by decide)) rfl rfl ?_
        first | refine DL.go0 tauOK hE rfl (G.lf0r rfl rfl rfl (by omega)) rfl rfl ?_ | refine DL.go0 tauOK hE rfl (G.lf0w rfl rfl rfl (by omega)) rfl rfl ?_
        refine DL.go0 tauOK hE rfl (G.ia2 (i := k - 1) rfl rfl rfl rfl rfl rfl (by omega) (by omega)) rfl rfl ?_
        refine DL.go0 tauOK hE rfl (G.fa rfl rfl rfl (by decide)) rfl rfl ?_
        refine DL.sf1 tauOK rfl rfl rfl rfl rfl rfl rfl (by omega) ?_
        refine DL.nil ?_
        refine DW.sub (T' := [(3, _)]) (Sub.cons rfl Sub.nil) (Sub.refl _) ?_
        refine DW.seq ?_
        refine DW.region ?_
        refine DL.go0 tauOK hE rfl (GStep.move rfl) rfl rfl ?_
        refine DL.go0 tauOK hE rfl (GStep.assign rfl) rfl rfl ?_
        refine DL.nil ?_
        refine DW.sub (T' := [(2, _)]) (Sub.cons rfl Sub.nil) (Sub.refl _) ?_
        refine DW.ret ?_
        exact ⟨_, _, core6 (by simp [hc]) (by omega) (bc.set (by omega) (by omega) (k - 1)), by omega, rfl, RetD.s1 rfl rfl (by simp [flat_len, hc]) (by omega)⟩
      · skip
        refine DW.seq ?_
        refine DW.region ?_
        refine DL.go0 tauOK hE rfl (GStep.binI rfl rfl rfl) rfl rfl ?_
        refine DL.go0 tauOK hE rfl (GStep.assign rfl) rfl rfl ?_
        refine DL.nil ?_
        refine DW.sub (T' := [(3, _), (5, _), (40, _), (54, _)]) (Sub.cons rfl (Sub.cons rfl (Sub.cons rfl (Sub.cons rfl Sub.nil)))) (Sub.refl _) ?_
        refine DW.cond rfl (fun h2 => ?_) (fun h2 => ?_)
        · skip
          refine DW.region ?_
          refine DL.go0 tauOK hE rfl (GStep.move rfl) rfl rfl ?_
          refine DL.go0 tauOK hE rfl (GStep.move rfl) rfl rfl ?_
          first | refine DL.go0 tauOK hE rfl (G.sub rfl rfl (by omega)) rfl rfl ?_ | refine DL.go0 tauOK hE rfl (GStep.binI rfl rfl rfl) rfl rfl ?_
          refine DL.go0 tauOK hE rfl (G.ia2 (i := k - 1) rfl rfl rfl rfl rfl rfl (by omega) (by omega)) rfl rfl ?_
          refine DL.go0 tauOK hE rfl (G.fa rfl rfl rfl (by decide)) rfl rfl ?_
          refine DL.sf1 tauOK rfl rfl rfl rfl rfl rfl rfl (by omega) ?_
          refine DL.nil ?_
          refine DW.sub (T' := [(3, _)]) (Sub.cons rfl Sub.nil) (Sub.refl _) ?_
          refine DW.seq ?_
          refine DW.region ?_
          refine DL.go0 tauOK hE rfl (GStep.move rfl) rfl rfl ?_
          refine DL.go0 tauOK hE rfl (GStep.assign rfl) rfl rfl ?_
          refine DL.nil ?_
          refine DW.sub (T' := [(2, _)]) (Sub.cons rfl Sub.nil) (Sub.refl _) ?_
          refine DW.ret ?_
          exact ⟨_, _, core6 (by simp [hc]) (by omega) (bc.set (by omega) (by omega) (k - 1)), by omega, rfl, RetD.s1 rfl rfl (by simp [flat_len, hc]) (by omega)⟩
        · skip
          refine DW.seq ?_
          refine DW.region ?_
          refine DL.go0 tauOK hE rfl (GStep.binI rfl rfl rfl) rfl rfl ?_
          refine DL.go0 tauOK hE rfl (GStep.assign rfl) rfl rfl ?_
          refine DL.nil ?_
          refine DW.sub (T' := [(3, _), (61, _)]) (Sub.cons rfl (Sub.cons rfl Sub.nil)) (Sub.refl _) ?_
          refine DW.cond rfl (fun h3 => ?_) (fun h3 => ?_)
          · skip
            refine DW.region ?_
            refine DL.go0 tauOK hE rfl (GStep.move rfl) rfl rfl ?_
            refine DL.go0 tauOK hE rfl (GStep.move rfl) rfl rfl ?_
            refine DL.go0 tauOK hE rfl (G.ia2 (i := 0) rfl rfl rfl rfl rfl rfl rfl (by omega)) rfl rfl ?_
            first | refine DL.go0 tauOK hE rfl (G.le2r rfl rfl rfl (by omega)) rfl rfl ?_ | refine DL.go0 tauOK hE rfl (G.le2w rfl rfl rfl (by omega)) rfl rfl ?_
            refine DL.go1 tauOK hE rfl (G.bs1p rfl rfl rfl) rfl rfl rfl ?_
            refine DL.app2 tauOK [] rfl rfl rfl rfl rfl rfl rfl rfl (hc) rfl rfl rfl (by omega) (Sub.nil) rfl ?_
            refine DL.go0 tauOK hE rfl (GStep.assign rfl) rfl rfl ?_
            refine DL.nil ?_
            refine DW.sub (T' := [(3, _)]) (Sub.cons rfl Sub.nil) (Sub.refl _) ?_
            refine DW.seq ?_
            refine DW.region ?_
            refine DL.go0 tauOK hE rfl (GStep.move rfl) rfl rfl ?_
            refine DL.go0 tauOK hE rfl (GStep.assign rfl) rfl rfl ?_
            refine DL.nil ?_
            refine DW.sub (T' := [(2, _)]) (Sub.cons rfl Sub.nil) (Sub.refl _) ?_
            refine DW.ret ?_
            exact ⟨_, _, core6 (by simp [hc]) (by omega) (bc.snoc (by omega) (by omega)), by omega, rfl, RetD.s1 rfl rfl (by simp [flat_len, hc]) (by omega)⟩
          · skip
            refine DW.skip ?_
            refine DW.seq ?_
            refine DW.region ?_
            refine DL.go0 tauOK hE rfl (GStep.move rfl) rfl rfl ?_
            refine DL.go0 tauOK hE rfl (GStep.assign rfl) rfl rfl ?_
            refine DL.nil ?_
            refine DW.sub (T' := [(2, _)]) (Sub.cons rfl Sub.nil) (Sub.refl _) ?_
            refine DW.ret ?_
            exact ⟨_, _, core6 hc (by omega) bc, by omega, rfl, RetD.s1 rfl rfl (by simp [flat_len, hc]) (by omega)⟩
    · skip
      refine DW.skip ?_
      refine DW.seq ?_
      refine DW.region ?_
      refine DL.go0 tauOK hE rfl (GStep.move rfl) rfl rfl ?_
      refine DL.go0 tauOK hE rfl (GStep.assign rfl) rfl rfl ?_
      refine DL.nil ?_
      refine DW.sub (T' := [(2, _)]) (Sub.cons rfl Sub.nil) (Sub.refl _) ?_
      refine DW.ret ?_
      exact ⟨_, _, core6 hc (by omega) bc, by omega, rfl, RetD.s1 rfl rfl (by simp [flat_len, hc]) (by omega)⟩
def SpanN (r : RD) : Prop := ∃ t b : Int, r = .tup [.v (.int .i64 t), .v (.int .i64 b)] ∧ (0 ≤ t ∧ t ≤ 150) ∧ (-1 ≤ b ∧ b ≤ 30001)
theorem lit3c (a b c : Int) {k : Int} (h0 : 0 ≤ k) (h1 : k < 3) {lo hi : Int} (ha : lo ≤ a ∧ a ≤ hi) (hb : lo ≤ b ∧ b ≤ hi) (hc : lo ≤ c ∧ c ≤ hi) : lo ≤ ([a, b, c] : List Int).getD k.toNat 0 ∧ ([a, b, c] : List Int).getD k.toNat 0 ≤ hi := by
  have : k = 0 ∨ k = 1 ∨ k = 2 := by omega
  rcases this with rfl | rfl | rfl
  · exact ha
  · exact hb
  · exact hc
theorem l91Span_dr : DRd Try.prog 35 10 SpanN := by
  have hE : EnvOK Try.prog [] := EnvOK.nil
  refine DRd.of tauOK (fn := Try.f35) Try.func35 rfl (by kernel_rfl) rfl rfl rfl ?_
  intro C gr A bs p hp
  refine DW.seq ?_
  refine DW.region ?_
  refine DL.go0 tauOK hE rfl (GStep.assign rfl) rfl rfl ?_
  refine DL.go0 tauOK hE rfl (GStep.assign rfl) rfl rfl ?_
  refine DL.nil ?_
  refine DW.sub (T' := [(0, _)]) (Sub.cons rfl Sub.nil) (Sub.refl _) ?_
  refine DW.seq ?_
  refine DW.region ?_
  refine DL.go0 tauOK hE rfl (GStep.move rfl) rfl rfl ?_
  refine DL.pickE tauOK pick_d rfl rfl rfl rfl rfl rfl rfl (by omega) (by omega) ?_
  intro x x_e x_0 x_1
  refine DL.go0 tauOK hE rfl (GStep.assign rfl) rfl rfl ?_
  refine DL.nil ?_
  refine DW.sub (T' := [(0, _), (4, _)]) (Sub.cons rfl (Sub.cons rfl Sub.nil)) (Sub.refl _) ?_
  refine DW.seq ?_
  refine DW.seq ?_
  refine DW.region ?_
  refine DL.go0 tauOK hE rfl (GStep.move rfl) rfl rfl ?_
  refine DL.pickE tauOK pick_d rfl rfl rfl rfl rfl rfl rfl (by omega) (by omega) ?_
  intro y y_e y_0 y_1
  refine DL.go0 tauOK hE rfl (GStep.binI rfl rfl rfl) rfl rfl ?_
  refine DL.nil ?_
  refine DW.sub (T' := [(0, _), (4, _), (9, _)]) (Sub.cons rfl (Sub.cons rfl (Sub.cons rfl Sub.nil))) (Sub.refl _) ?_
  refine DW.cond rfl (fun h1 => ?_) (fun h1 => ?_)
  · skip
    refine DW.seq ?_
    refine DW.drawM tauOK hE pick_d mixed 10 (by kernel_rfl) (by kernel_rfl) ?_
    refine DM.go0 rfl (GStep.move rfl) rfl rfl ?_
    refine DM.go0 rfl (GStep.move rfl) rfl rfl ?_
    first | refine DM.go0 rfl (G.sub rfl rfl (by omega)) rfl rfl ?_ | refine DM.go0 rfl (GStep.binI rfl rfl rfl) rfl rfl ?_
    refine DM.go1 rfl (GStep.bslice1 (l := [_, _, _]) rfl rfl (by decide) rfl rfl) rfl rfl rfl ?_
    refine DM.go0 rfl (GStep.move rfl) rfl rfl ?_
    refine DM.pickE rfl rfl rfl rfl rfl rfl rfl (by omega) (by omega) ?_
    intro z z_e z_0 z_1
    refine DM.go0 rfl (G.ia1 (i := z.toNat) rfl rfl rfl rfl rfl rfl (by omega) (by omega)) rfl rfl ?_
    first | refine DM.go0 rfl (G.le1r rfl rfl rfl (by simp; omega)) rfl rfl ?_ | refine DM.go0 rfl (G.le1w rfl rfl rfl (by simp; omega)) rfl rfl ?_
    refine DM.go0 rfl (GStep.assign rfl) rfl rfl ?_
    refine DM.go0 rfl (GStep.assign rfl) rfl rfl ?_
    refine DM.nil (by kernel_rfl) ?_
    refine DL.nil ?_
    refine DW.sub (T' := [(2, _), (3, _)]) (Sub.cons rfl (Sub.cons rfl Sub.nil)) (Sub.refl _) ?_
    refine DW.ret ?_
    have b2 := lit3c (x - 1) 30001 30000 z_0 (z_1 (by omega)) (lo := -1) (hi := 30001) (by omega) (by omega) (by omega)
    exact ⟨_, _, ⟨x, _, rfl, by omega, b2⟩, by omega, rfl, RetD.vv rfl rfl rfl rfl⟩
  · skip
    refine DW.skip ?_
    refine DW.seq ?_
    refine DW.region ?_
    refine DL.go0 tauOK hE rfl (GStep.move rfl) rfl rfl ?_
    refine DL.go0 tauOK hE rfl (GStep.move rfl) rfl rfl ?_
    refine DL.go0 tauOK hE rfl (GStep.move rfl) rfl rfl ?_
    refine DL.pickE tauOK pick_d rfl rfl rfl rfl rfl rfl rfl (by omega) (by omega) ?_
    intro z z_e z_0 z_1
    first | refine DL.go0 tauOK hE rfl (G.add rfl rfl (by omega)) rfl rfl ?_ | refine DL.go0 tauOK hE rfl (GStep.binI rfl rfl rfl) rfl rfl ?_
    refine DL.go0 tauOK hE rfl (GStep.assign rfl) rfl rfl ?_
    refine DL.go0 tauOK hE rfl (GStep.assign rfl) rfl rfl ?_
    refine DL.nil ?_
    refine DW.sub (T' := [(2, _), (3, _)]) (Sub.cons rfl (Sub.cons rfl Sub.nil)) (Sub.refl _) ?_
    refine DW.ret ?_
    exact ⟨_, _, ⟨x, _, rfl, by omega, by omega⟩, by omega, rfl, RetD.vv rfl rfl rfl rfl⟩
theorem RetD.svv {τ : List (Nat × TK)} {T : DT} {H : DH} {t1 t2 t3 id1 m1 sz1 : Nat} {e1 : TypeId} {l1 : List Int} {x y : Value} (h1 : lk T t1 = some (.sl id1 0 m1)) (hg : lk H id1 = some (.row e1 sz1 l1)) (hl : l1.length = m1 * sz1) (hs : 0 < sz1) (h3 : lk T t2 = some (.val x)) (hx : x.ownBlock = none) (h4 : lk T t3 = some (.val y)) (hy : y.ownBlock = none) : RetD τ [.tmp t1, .tmp t2, .tmp t3] (.tup [.row e1 sz1 m1 l1, .v x, .v y]) T H :=
  ⟨by simp, by simp, ⟨RV.row h1 hg hl hs, RV.v h3 hx, RV.v h4 hy, trivial⟩, by simp [rvIds_s h1, rvIds_v h3, rvIds_v h4]⟩
def BetN (r : RD) : Prop := ∃ (c : List Pc) (t b : Int), r = .tup [.row 38 2 c.length (flat c), .v (.int .i64 t), .v (.int .i64 b)] ∧ c.length ≤ 20 ∧ Bd2 31000 c ∧ (0 ≤ t ∧ t ≤ 150) ∧ (-1 ≤ b ∧ b ≤ 30001)
theorem DrawCoreBetween_dr : DRelF Try.prog 13 (gDraw BetN) := by
  have hE : EnvOK Try.prog [] := EnvOK.nil
  refine DRelF.of tauOK (fn := Try.f13) Try.func13 rfl (by kernel_rfl) rfl rfl ?_
  intro C ds R hg hl
  obtain ⟨rfl, n, bs, rfl, hb⟩ := gDraw_iff hg
  refine ⟨by simp, ?_⟩
  obtain ⟨hn, hm, _⟩ := hl
  obtain rfl : n = bs.length := by omega
  clear hn
  refine DW.seq ?_
  refine DW.region ?_
  refine DL.go0 tauOK hE rfl (GStep.assign rfl) rfl rfl ?_
  refine DL.go0 tauOK hE rfl (GStep.assign rfl) rfl rfl ?_
  refine DL.go0 tauOK hE rfl (GStep.assign rfl) rfl rfl ?_
  refine DL.nil ?_
  refine DW.sub (T' := [(0, _)]) (Sub.cons rfl Sub.nil) (Sub.refl _) ?_
  refine DW.seq ?_
  refine DW.region ?_
  refine DL.go0 tauOK hE rfl (GStep.move rfl) rfl rfl ?_
  refine DL.open l6Open_d rfl rfl rfl rfl rfl rfl rfl rfl rfl hb ?_
  intro gr A
  refine DL.go0 tauOK hE rfl (GStep.assign rfl) rfl rfl ?_
  refine DL.nil ?_
  refine DW.sub (T' := [(5, _)]) (Sub.cons rfl Sub.nil) (Sub.refl _) ?_
  refine DW.seq ?_
  refine DW.region ?_
  refine DL.go0 tauOK hE rfl (GStep.move rfl) rfl rfl ?_
  refine DL.rd l91Core_dr rfl rfl rfl rfl rfl rfl rfl (by omega) ?_
  rintro r q ⟨c, rfl, e1, bc⟩ hq
  refine ⟨by simp [resN, rws], ?_⟩
  show DL _ _ _ _ _ _ ((12, .sl 12 0 _) :: _) ((12, .row _ _ _) :: _)
  refine DL.go0 tauOK hE rfl (GStep.assign rfl) rfl rfl ?_
  refine DL.nil ?_
  refine DW.sub (T' := [(5, _), (6, _)]) (Sub.cons rfl (Sub.cons rfl Sub.nil)) (Sub.refl _) ?_
  refine DW.seq ?_
  refine DW.region ?_
  refine DL.go0 tauOK hE rfl (GStep.move rfl) rfl rfl ?_
  refine DL.rd l91Span_dr rfl rfl rfl rfl rfl rfl rfl (by omega) ?_
  rintro r q2 ⟨t, b, rfl, ht, hb2⟩ hq2
  refine ⟨by simp [resN, rws], ?_⟩
  show DL _ _ _ _ _ _ ((15, .tup [.v _, .v _]) :: _) (_)
  refine DL.go0 tauOK hE rfl (GStep.move rfl) rfl rfl ?_
  refine DL.go0 tauOK hE rfl (GStep.extr rfl rfl) rfl rfl ?_
  refine DL.go0 tauOK hE rfl (GStep.extr rfl rfl) rfl rfl ?_
  refine DL.go0 tauOK hE rfl (GStep.assign rfl) rfl rfl ?_
  refine DL.go0 tauOK hE rfl (GStep.assign rfl) rfl rfl ?_
  refine DL.nil ?_
  refine DW.sub (T' := [(6, _), (7, _), (8, _)]) (Sub.cons rfl (Sub.cons rfl (Sub.cons rfl Sub.nil))) (Sub.refl _) ?_
  refine DW.seq ?_
  refine DW.region ?_
  refine DL.go0 tauOK hE rfl (GStep.move rfl) rfl rfl ?_
  refine DL.go0 tauOK hE rfl (GStep.move rfl) rfl rfl ?_
  refine DL.go0 tauOK hE rfl (GStep.move rfl) rfl rfl ?_
  refine DL.go0 tauOK hE rfl (GStep.assign rfl) rfl rfl ?_
  refine DL.go0 tauOK hE rfl (GStep.assign rfl) rfl rfl ?_
  refine DL.go0 tauOK hE rfl (GStep.assign rfl) rfl rfl ?_
  refine DL.nil ?_
  refine DW.sub (T' := [(2, _), (3, _), (4, _)]) (Sub.cons rfl (Sub.cons rfl (Sub.cons rfl Sub.nil))) (Sub.refl _) ?_
  refine DW.ret ?_
  exact ⟨_, ⟨c, t, b, rfl, by omega, bc, ht, hb2⟩, RetD.svv rfl rfl (by rw [flat_len]) (by omega) rfl rfl rfl rfl⟩
end Go.Proofs.Ytionljjdfgeggaa
