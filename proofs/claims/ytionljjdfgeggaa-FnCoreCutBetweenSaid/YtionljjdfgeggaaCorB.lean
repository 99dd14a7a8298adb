/-
  What of a core lies between two depths: both functions, walked by the plain machine.
-/
import Derived.Test.YtionljjdfgeggaaCorD
namespace Go.Proofs.Ytionljjdfgeggaa
open Go.RowKit
set_option linter.unusedVariables false
set_option linter.unusedSimpArgs false
def btwO (c : List Pc) (t b : Int) : Bool := coreB c && spanB t b
def btwC (c : List Pc) (t b : Int) : List Pc := if btwO c t b = true then btw t b c else []
def gBtw : List AD → Option RD
  | [.sl .i64 2 _ l, .v (.int .i64 t), .v (.int .i64 b)] => some (.tup [.row 38 2 (btwC (unflat l) t b).length (flat (btwC (unflat l) t b)), .v (.bool (btwO (unflat l) t b))])
  | _ => none
theorem gBtw_flat {n : Nat} {c : List Pc} {t b : Int} : gBtw [.sl .i64 2 n (flat c), .v (.int .i64 t), .v (.int .i64 b)] = some (.tup [.row 38 2 (btwC c t b).length (flat (btwC c t b)), .v (.bool (btwO c t b))]) := by simp [gBtw, unflat_flat]
theorem btwC_yes {c : List Pc} {t b : Int} (h1 : coreB c = true) (h2 : spanB t b = true) : btwO c t b = true ∧ btwC c t b = btw t b c := by
  have : btwO c t b = true := by unfold btwO; rw [h1, h2]; rfl
  exact ⟨this, if_pos this⟩
theorem btwC_no {c : List Pc} {t b : Int} (h : ¬ (coreB c = true ∧ spanB t b = true)) : btwO c t b = false ∧ btwC c t b = [] := by
  have : btwO c t b = false := by
    rw [Bool.eq_false_iff]; intro h'; unfold btwO at h'; rw [Bool.and_eq_true] at h'; exact h h'
  exact ⟨this, if_neg (by rw [this]; simp)⟩
theorem gBtw_no {n : Nat} {c : List Pc} {t b : Int} (h : ¬ (coreB c = true ∧ spanB t b = true)) : gBtw [.sl .i64 2 n (flat c), .v (.int .i64 t), .v (.int .i64 b)] = some (.tup [.row 38 2 0 [], .v (.bool false)]) := by
  rw [gBtw_flat, (btwC_no h).1, (btwC_no h).2]; rfl
theorem gBtw_yes {n : Nat} {c : List Pc} {t b : Int} (h1 : coreB c = true) (h2 : spanB t b = true) : gBtw [.sl .i64 2 n (flat c), .v (.int .i64 t), .v (.int .i64 b)] = some (.tup [.row 38 2 (btw t b c).length (flat (btw t b c)), .v (.bool true)]) := by
  rw [gBtw_flat, (btwC_yes h1 h2).1, (btwC_yes h1 h2).2]
theorem gOv_eq {a b c d : Int} (h : (0 ≤ a ∧ a ≤ 30000) ∧ (0 ≤ b ∧ b ≤ 30000) ∧ (0 ≤ c ∧ c ≤ 30000) ∧ (0 ≤ d ∧ d ≤ 30000)) : gOverlap [.v (.agg #[.int .i64 a, .int .i64 b]), .v (.agg #[.int .i64 c, .int .i64 d])] = some (.one (.v (.int .i64 (ovl c d a b)))) := if_pos h
theorem spanB_iff {t b : Int} : spanB t b = true ↔ 0 ≤ t ∧ t ≤ b ∧ b ≤ 30000 := by unfold spanB; rw [decide_eq_true_eq]
theorem btw_app (t b : Int) : ∀ c d : List Pc, btw t b (c ++ d) = btw t b c ++ btw t b d
  | [], d => rfl
  | p :: r, d => by rw [List.cons_append, btw_cons, btw_cons, btw_app t b r d, List.append_assoc]
theorem btw_succ {c : List Pc} {k : Nat} (t b : Int) (h : k < c.length) : btw t b (c.take (k + 1)) = btw t b (c.take k) ++ (if max (c.getD k (0, 0)).1 t < min (c.getD k (0, 0)).2 b then [(max (c.getD k (0, 0)).1 t, min (c.getD k (0, 0)).2 b)] else []) := by
  rw [List.take_succ_eq_append_getElem h, btw_app, getD_of_lt' c h, btw_cons]
  simp [btw]
theorem btwO_iff {c : List Pc} {t b : Int} (h : btwO c t b = true) : coreB c = true ∧ spanB t b = true := by
  unfold btwO at h
  rwa [Bool.and_eq_true] at h
theorem coreBetween_di : DFun Try.prog 14 gBtw := by
  have hE : EnvOK Try.prog [(18, gCore), (36, gIsSpan), (37, gOverlap)] := EnvOK.cons coreValid_di (EnvOK.cons isSpan_di (EnvOK.cons overlap_di EnvOK.nil))
  refine DFun.of tauOK (fn := Try.f14) Try.func14 rfl (by kernel_rfl) rfl rfl ?_
  intro C ds r hg hl
  unfold gBtw at hg
  split at hg
  case h_2 => cases hg
  rename_i n l t b
  cases hg
  refine ⟨by simp, ?_⟩
  obtain ⟨hn, hm, _⟩ := hl
  obtain ⟨c, rfl, rfl⟩ := flat_ex hn
  clear hn
  rw [unflat_flat]
  refine DW.seq ?_
  refine DW.region ?_
  refine DL.go0 tauOK hE rfl (GStep.assign rfl) rfl rfl ?_
  refine DL.go0 tauOK hE rfl (GStep.assign rfl) rfl rfl ?_
  refine DL.nil ?_
  refine DW.sub (T' := [(0, _), (1, _), (2, _)]) (Sub.cons rfl (Sub.cons rfl (Sub.cons rfl Sub.nil))) (Sub.refl _) ?_
  cases hc : coreB c
  · rw [(btwC_no (c := c) (t := t) (b := b) (by rw [hc]; simp)).1, (btwC_no (c := c) (t := t) (b := b) (by rw [hc]; simp)).2]
    refine DW.seq ?_
    refine DW.seq ?_
    refine DW.region ?_
    refine DL.go0 tauOK hE rfl (GStep.move rfl) rfl rfl ?_
    refine DL.go0 tauOK hE rfl (G.fl (G.call (v := .val _) (news := []) rfl (All2.cons (ArgOf.ro rfl rfl (by simp [flat_len])) All2.nil) (gCore_flat) rfl rfl) (hc)) rfl rfl ?_
    refine DL.go0 tauOK hE rfl (GStep.not rfl) rfl rfl ?_
    refine DL.go0 tauOK hE rfl (GStep.move rfl) rfl rfl ?_
    first | refine DL.skip rfl rfl rfl ?_ | refine DL.go0 tauOK hE rfl (GStep.move rfl) rfl rfl ?_
    first | refine DL.skip rfl rfl rfl ?_ | refine DL.go0 tauOK hE rfl (GStep.move rfl) rfl rfl ?_
    first | refine DL.skip rfl rfl rfl ?_ | refine DL.go0 tauOK hE rfl (G.call (v := .val _) (news := []) rfl (All2.cons (ArgOf.v rfl) (All2.cons (ArgOf.v rfl) All2.nil)) (rfl) rfl rfl) rfl rfl ?_
    first | refine DL.skip rfl rfl rfl ?_ | refine DL.go0 tauOK hE rfl (GStep.not rfl) rfl rfl ?_
    first | refine DL.go0 tauOK hE rfl (GStep.pickT rfl rfl) rfl rfl ?_ | refine DL.go0 tauOK hE rfl (GStep.pickF rfl rfl) rfl rfl ?_
    refine DL.nil ?_
    refine DW.sub (T' := [(0, _), (1, _), (2, _), (21, _)]) (Sub.cons rfl (Sub.cons rfl (Sub.cons rfl (Sub.cons rfl Sub.nil)))) (Sub.refl _) ?_
    refine DW.condT rfl ?_
    refine DW.seq ?_
    refine DW.region ?_
    refine DL.go0 tauOK hE rfl (GStep.assign rfl) rfl rfl ?_
    refine DL.go0 tauOK hE rfl (GStep.assign rfl) rfl rfl ?_
    refine DL.nil ?_
    refine DW.sub (T' := [(6, _), (7, _)]) (Sub.cons rfl (Sub.cons rfl Sub.nil)) (Sub.refl _) ?_
    refine DW.ret ?_
    exact RetD.nv rfl (by omega) rfl rfl
  · cases hs : spanB t b
    · rw [(btwC_no (c := c) (t := t) (b := b) (by rw [hs]; simp)).1, (btwC_no (c := c) (t := t) (b := b) (by rw [hs]; simp)).2]
      skip
      refine DW.seq ?_
      refine DW.seq ?_
      refine DW.region ?_
      refine DL.go0 tauOK hE rfl (GStep.move rfl) rfl rfl ?_
      refine DL.go0 tauOK hE rfl (G.tr (G.call (v := .val _) (news := []) rfl (All2.cons (ArgOf.ro rfl rfl (by simp [flat_len])) All2.nil) (gCore_flat) rfl rfl) (hc)) rfl rfl ?_
      refine DL.go0 tauOK hE rfl (GStep.not rfl) rfl rfl ?_
      refine DL.go0 tauOK hE rfl (GStep.move rfl) rfl rfl ?_
      first | refine DL.skip rfl rfl rfl ?_ | refine DL.go0 tauOK hE rfl (GStep.move rfl) rfl rfl ?_
      first | refine DL.skip rfl rfl rfl ?_ | refine DL.go0 tauOK hE rfl (GStep.move rfl) rfl rfl ?_
      first | refine DL.skip rfl rfl rfl ?_ | refine DL.go0 tauOK hE rfl (G.fl (G.call (v := .val _) (news := []) rfl (All2.cons (ArgOf.v rfl) (All2.cons (ArgOf.v rfl) All2.nil)) (rfl) rfl rfl) (hs)) rfl rfl ?_
      first | refine DL.skip rfl rfl rfl ?_ | refine DL.go0 tauOK hE rfl (GStep.not rfl) rfl rfl ?_
      first | refine DL.go0 tauOK hE rfl (GStep.pickT rfl rfl) rfl rfl ?_ | refine DL.go0 tauOK hE rfl (GStep.pickF rfl rfl) rfl rfl ?_
      refine DL.nil ?_
      refine DW.sub (T' := [(0, _), (1, _), (2, _), (21, _)]) (Sub.cons rfl (Sub.cons rfl (Sub.cons rfl (Sub.cons rfl Sub.nil)))) (Sub.refl _) ?_
      refine DW.condT rfl ?_
      refine DW.seq ?_
      refine DW.region ?_
      refine DL.go0 tauOK hE rfl (GStep.assign rfl) rfl rfl ?_
      refine DL.go0 tauOK hE rfl (GStep.assign rfl) rfl rfl ?_
      refine DL.nil ?_
      refine DW.sub (T' := [(6, _), (7, _)]) (Sub.cons rfl (Sub.cons rfl Sub.nil)) (Sub.refl _) ?_
      refine DW.ret ?_
      exact RetD.nv rfl (by omega) rfl rfl
    · rw [(btwC_yes hc hs).1, (btwC_yes hc hs).2]
      have hR := (coreB_iff.1 hc).1
      have hle := (coreB_iff.1 hc).2
      have hS := spanB_iff.1 hs
      skip
      refine DW.seq ?_
      refine DW.seq ?_
      refine DW.region ?_
      refine DL.go0 tauOK hE rfl (GStep.move rfl) rfl rfl ?_
      refine DL.go0 tauOK hE rfl (G.tr (G.call (v := .val _) (news := []) rfl (All2.cons (ArgOf.ro rfl rfl (by simp [flat_len])) All2.nil) (gCore_flat) rfl rfl) (hc)) rfl rfl ?_
      refine DL.go0 tauOK hE rfl (GStep.not rfl) rfl rfl ?_
      refine DL.go0 tauOK hE rfl (GStep.move rfl) rfl rfl ?_
      first | refine DL.skip rfl rfl rfl ?_ | refine DL.go0 tauOK hE rfl (GStep.move rfl) rfl rfl ?_
      first | refine DL.skip rfl rfl rfl ?_ | refine DL.go0 tauOK hE rfl (GStep.move rfl) rfl rfl ?_
      first | refine DL.skip rfl rfl rfl ?_ | refine DL.go0 tauOK hE rfl (G.tr (G.call (v := .val _) (news := []) rfl (All2.cons (ArgOf.v rfl) (All2.cons (ArgOf.v rfl) All2.nil)) (rfl) rfl rfl) (hs)) rfl rfl ?_
      first | refine DL.skip rfl rfl rfl ?_ | refine DL.go0 tauOK hE rfl (GStep.not rfl) rfl rfl ?_
      first | refine DL.go0 tauOK hE rfl (GStep.pickT rfl rfl) rfl rfl ?_ | refine DL.go0 tauOK hE rfl (GStep.pickF rfl rfl) rfl rfl ?_
      refine DL.nil ?_
      refine DW.sub (T' := [(0, _), (1, _), (2, _), (21, _)]) (Sub.cons rfl (Sub.cons rfl (Sub.cons rfl (Sub.cons rfl Sub.nil)))) (Sub.refl _) ?_
      refine DW.condF rfl ?_
      refine DW.skip ?_
      refine DW.seq ?_
      refine DW.region ?_
      refine DL.go0 tauOK hE rfl (GStep.assign rfl) rfl rfl ?_
      refine DL.nil ?_
      refine DW.sub (T' := [(0, _), (1, _), (2, _), (8, _)]) (Sub.cons rfl (Sub.cons rfl (Sub.cons rfl (Sub.cons rfl Sub.nil)))) (Sub.refl _) ?_
      refine DW.seq ?_
      refine DW.seq ?_
      refine DW.region ?_
      refine DL.go0 tauOK hE rfl (GStep.move rfl) rfl rfl ?_
      first | refine DL.go0 tauOK hE rfl (GStep.len rfl rfl rfl) rfl rfl ?_ | refine DL.go0 tauOK hE rfl (GStep.lenNil rfl rfl) rfl rfl ?_
      refine DL.go0 tauOK hE rfl (GStep.move rfl) rfl rfl ?_
      refine DL.nil ?_
      refine DW.sub (T' := [(1, _), (2, _), (8, _), (22, _), (23, _), (24, _)]) (Sub.cons rfl (Sub.cons rfl (Sub.cons rfl (Sub.cons rfl (Sub.cons rfl (Sub.cons rfl Sub.nil)))))) (Sub.refl _) ?_
      refine DW.nil 8 900 38 2 (by omega) rfl rfl ?_
      refine DW.block ?_
      refine DW.loop (α := Nat × List Pc × Nat) (fun (k, o, m) => [(1, .val (.int .i64 t)), (2, .val (.int .i64 b)), (8, .sl 900 0 m), (22, .sl 0 0 c.length), (23, .val (.int .i64 c.length)), (24, .val (.int .i64 (k : Nat)))]) (fun (k, o, m) => [(0, .ro .i64 2 (flat c)), (900, .row 38 2 (flat o))]) (fun (k, o, m) => k ≤ c.length ∧ o = btw t b (c.take k) ∧ o.length = m ∧ m ≤ k) (fun (k, o, m) => c.length - k) (0, [], 0) (⟨by omega, rfl, rfl, by omega⟩) (Sub.cons rfl (Sub.cons rfl (Sub.cons rfl (Sub.cons rfl (Sub.cons rfl (Sub.cons rfl Sub.nil)))))) (Sub.cons rfl (Sub.cons rfl Sub.nil)) ?_
      rintro ⟨k, o, m⟩ ⟨hk, ho, hm2, hmk⟩
      skip
      refine DW.seq ?_
      refine DW.region ?_
      refine DL.go0 tauOK hE rfl (GStep.binI rfl rfl rfl) rfl rfl ?_
      refine DL.nil ?_
      refine DW.sub (T' := [(1, _), (2, _), (8, _), (22, _), (23, _), (24, _), (25, _)]) (Sub.cons rfl (Sub.cons rfl (Sub.cons rfl (Sub.cons rfl (Sub.cons rfl (Sub.cons rfl (Sub.cons rfl Sub.nil))))))) (Sub.refl _) ?_
      refine DW.seq ?_
      refine DW.cond rfl (fun hlt => ?_) (fun hlt => ?_)
      · skip
        have hlt : k < c.length := by simpa using hlt
        have ek := btw_succ t b hlt
        have bp := core_at hR hlt
        have ov : ovl t b (c.getD k (0, 0)).1 (c.getD k (0, 0)).2 = max 0 (min b (c.getD k (0, 0)).2 - max t (c.getD k (0, 0)).1) := rfl
        refine DW.skip ?_
        refine DW.seq ?_
        refine DW.block ?_
        refine DW.seq ?_
        refine DW.region ?_
        refine DL.go0 tauOK hE rfl (G.ia2 rfl rfl rfl rfl rfl rfl rfl (by omega)) rfl rfl ?_
        first | refine DL.go0 tauOK hE rfl (G.le2r rfl rfl rfl (by omega)) rfl rfl ?_ | refine DL.go0 tauOK hE rfl (G.le2w rfl rfl rfl (by omega)) rfl rfl ?_
        refine DL.go1 tauOK hE rfl (GStep.alloc2 rfl) rfl rfl rfl ?_
        refine DL.sb2 tauOK rfl rfl rfl rfl rfl rfl rfl ?_
        refine DL.nil ?_
        refine DW.sub (T' := [(1, _), (2, _), (8, _), (10, _), (22, _), (23, _), (24, _)]) (Sub.cons rfl (Sub.cons rfl (Sub.cons rfl (Sub.cons rfl (Sub.cons rfl (Sub.cons rfl (Sub.cons rfl Sub.nil))))))) (Sub.refl _) ?_
        refine DW.seq ?_
        refine DW.region ?_
        refine DL.go0 tauOK hE rfl (G.lb2 rfl rfl rfl) rfl rfl ?_
        refine DL.go0 tauOK hE rfl (GStep.move rfl) rfl rfl ?_
        refine DL.go0 tauOK hE rfl (GStep.move rfl) rfl rfl ?_
        refine DL.go0 tauOK hE rfl (G.b01 rfl rfl rfl) rfl rfl ?_
        refine DL.go0 tauOK hE rfl (G.call (v := .val _) (news := []) rfl (All2.cons (ArgOf.v rfl) (All2.cons (ArgOf.v rfl) All2.nil)) (gOv_eq ⟨by omega, by omega, by omega, by omega⟩) rfl rfl) rfl rfl ?_
        refine DL.go0 tauOK hE rfl (GStep.assign rfl) rfl rfl ?_
        refine DL.nil ?_
        refine DW.sub (T' := [(1, _), (2, _), (8, _), (10, _), (11, _), (22, _), (23, _), (24, _)]) (Sub.cons rfl (Sub.cons rfl (Sub.cons rfl (Sub.cons rfl (Sub.cons rfl (Sub.cons rfl (Sub.cons rfl (Sub.cons rfl Sub.nil)))))))) (Sub.refl _) ?_
        by_cases hp : max (c.getD k (0, 0)).1 t < min (c.getD k (0, 0)).2 b
        · skip
          rw [if_pos hp, ← ho] at ek
          have e2 : o ++ [(max (c.getD k (0, 0)).1 t, max (c.getD k (0, 0)).1 t + ovl t b (c.getD k (0, 0)).1 (c.getD k (0, 0)).2)] = btw t b (c.take (k + 1)) := by
            rw [ek, show max (c.getD k (0, 0)).1 t + ovl t b (c.getD k (0, 0)).1 (c.getD k (0, 0)).2 = min (c.getD k (0, 0)).2 b by omega]
          refine DW.seq ?_
          refine DW.region ?_
          refine DL.go0 tauOK hE rfl (GStep.move rfl) rfl rfl ?_
          refine DL.go0 tauOK hE rfl (G.tr (GStep.binI rfl rfl rfl) (by rw [decide_eq_true_eq]; omega)) rfl rfl ?_
          refine DL.nil ?_
          refine DW.sub (T' := [(1, _), (2, _), (8, _), (10, _), (11, _), (22, _), (23, _), (24, _), (34, _)]) (Sub.cons rfl (Sub.cons rfl (Sub.cons rfl (Sub.cons rfl (Sub.cons rfl (Sub.cons rfl (Sub.cons rfl (Sub.cons rfl (Sub.cons rfl Sub.nil))))))))) (Sub.refl _) ?_
          refine DW.condT rfl ?_
          refine DW.seq ?_
          refine DW.region ?_
          refine DL.go0 tauOK hE rfl (G.fa rfl rfl rfl (by decide)) rfl rfl ?_
          refine DL.go0 tauOK hE rfl (G.lbf0 rfl rfl rfl) rfl rfl ?_
          refine DL.go0 tauOK hE rfl (GStep.move rfl) rfl rfl ?_
          refine DL.go0 tauOK hE rfl (G.maxi rfl rfl) rfl rfl ?_
          refine DL.go0 tauOK hE rfl (GStep.assign rfl) rfl rfl ?_
          refine DL.nil ?_
          refine DW.sub (T' := [(1, _), (2, _), (8, _), (11, _), (12, _), (22, _), (23, _), (24, _)]) (Sub.cons rfl (Sub.cons rfl (Sub.cons rfl (Sub.cons rfl (Sub.cons rfl (Sub.cons rfl (Sub.cons rfl (Sub.cons rfl Sub.nil)))))))) (Sub.refl _) ?_
          refine DW.region ?_
          refine DL.go0 tauOK hE rfl (GStep.move rfl) rfl rfl ?_
          refine DL.go0 tauOK hE rfl (GStep.move rfl) rfl rfl ?_
          refine DL.go0 tauOK hE rfl (GStep.move rfl) rfl rfl ?_
          refine DL.go0 tauOK hE rfl (GStep.move rfl) rfl rfl ?_
          first | refine DL.go0 tauOK hE rfl (G.add rfl rfl (by omega)) rfl rfl ?_ | refine DL.go0 tauOK hE rfl (GStep.binI rfl rfl rfl) rfl rfl ?_
          refine DL.go0 tauOK hE rfl (G.b01 rfl rfl rfl) rfl rfl ?_
          refine DL.go1 tauOK hE rfl (G.bs1p rfl rfl rfl) rfl rfl rfl ?_
          refine DL.app2 tauOK [(1, _), (2, _), (22, _), (23, _), (24, _)] rfl rfl rfl rfl rfl rfl rfl rfl (hm2) rfl rfl rfl (by omega) (Sub.cons rfl (Sub.cons rfl (Sub.cons rfl (Sub.cons rfl (Sub.cons rfl Sub.nil))))) rfl ?_
          refine DL.go0 tauOK hE rfl (GStep.assign rfl) rfl rfl ?_
          refine DL.nil ?_
          refine DW.sub (T' := [(1, _), (2, _), (8, _), (22, _), (23, _), (24, _)]) (Sub.cons rfl (Sub.cons rfl (Sub.cons rfl (Sub.cons rfl (Sub.cons rfl (Sub.cons rfl Sub.nil)))))) (Sub.refl _) ?_
          refine DW.region ?_
          first | refine DL.go0 tauOK hE rfl (G.add rfl rfl (by omega)) rfl rfl ?_ | refine DL.go0 tauOK hE rfl (GStep.binI rfl rfl rfl) rfl rfl ?_
          refine DL.go0 tauOK hE rfl (GStep.move rfl) rfl rfl ?_
          refine DL.nil ?_
          refine ⟨(k + 1, _, m + 1), ⟨by omega, e2, by simp [hm2], by omega⟩, by first | omega | (dsimp only; omega), ?_, ?_⟩
          · exact Sub.cons rfl (Sub.cons rfl (Sub.cons rfl (Sub.cons rfl (Sub.cons rfl (Sub.cons rfl Sub.nil)))))
          · exact Sub.cons rfl (Sub.cons rfl Sub.nil)
        · skip
          rw [if_neg hp, ← ho, List.append_nil] at ek
          refine DW.seq ?_
          refine DW.region ?_
          refine DL.go0 tauOK hE rfl (GStep.move rfl) rfl rfl ?_
          refine DL.go0 tauOK hE rfl (G.fl (GStep.binI rfl rfl rfl) (by rw [decide_eq_false_iff_not]; omega)) rfl rfl ?_
          refine DL.nil ?_
          refine DW.sub (T' := [(1, _), (2, _), (8, _), (10, _), (11, _), (22, _), (23, _), (24, _), (34, _)]) (Sub.cons rfl (Sub.cons rfl (Sub.cons rfl (Sub.cons rfl (Sub.cons rfl (Sub.cons rfl (Sub.cons rfl (Sub.cons rfl (Sub.cons rfl Sub.nil))))))))) (Sub.refl _) ?_
          refine DW.condF rfl ?_
          refine DW.skip ?_
          refine DW.region ?_
          first | refine DL.go0 tauOK hE rfl (G.add rfl rfl (by omega)) rfl rfl ?_ | refine DL.go0 tauOK hE rfl (GStep.binI rfl rfl rfl) rfl rfl ?_
          refine DL.go0 tauOK hE rfl (GStep.move rfl) rfl rfl ?_
          refine DL.nil ?_
          refine ⟨(k + 1, o, m), ⟨by omega, ek.symm, hm2, by omega⟩, by first | omega | (dsimp only; omega), ?_, ?_⟩
          · exact Sub.cons rfl (Sub.cons rfl (Sub.cons rfl (Sub.cons rfl (Sub.cons rfl (Sub.cons rfl Sub.nil)))))
          · exact Sub.cons rfl (Sub.cons rfl Sub.nil)
      · skip
        have hlt : k = c.length := by simp at hlt; omega
        subst hlt
        rw [List.take_length] at ho
        subst ho
        subst hm2
        refine DW.exit ?_
        refine DW.seq ?_
        refine DW.region ?_
        refine DL.go0 tauOK hE rfl (GStep.move rfl) rfl rfl ?_
        refine DL.go0 tauOK hE rfl (GStep.assign rfl) rfl rfl ?_
        refine DL.go0 tauOK hE rfl (GStep.assign rfl) rfl rfl ?_
        refine DL.nil ?_
        refine DW.sub (T' := [(6, _), (7, _)]) (Sub.cons rfl (Sub.cons rfl Sub.nil)) (Sub.refl _) ?_
        refine DW.ret ?_
        exact RetD.sv rfl rfl (by rw [flat_len]) (by omega) rfl rfl
theorem coreBetween_ds : DFun Try.prog 15 gBtw := by
  have hE : EnvOK Try.prog [(38, gCore), (39, gIn)] := EnvOK.cons coreValid_ds (EnvOK.cons l6In_ds EnvOK.nil)
  refine DFun.of tauOK (fn := Try.f15) Try.func15 rfl (by kernel_rfl) rfl rfl ?_
  intro C ds r hg hl
  unfold gBtw at hg
  split at hg
  case h_2 => cases hg
  rename_i n l t b
  cases hg
  refine ⟨by simp, ?_⟩
  obtain ⟨hn, hm, _⟩ := hl
  obtain ⟨c, rfl, rfl⟩ := flat_ex hn
  clear hn
  rw [unflat_flat]
  refine DW.seq ?_
  refine DW.region ?_
  refine DL.go0 tauOK hE rfl (GStep.assign rfl) rfl rfl ?_
  refine DL.go0 tauOK hE rfl (GStep.assign rfl) rfl rfl ?_
  refine DL.nil ?_
  refine DW.sub (T' := [(0, _), (1, _), (2, _)]) (Sub.cons rfl (Sub.cons rfl (Sub.cons rfl Sub.nil))) (Sub.refl _) ?_
  refine DW.seq ?_
  refine DW.region ?_
  refine DL.go1 tauOK hE rfl (G.bs0p rfl rfl) rfl rfl rfl ?_
  refine DL.go0 tauOK hE rfl (GStep.assign rfl) rfl rfl ?_
  refine DL.nil ?_
  refine DW.sub (T' := [(0, _), (1, _), (2, _), (8, _)]) (Sub.cons rfl (Sub.cons rfl (Sub.cons rfl (Sub.cons rfl Sub.nil)))) (Sub.refl _) ?_
  cases hc : coreB c
  · rw [(btwC_no (c := c) (t := t) (b := b) (by rw [hc]; simp)).1, (btwC_no (c := c) (t := t) (b := b) (by rw [hc]; simp)).2]
    refine DW.seq ?_
    refine DW.seq ?_
    refine DW.region ?_
    refine DL.go0 tauOK hE rfl (GStep.move rfl) rfl rfl ?_
    refine DL.go0 tauOK hE rfl (G.fl (G.call (v := .val _) (news := []) rfl (All2.cons (ArgOf.ro rfl rfl (by simp [flat_len])) All2.nil) (gCore_flat) rfl rfl) (hc)) rfl rfl ?_
    refine DL.go0 tauOK hE rfl (GStep.not rfl) rfl rfl ?_
    refine DL.go0 tauOK hE rfl (GStep.move rfl) rfl rfl ?_
    first | refine DL.skip rfl rfl rfl ?_ | refine DL.go0 tauOK hE rfl (GStep.move rfl) rfl rfl ?_
    first | refine DL.skip rfl rfl rfl ?_ | refine DL.go0 tauOK hE rfl (G.call (v := .val _) (news := []) rfl (All2.cons (ArgOf.v rfl) (All2.cons (ArgOf.v rfl) (All2.cons (ArgOf.v rfl) All2.nil))) (rfl) rfl rfl) rfl rfl ?_
    first | refine DL.skip rfl rfl rfl ?_ | refine DL.go0 tauOK hE rfl (GStep.not rfl) rfl rfl ?_
    first | refine DL.go0 tauOK hE rfl (GStep.pickT rfl rfl) rfl rfl ?_ | refine DL.go0 tauOK hE rfl (GStep.pickF rfl rfl) rfl rfl ?_
    refine DL.go0 tauOK hE rfl (GStep.move rfl) rfl rfl ?_
    first | refine DL.skip rfl rfl rfl ?_ | refine DL.go0 tauOK hE rfl (GStep.move rfl) rfl rfl ?_
    first | refine DL.skip rfl rfl rfl ?_ | refine DL.go0 tauOK hE rfl (GStep.move rfl) rfl rfl ?_
    first | refine DL.skip rfl rfl rfl ?_ | refine DL.go0 tauOK hE rfl (G.call (v := .val _) (news := []) rfl (All2.cons (ArgOf.v rfl) (All2.cons (ArgOf.v rfl) (All2.cons (ArgOf.v rfl) All2.nil))) (rfl) rfl rfl) rfl rfl ?_
    first | refine DL.skip rfl rfl rfl ?_ | refine DL.go0 tauOK hE rfl (GStep.not rfl) rfl rfl ?_
    first | refine DL.go0 tauOK hE rfl (GStep.pickT rfl rfl) rfl rfl ?_ | refine DL.go0 tauOK hE rfl (GStep.pickF rfl rfl) rfl rfl ?_
    refine DL.nil ?_
    refine DW.sub (T' := [(0, _), (1, _), (2, _), (8, _), (25, _)]) (Sub.cons rfl (Sub.cons rfl (Sub.cons rfl (Sub.cons rfl (Sub.cons rfl Sub.nil))))) (Sub.refl _) ?_
    refine DW.condT rfl ?_
    refine DW.seq ?_
    refine DW.region ?_
    refine DL.go0 tauOK hE rfl (GStep.move rfl) rfl rfl ?_
    refine DL.go0 tauOK hE rfl (GStep.assign rfl) rfl rfl ?_
    refine DL.go0 tauOK hE rfl (GStep.assign rfl) rfl rfl ?_
    refine DL.nil ?_
    refine DW.sub (T' := [(6, _), (7, _)]) (Sub.cons rfl (Sub.cons rfl Sub.nil)) (Sub.refl _) ?_
    refine DW.ret ?_
    exact RetD.sv rfl rfl rfl (by omega) rfl rfl
  · cases hs : spanB t b
    · rw [(btwC_no (c := c) (t := t) (b := b) (by rw [hs]; simp)).1, (btwC_no (c := c) (t := t) (b := b) (by rw [hs]; simp)).2]
      skip
      have hns : ¬ (0 ≤ t ∧ t ≤ b ∧ b ≤ 30000) := fun h => by rw [spanB_iff.2 h] at hs; cases hs
      refine DW.seq ?_
      refine DW.cut 25 (true) [0, 1, 2, 8] ?_ ?_
      · cases h3 : (decide (t ≥ 0) && decide (t ≤ 30000)) <;> cases h4 : (decide (b ≥ t) && decide (b ≤ 30000)) <;> (
          (try have q_h3 := of_decide_eq_true h3); (try have q_h3 := of_decide_eq_false h3)
          (try have q_h4 := of_decide_eq_true h4); (try have q_h4 := of_decide_eq_false h4)
          refine DW.region ?_
          refine DL.go0 tauOK hE rfl (GStep.move rfl) rfl rfl ?_
          refine DL.go0 tauOK hE rfl (G.tr (G.call (v := .val _) (news := []) rfl (All2.cons (ArgOf.ro rfl rfl (by simp [flat_len])) All2.nil) (gCore_flat) rfl rfl) (hc)) rfl rfl ?_
          try rw [h3]
          try rw [h4]
          refine DL.go0 tauOK hE rfl (GStep.not rfl) rfl rfl ?_
          refine DL.go0 tauOK hE rfl (GStep.move rfl) rfl rfl ?_
          first | refine DL.skip rfl rfl rfl ?_ | refine DL.go0 tauOK hE rfl (GStep.move rfl) rfl rfl ?_
          first | refine DL.skip rfl rfl rfl ?_ | refine DL.go0 tauOK hE rfl (G.call (v := .val _) (news := []) rfl (All2.cons (ArgOf.v rfl) (All2.cons (ArgOf.v rfl) (All2.cons (ArgOf.v rfl) All2.nil))) (rfl) rfl rfl) rfl rfl ?_
          try rw [h3]
          try rw [h4]
          first | refine DL.skip rfl rfl rfl ?_ | refine DL.go0 tauOK hE rfl (GStep.not rfl) rfl rfl ?_
          first | refine DL.go0 tauOK hE rfl (GStep.pickT rfl rfl) rfl rfl ?_ | refine DL.go0 tauOK hE rfl (GStep.pickF rfl rfl) rfl rfl ?_
          refine DL.go0 tauOK hE rfl (GStep.move rfl) rfl rfl ?_
          first | refine DL.skip rfl rfl rfl ?_ | refine DL.go0 tauOK hE rfl (GStep.move rfl) rfl rfl ?_
          first | refine DL.skip rfl rfl rfl ?_ | refine DL.go0 tauOK hE rfl (GStep.move rfl) rfl rfl ?_
          first | refine DL.skip rfl rfl rfl ?_ | refine DL.go0 tauOK hE rfl (G.call (v := .val _) (news := []) rfl (All2.cons (ArgOf.v rfl) (All2.cons (ArgOf.v rfl) (All2.cons (ArgOf.v rfl) All2.nil))) (rfl) rfl rfl) rfl rfl ?_
          try rw [h3]
          try rw [h4]
          first | refine DL.skip rfl rfl rfl ?_ | refine DL.go0 tauOK hE rfl (GStep.not rfl) rfl rfl ?_
          first | refine DL.go0 tauOK hE rfl (GStep.pickT rfl rfl) rfl rfl ?_ | refine DL.go0 tauOK hE rfl (GStep.pickF rfl rfl) rfl rfl ?_
          refine DL.nil ?_
          exact ⟨rfl, _, rfl, by first | rfl | (exfalso; simp only [Bool.and_eq_true, decide_eq_true_eq] at h3 h4; exact hns ⟨by omega, by omega, by omega⟩), SubK.cons rfl (SubK.cons rfl (SubK.cons rfl (SubK.cons rfl (SubK.nil)))), Sub.refl _⟩)
      refine DW.sub (T' := [(0, _), (1, _), (2, _), (8, _), (25, _)]) (Sub.cons rfl (Sub.cons rfl (Sub.cons rfl (Sub.cons rfl (Sub.cons rfl Sub.nil))))) (Sub.refl _) ?_
      refine DW.condT rfl ?_
      refine DW.seq ?_
      refine DW.region ?_
      refine DL.go0 tauOK hE rfl (GStep.move rfl) rfl rfl ?_
      refine DL.go0 tauOK hE rfl (GStep.assign rfl) rfl rfl ?_
      refine DL.go0 tauOK hE rfl (GStep.assign rfl) rfl rfl ?_
      refine DL.nil ?_
      refine DW.sub (T' := [(6, _), (7, _)]) (Sub.cons rfl (Sub.cons rfl Sub.nil)) (Sub.refl _) ?_
      refine DW.ret ?_
      exact RetD.sv rfl rfl rfl (by omega) rfl rfl
    · rw [(btwC_yes hc hs).1, (btwC_yes hc hs).2]
      have hR := (coreB_iff.1 hc).1
      have hle := (coreB_iff.1 hc).2
      have hS := spanB_iff.1 hs
      skip
      refine DW.seq ?_
      refine DW.seq ?_
      refine DW.region ?_
      refine DL.go0 tauOK hE rfl (GStep.move rfl) rfl rfl ?_
      refine DL.go0 tauOK hE rfl (G.tr (G.call (v := .val _) (news := []) rfl (All2.cons (ArgOf.ro rfl rfl (by simp [flat_len])) All2.nil) (gCore_flat) rfl rfl) (hc)) rfl rfl ?_
      refine DL.go0 tauOK hE rfl (GStep.not rfl) rfl rfl ?_
      refine DL.go0 tauOK hE rfl (GStep.move rfl) rfl rfl ?_
      first | refine DL.skip rfl rfl rfl ?_ | refine DL.go0 tauOK hE rfl (GStep.move rfl) rfl rfl ?_
      first | refine DL.skip rfl rfl rfl ?_ | refine DL.go0 tauOK hE rfl (G.tr (G.call (v := .val _) (news := []) rfl (All2.cons (ArgOf.v rfl) (All2.cons (ArgOf.v rfl) (All2.cons (ArgOf.v rfl) All2.nil))) (rfl) rfl rfl) (by simp; omega)) rfl rfl ?_
      first | refine DL.skip rfl rfl rfl ?_ | refine DL.go0 tauOK hE rfl (GStep.not rfl) rfl rfl ?_
      first | refine DL.go0 tauOK hE rfl (GStep.pickT rfl rfl) rfl rfl ?_ | refine DL.go0 tauOK hE rfl (GStep.pickF rfl rfl) rfl rfl ?_
      refine DL.go0 tauOK hE rfl (GStep.move rfl) rfl rfl ?_
      first | refine DL.skip rfl rfl rfl ?_ | refine DL.go0 tauOK hE rfl (GStep.move rfl) rfl rfl ?_
      first | refine DL.skip rfl rfl rfl ?_ | refine DL.go0 tauOK hE rfl (GStep.move rfl) rfl rfl ?_
      first | refine DL.skip rfl rfl rfl ?_ | refine DL.go0 tauOK hE rfl (G.tr (G.call (v := .val _) (news := []) rfl (All2.cons (ArgOf.v rfl) (All2.cons (ArgOf.v rfl) (All2.cons (ArgOf.v rfl) All2.nil))) (rfl) rfl rfl) (by simp; omega)) rfl rfl ?_
      first | refine DL.skip rfl rfl rfl ?_ | refine DL.go0 tauOK hE rfl (GStep.not rfl) rfl rfl ?_
      first | refine DL.go0 tauOK hE rfl (GStep.pickT rfl rfl) rfl rfl ?_ | refine DL.go0 tauOK hE rfl (GStep.pickF rfl rfl) rfl rfl ?_
      refine DL.nil ?_
      refine DW.sub (T' := [(0, _), (1, _), (2, _), (8, _), (25, _)]) (Sub.cons rfl (Sub.cons rfl (Sub.cons rfl (Sub.cons rfl (Sub.cons rfl Sub.nil))))) (Sub.refl _) ?_
      refine DW.condF rfl ?_
      refine DW.skip ?_
      refine DW.seq ?_
      refine DW.seq ?_
      refine DW.region ?_
      refine DL.go0 tauOK hE rfl (GStep.assign rfl) rfl rfl ?_
      refine DL.nil ?_
      refine DW.sub (T' := [(0, _), (1, _), (2, _), (8, _), (9, _)]) (Sub.cons rfl (Sub.cons rfl (Sub.cons rfl (Sub.cons rfl (Sub.cons rfl Sub.nil))))) (Sub.refl _) ?_
      refine DW.block ?_
      refine DW.loop (α := Nat × List Pc × Nat) (fun (k, o, m) => [(0, .sl 0 0 c.length), (1, .val (.int .i64 t)), (2, .val (.int .i64 b)), (8, .sl 11 0 m), (9, .val (.int .i64 (k : Nat)))]) (fun (k, o, m) => [(0, .ro .i64 2 (flat c)), (11, .row 38 2 (flat o))]) (fun (k, o, m) => k ≤ c.length ∧ o = btw t b (c.take k) ∧ o.length = m ∧ m ≤ k) (fun (k, o, m) => c.length - k) (0, [], 0) (⟨by omega, rfl, rfl, by omega⟩) (Sub.cons rfl (Sub.cons rfl (Sub.cons rfl (Sub.cons rfl (Sub.cons rfl Sub.nil))))) (Sub.cons rfl (Sub.cons rfl Sub.nil)) ?_
      rintro ⟨k, o, m⟩ ⟨hk, ho, hm2, hmk⟩
      skip
      refine DW.seq ?_
      refine DW.seq ?_
      refine DW.region ?_
      refine DL.go0 tauOK hE rfl (GStep.move rfl) rfl rfl ?_
      refine DL.go0 tauOK hE rfl (GStep.move rfl) rfl rfl ?_
      first | refine DL.go0 tauOK hE rfl (GStep.len rfl rfl rfl) rfl rfl ?_ | refine DL.go0 tauOK hE rfl (GStep.lenNil rfl rfl) rfl rfl ?_
      refine DL.go0 tauOK hE rfl (GStep.binI rfl rfl rfl) rfl rfl ?_
      refine DL.nil ?_
      refine DW.sub (T' := [(0, _), (1, _), (2, _), (8, _), (9, _), (30, _)]) (Sub.cons rfl (Sub.cons rfl (Sub.cons rfl (Sub.cons rfl (Sub.cons rfl (Sub.cons rfl Sub.nil)))))) (Sub.refl _) ?_
      refine DW.cond rfl (fun hlt => ?_) (fun hlt => ?_)
      · skip
        have hlt : k < c.length := by simpa using hlt
        have ek := btw_succ t b hlt
        have bp := core_at hR hlt
        refine DW.skip ?_
        refine DW.seq ?_
        refine DW.block ?_
        refine DW.seq ?_
        refine DW.draw tauOK hE mixed 16 (by kernel_rfl) ?_
        refine DR.go0 rfl (GStep.move rfl) rfl rfl ?_
        refine DR.go0 rfl (GStep.move rfl) rfl rfl ?_
        refine DR.go0 rfl (G.ia2 rfl rfl rfl rfl rfl rfl rfl (by omega)) rfl rfl ?_
        refine DR.go0 rfl (G.fa rfl rfl rfl (by decide)) rfl rfl ?_
        first | refine DR.go0 rfl (G.lf0r rfl rfl rfl (by omega)) rfl rfl ?_ | refine DR.go0 rfl (G.lf0w rfl rfl rfl (by omega)) rfl rfl ?_
        refine DR.go0 rfl (GStep.move rfl) rfl rfl ?_
        refine DR.go0 rfl (G.maxi rfl rfl) rfl rfl ?_
        refine DR.go0 rfl (GStep.move rfl) rfl rfl ?_
        refine DR.go0 rfl (GStep.move rfl) rfl rfl ?_
        refine DR.go0 rfl (G.ia2 rfl rfl rfl rfl rfl rfl rfl (by omega)) rfl rfl ?_
        refine DR.go0 rfl (G.fa rfl rfl rfl (by decide)) rfl rfl ?_
        first | refine DR.go0 rfl (G.lf1r rfl rfl rfl (by omega)) rfl rfl ?_ | refine DR.go0 rfl (G.lf1w rfl rfl rfl (by omega)) rfl rfl ?_
        refine DR.go0 rfl (GStep.move rfl) rfl rfl ?_
        refine DR.go0 rfl (G.mini rfl rfl) rfl rfl ?_
        refine DR.go0 rfl (G.b01 rfl rfl rfl) rfl rfl ?_
        refine DR.go1 rfl (GStep.alloc2 rfl) rfl rfl rfl ?_
        refine DR.nil ?_
        refine DL.sb2 tauOK rfl rfl rfl rfl rfl rfl rfl ?_
        refine DL.nil ?_
        refine DW.sub (T' := [(0, _), (1, _), (2, _), (8, _), (9, _), (10, _)]) (Sub.cons rfl (Sub.cons rfl (Sub.cons rfl (Sub.cons rfl (Sub.cons rfl (Sub.cons rfl Sub.nil)))))) (Sub.refl _) ?_
        by_cases hp : max (c.getD k (0, 0)).1 t < min (c.getD k (0, 0)).2 b
        · skip
          rw [if_pos hp, ← ho] at ek
          refine DW.seq ?_
          refine DW.region ?_
          refine DL.go0 tauOK hE rfl (G.fa rfl rfl rfl (by decide)) rfl rfl ?_
          refine DL.go0 tauOK hE rfl (G.lbf0 rfl rfl rfl) rfl rfl ?_
          refine DL.go0 tauOK hE rfl (G.fa rfl rfl rfl (by decide)) rfl rfl ?_
          refine DL.go0 tauOK hE rfl (G.lbf1 rfl rfl rfl) rfl rfl ?_
          refine DL.go0 tauOK hE rfl (G.tr (GStep.binI rfl rfl rfl) (by rw [decide_eq_true_eq]; omega)) rfl rfl ?_
          refine DL.nil ?_
          refine DW.sub (T' := [(0, _), (1, _), (2, _), (8, _), (9, _), (10, _), (52, _)]) (Sub.cons rfl (Sub.cons rfl (Sub.cons rfl (Sub.cons rfl (Sub.cons rfl (Sub.cons rfl (Sub.cons rfl Sub.nil))))))) (Sub.refl _) ?_
          refine DW.condT rfl ?_
          refine DW.region ?_
          refine DL.go0 tauOK hE rfl (GStep.move rfl) rfl rfl ?_
          refine DL.go0 tauOK hE rfl (G.lb2 rfl rfl rfl) rfl rfl ?_
          refine DL.go1 tauOK hE rfl (G.bs1p rfl rfl rfl) rfl rfl rfl ?_
          refine DL.app2 tauOK [(0, _), (1, _), (2, _), (9, _)] rfl rfl rfl rfl rfl rfl rfl rfl (hm2) rfl rfl rfl (by omega) (Sub.cons rfl (Sub.cons rfl (Sub.cons rfl (Sub.cons rfl Sub.nil)))) rfl ?_
          refine DL.go0 tauOK hE rfl (GStep.assign rfl) rfl rfl ?_
          refine DL.nil ?_
          refine DW.sub (T' := [(0, _), (1, _), (2, _), (8, _), (9, _)]) (Sub.cons rfl (Sub.cons rfl (Sub.cons rfl (Sub.cons rfl (Sub.cons rfl Sub.nil))))) (Sub.refl _) ?_
          refine DW.region ?_
          refine DL.go0 tauOK hE rfl (GStep.move rfl) rfl rfl ?_
          first | refine DL.go0 tauOK hE rfl (G.add rfl rfl (by omega)) rfl rfl ?_ | refine DL.go0 tauOK hE rfl (GStep.binI rfl rfl rfl) rfl rfl ?_
          refine DL.go0 tauOK hE rfl (GStep.assign rfl) rfl rfl ?_
          refine DL.nil ?_
          refine ⟨(k + 1, _, m + 1), ⟨by omega, ek.symm, by simp [hm2], by omega⟩, by first | omega | (dsimp only; omega), ?_, ?_⟩
          · exact Sub.cons rfl (Sub.cons rfl (Sub.cons rfl (Sub.cons rfl (Sub.cons rfl Sub.nil))))
          · exact Sub.cons rfl (Sub.cons rfl Sub.nil)
        · skip
          rw [if_neg hp, ← ho, List.append_nil] at ek
          refine DW.seq ?_
          refine DW.region ?_
          refine DL.go0 tauOK hE rfl (G.fa rfl rfl rfl (by decide)) rfl rfl ?_
          refine DL.go0 tauOK hE rfl (G.lbf0 rfl rfl rfl) rfl rfl ?_
          refine DL.go0 tauOK hE rfl (G.fa rfl rfl rfl (by decide)) rfl rfl ?_
          refine DL.go0 tauOK hE rfl (G.lbf1 rfl rfl rfl) rfl rfl ?_
          refine DL.go0 tauOK hE rfl (G.fl (GStep.binI rfl rfl rfl) (by rw [decide_eq_false_iff_not]; omega)) rfl rfl ?_
          refine DL.nil ?_
          refine DW.sub (T' := [(0, _), (1, _), (2, _), (8, _), (9, _), (10, _), (52, _)]) (Sub.cons rfl (Sub.cons rfl (Sub.cons rfl (Sub.cons rfl (Sub.cons rfl (Sub.cons rfl (Sub.cons rfl Sub.nil))))))) (Sub.refl _) ?_
          refine DW.condF rfl ?_
          refine DW.skip ?_
          refine DW.region ?_
          refine DL.go0 tauOK hE rfl (GStep.move rfl) rfl rfl ?_
          first | refine DL.go0 tauOK hE rfl (G.add rfl rfl (by omega)) rfl rfl ?_ | refine DL.go0 tauOK hE rfl (GStep.binI rfl rfl rfl) rfl rfl ?_
          refine DL.go0 tauOK hE rfl (GStep.assign rfl) rfl rfl ?_
          refine DL.nil ?_
          refine ⟨(k + 1, o, m), ⟨by omega, ek.symm, hm2, by omega⟩, by first | omega | (dsimp only; omega), ?_, ?_⟩
          · exact Sub.cons rfl (Sub.cons rfl (Sub.cons rfl (Sub.cons rfl (Sub.cons rfl Sub.nil))))
          · exact Sub.cons rfl (Sub.cons rfl Sub.nil)
      · skip
        have hlt : k = c.length := by simp at hlt; omega
        subst hlt
        rw [List.take_length] at ho
        subst ho
        subst hm2
        refine DW.exit ?_
        refine DW.seq ?_
        refine DW.region ?_
        refine DL.go0 tauOK hE rfl (GStep.move rfl) rfl rfl ?_
        refine DL.go0 tauOK hE rfl (GStep.assign rfl) rfl rfl ?_
        refine DL.go0 tauOK hE rfl (GStep.assign rfl) rfl rfl ?_
        refine DL.nil ?_
        refine DW.sub (T' := [(6, _), (7, _)]) (Sub.cons rfl (Sub.cons rfl Sub.nil)) (Sub.refl _) ?_
        refine DW.ret ?_
        exact RetD.sv rfl rfl (by rw [flat_len]) (by omega) rfl rfl
end Go.Proofs.Ytionljjdfgeggaa
