/-
  Joined cores and their gaps, walked by the plain machine.
-/
import Derived.Test.YtionljjdfgeggaaCorD
namespace Go.Proofs.Ytionljjdfgeggaa
open Go.RowKit
set_option linter.unusedVariables false
set_option linter.unusedSimpArgs false
def joinC (c : List Pc) : List Pc := if coreB c = true then joinL c else []
theorem joinC_yes {c : List Pc} (h : coreB c = true) : joinC c = joinL c := if_pos h
theorem joinC_no {c : List Pc} (h : coreB c = false) : joinC c = [] := if_neg (by rw [h]; simp)
def gJoin : List AD → Option RD
  | [.sl .i64 2 _ l] => some (.tup [.row 38 2 (joinC (unflat l)).length (flat (joinC (unflat l))), .v (.bool (coreB (unflat l)))])
  | _ => none
theorem gJoin_flat {n : Nat} {c : List Pc} : gJoin [.sl .i64 2 n (flat c)] = some (.tup [.row 38 2 (joinC c).length (flat (joinC c)), .v (.bool (coreB c))]) := by simp [gJoin, unflat_flat]
theorem gJoin_yes {n : Nat} {c : List Pc} (h : coreB c = true) : gJoin [.sl .i64 2 n (flat c)] = some (.tup [.row 38 2 (joinL c).length (flat (joinL c)), .v (.bool true)]) := by rw [gJoin_flat, joinC_yes h, h]
def JI (c : List Pc) (k : Nat) (o : List Pc) : Prop := (k = 0 ∧ o = []) ∨ (0 < k ∧ ∃ pre a, o = pre ++ [a] ∧ joinL c = pre ++ joinR a (c.drop k) ∧ a.2 = (c.getD (k - 1) (0, 0)).2)
theorem ji_len {c o : List Pc} {k : Nat} (h : JI c k o) (hk : 0 < k) : 0 < o.length := by
  rcases h with ⟨h0, _⟩ | ⟨_, pre, a, rfl, _⟩
  · omega
  · simp
theorem ji_last {c o : List Pc} {k : Nat} (h : JI c k o) (hk : 0 < k) : (o.getD (o.length - 1) (0, 0)).2 = (c.getD (k - 1) (0, 0)).2 := by
  rcases h with ⟨h0, _⟩ | ⟨_, pre, a, rfl, _, h2⟩
  · omega
  · rw [getD_of_lt' _ (by simp), ← h2]
    simp
theorem ji_new {c o : List Pc} {k : Nat} (h : JI c k o) (hk : k < c.length) (hne : 0 < k → (c.getD (k - 1) (0, 0)).2 ≠ (c.getD k (0, 0)).1) : JI c (k + 1) (o ++ [((c.getD k (0, 0)).1, (c.getD k (0, 0)).2)]) := by
  rcases h with ⟨h0, rfl⟩ | ⟨h0, pre, a, rfl, h1, h2⟩
  · subst h0
    refine .inr ⟨by omega, [], c.getD 0 (0, 0), rfl, ?_, rfl⟩
    cases c with
    | nil => simp at hk
    | cons p r => rfl
  · refine .inr ⟨by omega, pre ++ [a], c.getD k (0, 0), rfl, ?_, rfl⟩
    rw [h1, drop_at hk, joinR, if_neg (by rw [h2]; exact hne h0)]
    simp
theorem ji_grow {c o : List Pc} {k : Nat} (h : JI c k o) (hk : k < c.length) (h0 : 0 < k) (he : (c.getD (k - 1) (0, 0)).2 = (c.getD k (0, 0)).1) : JI c (k + 1) (o.set (o.length - 1) ((o.getD (o.length - 1) (0, 0)).1, (c.getD k (0, 0)).2)) := by
  rcases h with ⟨h0', _⟩ | ⟨_, pre, a, rfl, h1, h2⟩
  · omega
  · refine .inr ⟨by omega, pre, (a.1, (c.getD k (0, 0)).2), ?_, ?_, rfl⟩
    · rw [getD_of_lt' _ (by simp)]
      simp
    · rw [h1, drop_at hk, joinR, if_pos (by rw [h2]; exact he)]
theorem ji_end {c o : List Pc} (h : JI c c.length o) : o = joinL c := by
  rcases h with ⟨h0, rfl⟩ | ⟨_, pre, a, rfl, h1, _⟩
  · rw [List.eq_nil_of_length_eq_zero h0]; rfl
  · rw [h1, List.drop_length]; rfl
theorem coreJoin_di : DFun Try.prog 21 gJoin := by
  have hE : EnvOK Try.prog [(18, gCore)] := EnvOK.cons coreValid_di EnvOK.nil
  refine DFun.of tauOK (fn := Try.f21) Try.func21 rfl (by kernel_rfl) rfl rfl ?_
  intro C ds r hg hl
  unfold gJoin at hg
  split at hg
  case h_2 => cases hg
  rename_i n l
  cases hg
  refine ⟨by simp, ?_⟩
  obtain ⟨hn, hm, _⟩ := hl
  obtain ⟨c, rfl, rfl⟩ := flat_ex hn
  clear hn
  rw [unflat_flat]
  refine DW.seq ?_
  refine DW.region ?_
  refine DL.go0 tauOK hE rfl (GStep.assign rfl) rfl rfl ?_
  refine DL.go0 tauOK hE rfl (GStep.assign rfl) rfl rfl ?_
  refine DL.nil ?_
  refine DW.sub (T' := [(0, _)]) (Sub.cons rfl Sub.nil) (Sub.refl _) ?_
  refine DW.seq ?_
  refine DW.seq ?_
  refine DW.region ?_
  refine DL.go0 tauOK hE rfl (GStep.move rfl) rfl rfl ?_
  refine DL.go0 tauOK hE rfl (G.call (v := .val _) (news := []) rfl (All2.cons (ArgOf.ro rfl rfl (by simp [flat_len])) All2.nil) (gCore_flat) rfl rfl) rfl rfl ?_
  refine DL.go0 tauOK hE rfl (GStep.not rfl) rfl rfl ?_
  refine DL.nil ?_
  refine DW.sub (T' := [(0, _), (10, _)]) (Sub.cons rfl (Sub.cons rfl Sub.nil)) (Sub.refl _) ?_
  cases hc : coreB c
  · refine DW.condT rfl ?_
    rw [joinC_no hc]
    refine DW.seq ?_
    refine DW.region ?_
    refine DL.go0 tauOK hE rfl (GStep.assign rfl) rfl rfl ?_
    refine DL.go0 tauOK hE rfl (GStep.assign rfl) rfl rfl ?_
    refine DL.nil ?_
    refine DW.sub (T' := [(2, _), (3, _)]) (Sub.cons rfl (Sub.cons rfl Sub.nil)) (Sub.refl _) ?_
    refine DW.ret ?_
    exact RetD.nv rfl (by omega) rfl rfl
  · skip
    refine DW.condF rfl ?_
    have hle := (coreB_iff.1 hc).2
    rw [joinC_yes hc]
    refine DW.skip ?_
    refine DW.seq ?_
    refine DW.region ?_
    refine DL.go0 tauOK hE rfl (GStep.assign rfl) rfl rfl ?_
    refine DL.nil ?_
    refine DW.sub (T' := [(0, _), (4, _)]) (Sub.cons rfl (Sub.cons rfl Sub.nil)) (Sub.refl _) ?_
    refine DW.seq ?_
    refine DW.seq ?_
    refine DW.region ?_
    refine DL.go0 tauOK hE rfl (GStep.move rfl) rfl rfl ?_
    first | refine DL.go0 tauOK hE rfl (GStep.len rfl rfl rfl) rfl rfl ?_ | refine DL.go0 tauOK hE rfl (GStep.lenNil rfl rfl) rfl rfl ?_
    refine DL.go0 tauOK hE rfl (GStep.move rfl) rfl rfl ?_
    refine DL.nil ?_
    refine DW.sub (T' := [(4, _), (11, _), (12, _), (13, _)]) (Sub.cons rfl (Sub.cons rfl (Sub.cons rfl (Sub.cons rfl Sub.nil)))) (Sub.refl _) ?_
    refine DW.nil 4 900 38 2 (by omega) rfl rfl ?_
    refine DW.block ?_
    refine DW.loop (α := Nat × List Pc × Nat) (fun (k, o, m) => [(4, .sl 900 0 m), (11, .sl 0 0 c.length), (12, .val (.int .i64 c.length)), (13, .val (.int .i64 (k : Nat)))]) (fun (k, o, m) => [(0, .ro .i64 2 (flat c)), (900, .row 38 2 (flat o))]) (fun (k, o, m) => k ≤ c.length ∧ JI c k o ∧ o.length = m ∧ m ≤ k) (fun (k, o, m) => c.length - k) (0, [], 0) (⟨by omega, .inl ⟨rfl, rfl⟩, rfl, by omega⟩) (Sub.cons rfl (Sub.cons rfl (Sub.cons rfl (Sub.cons rfl Sub.nil)))) (Sub.cons rfl (Sub.cons rfl Sub.nil)) ?_
    rintro ⟨k, o, m⟩ ⟨hk, hj, hm2, hmk⟩
    skip
    refine DW.seq ?_
    refine DW.region ?_
    refine DL.go0 tauOK hE rfl (GStep.binI rfl rfl rfl) rfl rfl ?_
    refine DL.nil ?_
    refine DW.sub (T' := [(4, _), (11, _), (12, _), (13, _), (14, _)]) (Sub.cons rfl (Sub.cons rfl (Sub.cons rfl (Sub.cons rfl (Sub.cons rfl Sub.nil))))) (Sub.refl _) ?_
    refine DW.seq ?_
    refine DW.cond rfl (fun hlt => ?_) (fun hlt => ?_)
    · skip
      have hlt : k < c.length := by simpa using hlt
      refine DW.skip ?_
      refine DW.seq ?_
      refine DW.block ?_
      refine DW.seq ?_
      refine DW.region ?_
      refine DL.go0 tauOK hE rfl (G.ia2 rfl rfl rfl rfl rfl rfl rfl (by omega)) rfl rfl ?_
      first | refine DL.go0 tauOK hE rfl (G.le2r rfl rfl rfl (by omega)) rfl rfl ?_ | refine DL.go0 tauOK hE rfl (G.le2w rfl rfl rfl (by omega)) rfl rfl ?_
      refine DL.go1 tauOK hE rfl (GStep.alloc2 rfl) rfl rfl rfl ?_
      refine DL.sb2 tauOK rfl rfl rfl rfl rfl rfl rfl ?_
      refine DL.nil ?_
      refine DW.sub (T' := [(4, _), (6, _), (11, _), (12, _), (13, _)]) (Sub.cons rfl (Sub.cons rfl (Sub.cons rfl (Sub.cons rfl (Sub.cons rfl Sub.nil))))) (Sub.refl _) ?_
      refine DW.seq ?_
      refine DW.region ?_
      refine DL.go0 tauOK hE rfl (GStep.move rfl) rfl rfl ?_
      first | refine DL.go0 tauOK hE rfl (GStep.len rfl rfl rfl) rfl rfl ?_ | refine DL.go0 tauOK hE rfl (GStep.lenNil rfl rfl) rfl rfl ?_
      first | refine DL.go0 tauOK hE rfl (G.sub rfl rfl (by omega)) rfl rfl ?_ | refine DL.go0 tauOK hE rfl (GStep.binI rfl rfl rfl) rfl rfl ?_
      refine DL.go0 tauOK hE rfl (GStep.assign rfl) rfl rfl ?_
      refine DL.nil ?_
      refine DW.sub (T' := [(4, _), (6, _), (7, _), (11, _), (12, _), (13, _)]) (Sub.cons rfl (Sub.cons rfl (Sub.cons rfl (Sub.cons rfl (Sub.cons rfl (Sub.cons rfl Sub.nil)))))) (Sub.refl _) ?_
      by_cases h0 : 0 < k
      · have hml := ji_len hj h0
        have hla := ji_last hj h0
        rw [hm2] at hml hla
        by_cases he : (c.getD (k - 1) (0, 0)).2 = (c.getD k (0, 0)).1
        · skip
          have hg := ji_grow hj hlt h0 he
          rw [hm2] at hg
          refine DW.seq ?_
          refine DW.draw tauOK hE mixed 12 (by kernel_rfl) ?_
          refine DR.go0 rfl (GStep.move rfl) rfl rfl ?_
          refine DR.go0 rfl (G.tr (GStep.binI rfl rfl rfl) (by rw [decide_eq_true_eq]; omega)) rfl rfl ?_
          refine DR.go0 rfl (GStep.move rfl) rfl rfl ?_
          first | refine DR.skip rfl rfl rfl ?_ | refine DR.go0 rfl (GStep.move rfl) rfl rfl ?_
          first | refine DR.skip rfl rfl rfl ?_ | refine DR.go0 rfl (GStep.move rfl) rfl rfl ?_
          first | refine DR.skip rfl rfl rfl ?_ | refine DR.go0 rfl (G.ia2 (i := m - 1) rfl rfl rfl rfl rfl rfl (by omega) (by omega)) rfl rfl ?_
          first | refine DR.skip rfl rfl rfl ?_ | refine DR.go0 rfl (G.fa rfl rfl rfl (by decide)) rfl rfl ?_
          first | refine DR.skip rfl rfl rfl ?_ | refine DR.go0 rfl (G.lf1r rfl rfl rfl (by omega)) rfl rfl ?_ | refine DR.go0 rfl (G.lf1w rfl rfl rfl (by omega)) rfl rfl ?_
          first | refine DR.skip rfl rfl rfl ?_ | refine DR.go0 rfl (G.fa rfl rfl rfl (by decide)) rfl rfl ?_
          first | refine DR.skip rfl rfl rfl ?_ | refine DR.go0 rfl (G.lbf0 rfl rfl rfl) rfl rfl ?_
          first | refine DR.skip rfl rfl rfl ?_ | refine DR.go0 rfl (G.tr (GStep.binI rfl rfl rfl) (by rw [beq_iff_eq, hla, he])) rfl rfl ?_
          first | refine DR.go0 rfl (GStep.pickT rfl rfl) rfl rfl ?_ | refine DR.go0 rfl (GStep.pickF rfl rfl) rfl rfl ?_
          refine DR.nil ?_
          refine DL.nil ?_
          refine DW.sub (T' := [(4, _), (6, _), (7, _), (11, _), (12, _), (13, _), (31, _)]) (Sub.cons rfl (Sub.cons rfl (Sub.cons rfl (Sub.cons rfl (Sub.cons rfl (Sub.cons rfl (Sub.cons rfl Sub.nil))))))) (Sub.refl _) ?_
          refine DW.condT rfl ?_
          refine DW.region ?_
          refine DL.go0 tauOK hE rfl (GStep.move rfl) rfl rfl ?_
          refine DL.go0 tauOK hE rfl (GStep.move rfl) rfl rfl ?_
          refine DL.go0 tauOK hE rfl (G.fa rfl rfl rfl (by decide)) rfl rfl ?_
          refine DL.go0 tauOK hE rfl (G.lbf1 rfl rfl rfl) rfl rfl ?_
          refine DL.go0 tauOK hE rfl (G.ia2 (i := m - 1) rfl rfl rfl rfl rfl rfl (by omega) (by omega)) rfl rfl ?_
          refine DL.go0 tauOK hE rfl (G.fa rfl rfl rfl (by decide)) rfl rfl ?_
          refine DL.sf1 tauOK rfl rfl rfl rfl rfl rfl rfl (by omega) ?_
          refine DL.nil ?_
          refine DW.sub (T' := [(4, _), (11, _), (12, _), (13, _)]) (Sub.cons rfl (Sub.cons rfl (Sub.cons rfl (Sub.cons rfl Sub.nil)))) (Sub.refl _) ?_
          refine DW.region ?_
          first | refine DL.go0 tauOK hE rfl (G.add rfl rfl (by omega)) rfl rfl ?_ | refine DL.go0 tauOK hE rfl (GStep.binI rfl rfl rfl) rfl rfl ?_
          refine DL.go0 tauOK hE rfl (GStep.move rfl) rfl rfl ?_
          refine DL.nil ?_
          refine ⟨(k + 1, _, m), ⟨by omega, hg, by simp [hm2], by omega⟩, by first | omega | (dsimp only; omega), ?_, ?_⟩
          · exact Sub.cons rfl (Sub.cons rfl (Sub.cons rfl (Sub.cons rfl Sub.nil)))
          · exact Sub.cons rfl (Sub.cons rfl Sub.nil)
        · skip
          have hg := ji_new hj hlt (fun _ => he)
          refine DW.seq ?_
          refine DW.draw tauOK hE mixed 12 (by kernel_rfl) ?_
          refine DR.go0 rfl (GStep.move rfl) rfl rfl ?_
          refine DR.go0 rfl (G.tr (GStep.binI rfl rfl rfl) (by rw [decide_eq_true_eq]; omega)) rfl rfl ?_
          refine DR.go0 rfl (GStep.move rfl) rfl rfl ?_
          first | refine DR.skip rfl rfl rfl ?_ | refine DR.go0 rfl (GStep.move rfl) rfl rfl ?_
          first | refine DR.skip rfl rfl rfl ?_ | refine DR.go0 rfl (GStep.move rfl) rfl rfl ?_
          first | refine DR.skip rfl rfl rfl ?_ | refine DR.go0 rfl (G.ia2 (i := m - 1) rfl rfl rfl rfl rfl rfl (by omega) (by omega)) rfl rfl ?_
          first | refine DR.skip rfl rfl rfl ?_ | refine DR.go0 rfl (G.fa rfl rfl rfl (by decide)) rfl rfl ?_
          first | refine DR.skip rfl rfl rfl ?_ | refine DR.go0 rfl (G.lf1r rfl rfl rfl (by omega)) rfl rfl ?_ | refine DR.go0 rfl (G.lf1w rfl rfl rfl (by omega)) rfl rfl ?_
          first | refine DR.skip rfl rfl rfl ?_ | refine DR.go0 rfl (G.fa rfl rfl rfl (by decide)) rfl rfl ?_
          first | refine DR.skip rfl rfl rfl ?_ | refine DR.go0 rfl (G.lbf0 rfl rfl rfl) rfl rfl ?_
          first | refine DR.skip rfl rfl rfl ?_ | refine DR.go0 rfl (G.fl (GStep.binI rfl rfl rfl) (by rw [beq_eq_false_iff_ne, hla]; exact he)) rfl rfl ?_
          first | refine DR.go0 rfl (GStep.pickT rfl rfl) rfl rfl ?_ | refine DR.go0 rfl (GStep.pickF rfl rfl) rfl rfl ?_
          refine DR.nil ?_
          refine DL.nil ?_
          refine DW.sub (T' := [(4, _), (6, _), (7, _), (11, _), (12, _), (13, _), (31, _)]) (Sub.cons rfl (Sub.cons rfl (Sub.cons rfl (Sub.cons rfl (Sub.cons rfl (Sub.cons rfl (Sub.cons rfl Sub.nil))))))) (Sub.refl _) ?_
          refine DW.condF rfl ?_
          refine DW.region ?_
          refine DL.go0 tauOK hE rfl (GStep.move rfl) rfl rfl ?_
          refine DL.go0 tauOK hE rfl (G.lb2 rfl rfl rfl) rfl rfl ?_
          refine DL.go1 tauOK hE rfl (G.bs1p rfl rfl rfl) rfl rfl rfl ?_
          refine DL.app2 tauOK [(11, _), (12, _), (13, _)] rfl rfl rfl rfl rfl rfl rfl rfl (hm2) rfl rfl rfl (by omega) (Sub.cons rfl (Sub.cons rfl (Sub.cons rfl Sub.nil))) rfl ?_
          refine DL.go0 tauOK hE rfl (GStep.assign rfl) rfl rfl ?_
          refine DL.nil ?_
          refine DW.sub (T' := [(4, _), (11, _), (12, _), (13, _)]) (Sub.cons rfl (Sub.cons rfl (Sub.cons rfl (Sub.cons rfl Sub.nil)))) (Sub.refl _) ?_
          refine DW.region ?_
          first | refine DL.go0 tauOK hE rfl (G.add rfl rfl (by omega)) rfl rfl ?_ | refine DL.go0 tauOK hE rfl (GStep.binI rfl rfl rfl) rfl rfl ?_
          refine DL.go0 tauOK hE rfl (GStep.move rfl) rfl rfl ?_
          refine DL.nil ?_
          refine ⟨(k + 1, _, m + 1), ⟨by omega, hg, by simp [hm2], by omega⟩, by first | omega | (dsimp only; omega), ?_, ?_⟩
          · exact Sub.cons rfl (Sub.cons rfl (Sub.cons rfl (Sub.cons rfl Sub.nil)))
          · exact Sub.cons rfl (Sub.cons rfl Sub.nil)
      · skip
        have hg := ji_new hj hlt (fun h => absurd h h0)
        refine DW.seq ?_
        refine DW.draw tauOK hE mixed 12 (by kernel_rfl) ?_
        refine DR.go0 rfl (GStep.move rfl) rfl rfl ?_
        refine DR.go0 rfl (G.fl (GStep.binI rfl rfl rfl) (by rw [decide_eq_false_iff_not]; omega)) rfl rfl ?_
        refine DR.go0 rfl (GStep.move rfl) rfl rfl ?_
        first | refine DR.skip rfl rfl rfl ?_ | refine DR.go0 rfl (GStep.move rfl) rfl rfl ?_
        first | refine DR.skip rfl rfl rfl ?_ | refine DR.go0 rfl (GStep.move rfl) rfl rfl ?_
        first | refine DR.skip rfl rfl rfl ?_ | refine DR.go0 rfl (G.ia2 rfl rfl rfl rfl rfl rfl rfl (by omega)) rfl rfl ?_
        first | refine DR.skip rfl rfl rfl ?_ | refine DR.go0 rfl (G.fa rfl rfl rfl (by decide)) rfl rfl ?_
        first | refine DR.skip rfl rfl rfl ?_ | refine DR.go0 rfl (G.lf1r rfl rfl rfl (by omega)) rfl rfl ?_ | refine DR.go0 rfl (G.lf1w rfl rfl rfl (by omega)) rfl rfl ?_
        first | refine DR.skip rfl rfl rfl ?_ | refine DR.go0 rfl (G.fa rfl rfl rfl (by decide)) rfl rfl ?_
        first | refine DR.skip rfl rfl rfl ?_ | refine DR.go0 rfl (G.lbf0 rfl rfl rfl) rfl rfl ?_
        first | refine DR.skip rfl rfl rfl ?_ | refine DR.go0 rfl (GStep.binI rfl rfl rfl) rfl rfl ?_
        first | refine DR.go0 rfl (GStep.pickT rfl rfl) rfl rfl ?_ | refine DR.go0 rfl (GStep.pickF rfl rfl) rfl rfl ?_
        refine DR.nil ?_
        refine DL.nil ?_
        refine DW.sub (T' := [(4, _), (6, _), (7, _), (11, _), (12, _), (13, _), (31, _)]) (Sub.cons rfl (Sub.cons rfl (Sub.cons rfl (Sub.cons rfl (Sub.cons rfl (Sub.cons rfl (Sub.cons rfl Sub.nil))))))) (Sub.refl _) ?_
        refine DW.condF rfl ?_
        refine DW.region ?_
        refine DL.go0 tauOK hE rfl (GStep.move rfl) rfl rfl ?_
        refine DL.go0 tauOK hE rfl (G.lb2 rfl rfl rfl) rfl rfl ?_
        refine DL.go1 tauOK hE rfl (G.bs1p rfl rfl rfl) rfl rfl rfl ?_
        refine DL.app2 tauOK [(11, _), (12, _), (13, _)] rfl rfl rfl rfl rfl rfl rfl rfl (hm2) rfl rfl rfl (by omega) (Sub.cons rfl (Sub.cons rfl (Sub.cons rfl Sub.nil))) rfl ?_
        refine DL.go0 tauOK hE rfl (GStep.assign rfl) rfl rfl ?_
        refine DL.nil ?_
        refine DW.sub (T' := [(4, _), (11, _), (12, _), (13, _)]) (Sub.cons rfl (Sub.cons rfl (Sub.cons rfl (Sub.cons rfl Sub.nil)))) (Sub.refl _) ?_
        refine DW.region ?_
        first | refine DL.go0 tauOK hE rfl (G.add rfl rfl (by omega)) rfl rfl ?_ | refine DL.go0 tauOK hE rfl (GStep.binI rfl rfl rfl) rfl rfl ?_
        refine DL.go0 tauOK hE rfl (GStep.move rfl) rfl rfl ?_
        refine DL.nil ?_
        refine ⟨(k + 1, _, m + 1), ⟨by omega, hg, by simp [hm2], by omega⟩, by first | omega | (dsimp only; omega), ?_, ?_⟩
        · exact Sub.cons rfl (Sub.cons rfl (Sub.cons rfl (Sub.cons rfl Sub.nil)))
        · exact Sub.cons rfl (Sub.cons rfl Sub.nil)
    · skip
      have hlt : k = c.length := by simp at hlt; omega
      subst hlt
      have he := ji_end hj
      subst he
      subst hm2
      refine DW.exit ?_
      refine DW.seq ?_
      refine DW.region ?_
      refine DL.go0 tauOK hE rfl (GStep.move rfl) rfl rfl ?_
      refine DL.go0 tauOK hE rfl (GStep.assign rfl) rfl rfl ?_
      refine DL.go0 tauOK hE rfl (GStep.assign rfl) rfl rfl ?_
      refine DL.nil ?_
      refine DW.sub (T' := [(2, _), (3, _)]) (Sub.cons rfl (Sub.cons rfl Sub.nil)) (Sub.refl _) ?_
      refine DW.ret ?_
      exact RetD.sv rfl rfl (by rw [flat_len]) (by omega) rfl rfl
theorem coreJoin_ds : DFun Try.prog 22 gJoin := by
  have hE : EnvOK Try.prog [(38, gCore)] := EnvOK.cons coreValid_ds EnvOK.nil
  refine DFun.of tauOK (fn := Try.f22) Try.func22 rfl (by kernel_rfl) rfl rfl ?_
  intro C ds r hg hl
  unfold gJoin at hg
  split at hg
  case h_2 => cases hg
  rename_i n l
  cases hg
  refine ⟨by simp, ?_⟩
  obtain ⟨hn, hm, _⟩ := hl
  obtain ⟨c, rfl, rfl⟩ := flat_ex hn
  clear hn
  rw [unflat_flat]
  refine DW.seq ?_
  refine DW.region ?_
  refine DL.go0 tauOK hE rfl (GStep.assign rfl) rfl rfl ?_
  refine DL.go0 tauOK hE rfl (GStep.assign rfl) rfl rfl ?_
  refine DL.nil ?_
  refine DW.sub (T' := [(0, _)]) (Sub.cons rfl Sub.nil) (Sub.refl _) ?_
  refine DW.seq ?_
  refine DW.region ?_
  refine DL.go1 tauOK hE rfl (G.bs0p rfl rfl) rfl rfl rfl ?_
  refine DL.go0 tauOK hE rfl (GStep.assign rfl) rfl rfl ?_
  refine DL.nil ?_
  refine DW.sub (T' := [(0, _), (4, _)]) (Sub.cons rfl (Sub.cons rfl Sub.nil)) (Sub.refl _) ?_
  refine DW.seq ?_
  refine DW.seq ?_
  refine DW.region ?_
  refine DL.go0 tauOK hE rfl (GStep.move rfl) rfl rfl ?_
  refine DL.go0 tauOK hE rfl (G.call (v := .val _) (news := []) rfl (All2.cons (ArgOf.ro rfl rfl (by simp [flat_len])) All2.nil) (gCore_flat) rfl rfl) rfl rfl ?_
  refine DL.go0 tauOK hE rfl (GStep.not rfl) rfl rfl ?_
  refine DL.nil ?_
  refine DW.sub (T' := [(0, _), (4, _), (9, _)]) (Sub.cons rfl (Sub.cons rfl (Sub.cons rfl Sub.nil))) (Sub.refl _) ?_
  cases hc : coreB c
  · refine DW.condT rfl ?_
    rw [joinC_no hc]
    refine DW.seq ?_
    refine DW.region ?_
    refine DL.go0 tauOK hE rfl (GStep.move rfl) rfl rfl ?_
    refine DL.go0 tauOK hE rfl (GStep.assign rfl) rfl rfl ?_
    refine DL.go0 tauOK hE rfl (GStep.assign rfl) rfl rfl ?_
    refine DL.nil ?_
    refine DW.sub (T' := [(2, _), (3, _)]) (Sub.cons rfl (Sub.cons rfl Sub.nil)) (Sub.refl _) ?_
    refine DW.ret ?_
    exact RetD.sv rfl rfl rfl (by omega) rfl rfl
  · skip
    refine DW.condF rfl ?_
    have hle := (coreB_iff.1 hc).2
    rw [joinC_yes hc]
    refine DW.skip ?_
    refine DW.seq ?_
    refine DW.seq ?_
    refine DW.region ?_
    refine DL.go0 tauOK hE rfl (GStep.assign rfl) rfl rfl ?_
    refine DL.nil ?_
    refine DW.sub (T' := [(0, _), (4, _), (5, _)]) (Sub.cons rfl (Sub.cons rfl (Sub.cons rfl Sub.nil))) (Sub.refl _) ?_
    refine DW.block ?_
    refine DW.loop (α := Nat × List Pc × Nat) (fun (k, o, m) => [(0, .sl 0 0 c.length), (4, .sl 6 0 m), (5, .val (.int .i64 (k : Nat)))]) (fun (k, o, m) => [(0, .ro .i64 2 (flat c)), (6, .row 38 2 (flat o))]) (fun (k, o, m) => k ≤ c.length ∧ JI c k o ∧ o.length = m ∧ m ≤ k) (fun (k, o, m) => c.length - k) (0, [], 0) (⟨by omega, .inl ⟨rfl, rfl⟩, rfl, by omega⟩) (Sub.cons rfl (Sub.cons rfl (Sub.cons rfl Sub.nil))) (Sub.cons rfl (Sub.cons rfl Sub.nil)) ?_
    rintro ⟨k, o, m⟩ ⟨hk, hj, hm2, hmk⟩
    skip
    refine DW.seq ?_
    refine DW.seq ?_
    refine DW.region ?_
    refine DL.go0 tauOK hE rfl (GStep.move rfl) rfl rfl ?_
    refine DL.go0 tauOK hE rfl (GStep.move rfl) rfl rfl ?_
    first | refine DL.go0 tauOK hE rfl (GStep.len rfl rfl rfl) rfl rfl ?_ | refine DL.go0 tauOK hE rfl (GStep.lenNil rfl rfl) rfl rfl ?_
    refine DL.go0 tauOK hE rfl (GStep.binI rfl rfl rfl) rfl rfl ?_
    refine DL.nil ?_
    refine DW.sub (T' := [(0, _), (4, _), (5, _), (14, _)]) (Sub.cons rfl (Sub.cons rfl (Sub.cons rfl (Sub.cons rfl Sub.nil)))) (Sub.refl _) ?_
    refine DW.cond rfl (fun hlt => ?_) (fun hlt => ?_)
    · skip
      have hlt : k < c.length := by simpa using hlt
      refine DW.skip ?_
      refine DW.seq ?_
      refine DW.block ?_
      by_cases h0 : 0 < k
      · have hml := ji_len hj h0
        rw [hm2] at hml
        by_cases he : (c.getD (k - 1) (0, 0)).2 = (c.getD k (0, 0)).1
        · skip
          have hg := ji_grow hj hlt h0 he
          rw [hm2] at hg
          refine DW.seq ?_
          refine DW.draw tauOK hE mixed 16 (by kernel_rfl) ?_
          refine DR.go0 rfl (GStep.move rfl) rfl rfl ?_
          refine DR.go0 rfl (G.tr (GStep.binI rfl rfl rfl) (by rw [decide_eq_true_eq]; omega)) rfl rfl ?_
          refine DR.go0 rfl (GStep.move rfl) rfl rfl ?_
          first | refine DR.skip rfl rfl rfl ?_ | refine DR.go0 rfl (GStep.move rfl) rfl rfl ?_
          first | refine DR.skip rfl rfl rfl ?_ | refine DR.go0 rfl (GStep.move rfl) rfl rfl ?_
          first | refine DR.skip rfl rfl rfl ?_ | refine DR.go0 rfl (G.sub rfl rfl (by omega)) rfl rfl ?_ | refine DR.go0 rfl (GStep.binI rfl rfl rfl) rfl rfl ?_
          first | refine DR.skip rfl rfl rfl ?_ | refine DR.go0 rfl (G.ia2 (i := k - 1) rfl rfl rfl rfl rfl rfl (by omega) (by omega)) rfl rfl ?_
          first | refine DR.skip rfl rfl rfl ?_ | refine DR.go0 rfl (G.fa rfl rfl rfl (by decide)) rfl rfl ?_
          first | refine DR.skip rfl rfl rfl ?_ | refine DR.go0 rfl (G.lf1r rfl rfl rfl (by omega)) rfl rfl ?_ | refine DR.go0 rfl (G.lf1w rfl rfl rfl (by omega)) rfl rfl ?_
          first | refine DR.skip rfl rfl rfl ?_ | refine DR.go0 rfl (GStep.move rfl) rfl rfl ?_
          first | refine DR.skip rfl rfl rfl ?_ | refine DR.go0 rfl (GStep.move rfl) rfl rfl ?_
          first | refine DR.skip rfl rfl rfl ?_ | refine DR.go0 rfl (G.ia2 rfl rfl rfl rfl rfl rfl rfl (by omega)) rfl rfl ?_
          first | refine DR.skip rfl rfl rfl ?_ | refine DR.go0 rfl (G.fa rfl rfl rfl (by decide)) rfl rfl ?_
          first | refine DR.skip rfl rfl rfl ?_ | refine DR.go0 rfl (G.lf0r rfl rfl rfl (by omega)) rfl rfl ?_ | refine DR.go0 rfl (G.lf0w rfl rfl rfl (by omega)) rfl rfl ?_
          first | refine DR.skip rfl rfl rfl ?_ | refine DR.go0 rfl (G.tr (GStep.binI rfl rfl rfl) (by rw [beq_iff_eq, he])) rfl rfl ?_
          first | refine DR.go0 rfl (GStep.pickT rfl rfl) rfl rfl ?_ | refine DR.go0 rfl (GStep.pickF rfl rfl) rfl rfl ?_
          refine DR.nil ?_
          refine DL.nil ?_
          refine DW.sub (T' := [(0, _), (4, _), (5, _), (32, _)]) (Sub.cons rfl (Sub.cons rfl (Sub.cons rfl (Sub.cons rfl Sub.nil)))) (Sub.refl _) ?_
          refine DW.condT rfl ?_
          refine DW.region ?_
          refine DL.go0 tauOK hE rfl (GStep.move rfl) rfl rfl ?_
          refine DL.go0 tauOK hE rfl (GStep.move rfl) rfl rfl ?_
          first | refine DL.go0 tauOK hE rfl (GStep.len rfl rfl rfl) rfl rfl ?_ | refine DL.go0 tauOK hE rfl (GStep.lenNil rfl rfl) rfl rfl ?_
          first | refine DL.go0 tauOK hE rfl (G.sub rfl rfl (by omega)) rfl rfl ?_ | refine DL.go0 tauOK hE rfl (GStep.binI rfl rfl rfl) rfl rfl ?_
          refine DL.go0 tauOK hE rfl (GStep.move rfl) rfl rfl ?_
          refine DL.go0 tauOK hE rfl (GStep.move rfl) rfl rfl ?_
          refine DL.go0 tauOK hE rfl (G.ia2 rfl rfl rfl rfl rfl rfl rfl (by omega)) rfl rfl ?_
          refine DL.go0 tauOK hE rfl (G.fa rfl rfl rfl (by decide)) rfl rfl ?_
          first | refine DL.go0 tauOK hE rfl (G.lf1r rfl rfl rfl (by omega)) rfl rfl ?_ | refine DL.go0 tauOK hE rfl (G.lf1w rfl rfl rfl (by omega)) rfl rfl ?_
          refine DL.go0 tauOK hE rfl (G.ia2 (i := m - 1) rfl rfl rfl rfl rfl rfl (by omega) (by omega)) rfl rfl ?_
          refine DL.go0 tauOK hE rfl (G.fa rfl rfl rfl (by decide)) rfl rfl ?_
          refine DL.sf1 tauOK rfl rfl rfl rfl rfl rfl rfl (by omega) ?_
          refine DL.nil ?_
          refine DW.sub (T' := [(0, _), (4, _), (5, _)]) (Sub.cons rfl (Sub.cons rfl (Sub.cons rfl Sub.nil))) (Sub.refl _) ?_
          refine DW.region ?_
          refine DL.go0 tauOK hE rfl (GStep.move rfl) rfl rfl ?_
          first | refine DL.go0 tauOK hE rfl (G.add rfl rfl (by omega)) rfl rfl ?_ | refine DL.go0 tauOK hE rfl (GStep.binI rfl rfl rfl) rfl rfl ?_
          refine DL.go0 tauOK hE rfl (GStep.assign rfl) rfl rfl ?_
          refine DL.nil ?_
          refine ⟨(k + 1, _, m), ⟨by omega, hg, by simp [hm2], by omega⟩, by first | omega | (dsimp only; omega), ?_, ?_⟩
          · exact Sub.cons rfl (Sub.cons rfl (Sub.cons rfl Sub.nil))
          · exact Sub.cons rfl (Sub.cons rfl Sub.nil)
        · skip
          have hg := ji_new hj hlt (fun _ => he)
          refine DW.seq ?_
          refine DW.draw tauOK hE mixed 16 (by kernel_rfl) ?_
          refine DR.go0 rfl (GStep.move rfl) rfl rfl ?_
          refine DR.go0 rfl (G.tr (GStep.binI rfl rfl rfl) (by rw [decide_eq_true_eq]; omega)) rfl rfl ?_
          refine DR.go0 rfl (GStep.move rfl) rfl rfl ?_
          first | refine DR.skip rfl rfl rfl ?_ | refine DR.go0 rfl (GStep.move rfl) rfl rfl ?_
          first | refine DR.skip rfl rfl rfl ?_ | refine DR.go0 rfl (GStep.move rfl) rfl rfl ?_
          first | refine DR.skip rfl rfl rfl ?_ | refine DR.go0 rfl (G.sub rfl rfl (by omega)) rfl rfl ?_ | refine DR.go0 rfl (GStep.binI rfl rfl rfl) rfl rfl ?_
          first | refine DR.skip rfl rfl rfl ?_ | refine DR.go0 rfl (G.ia2 (i := k - 1) rfl rfl rfl rfl rfl rfl (by omega) (by omega)) rfl rfl ?_
          first | refine DR.skip rfl rfl rfl ?_ | refine DR.go0 rfl (G.fa rfl rfl rfl (by decide)) rfl rfl ?_
          first | refine DR.skip rfl rfl rfl ?_ | refine DR.go0 rfl (G.lf1r rfl rfl rfl (by omega)) rfl rfl ?_ | refine DR.go0 rfl (G.lf1w rfl rfl rfl (by omega)) rfl rfl ?_
          first | refine DR.skip rfl rfl rfl ?_ | refine DR.go0 rfl (GStep.move rfl) rfl rfl ?_
          first | refine DR.skip rfl rfl rfl ?_ | refine DR.go0 rfl (GStep.move rfl) rfl rfl ?_
          first | refine DR.skip rfl rfl rfl ?_ | refine DR.go0 rfl (G.ia2 rfl rfl rfl rfl rfl rfl rfl (by omega)) rfl rfl ?_
          first | refine DR.skip rfl rfl rfl ?_ | refine DR.go0 rfl (G.fa rfl rfl rfl (by decide)) rfl rfl ?_
          first | refine DR.skip rfl rfl rfl ?_ | refine DR.go0 rfl (G.lf0r rfl rfl rfl (by omega)) rfl rfl ?_ | refine DR.go0 rfl (G.lf0w rfl rfl rfl (by omega)) rfl rfl ?_
          first | refine DR.skip rfl rfl rfl ?_ | refine DR.go0 rfl (G.fl (GStep.binI rfl rfl rfl) (by rw [beq_eq_false_iff_ne]; exact he)) rfl rfl ?_
          first | refine DR.go0 rfl (GStep.pickT rfl rfl) rfl rfl ?_ | refine DR.go0 rfl (GStep.pickF rfl rfl) rfl rfl ?_
          refine DR.nil ?_
          refine DL.nil ?_
          refine DW.sub (T' := [(0, _), (4, _), (5, _), (32, _)]) (Sub.cons rfl (Sub.cons rfl (Sub.cons rfl (Sub.cons rfl Sub.nil)))) (Sub.refl _) ?_
          refine DW.condF rfl ?_
          refine DW.region ?_
          refine DL.go0 tauOK hE rfl (GStep.move rfl) rfl rfl ?_
          refine DL.go0 tauOK hE rfl (GStep.move rfl) rfl rfl ?_
          refine DL.go0 tauOK hE rfl (GStep.move rfl) rfl rfl ?_
          refine DL.go0 tauOK hE rfl (G.ia2 rfl rfl rfl rfl rfl rfl rfl (by omega)) rfl rfl ?_
          first | refine DL.go0 tauOK hE rfl (G.le2r rfl rfl rfl (by omega)) rfl rfl ?_ | refine DL.go0 tauOK hE rfl (G.le2w rfl rfl rfl (by omega)) rfl rfl ?_
          refine DL.go1 tauOK hE rfl (G.bs1p rfl rfl rfl) rfl rfl rfl ?_
          refine DL.app2 tauOK [(0, _), (5, _)] rfl rfl rfl rfl rfl rfl rfl rfl (hm2) rfl rfl rfl (by omega) (Sub.cons rfl (Sub.cons rfl Sub.nil)) rfl ?_
          refine DL.go0 tauOK hE rfl (GStep.assign rfl) rfl rfl ?_
          refine DL.nil ?_
          refine DW.sub (T' := [(0, _), (4, _), (5, _)]) (Sub.cons rfl (Sub.cons rfl (Sub.cons rfl Sub.nil))) (Sub.refl _) ?_
          refine DW.region ?_
          refine DL.go0 tauOK hE rfl (GStep.move rfl) rfl rfl ?_
          first | refine DL.go0 tauOK hE rfl (G.add rfl rfl (by omega)) rfl rfl ?_ | refine DL.go0 tauOK hE rfl (GStep.binI rfl rfl rfl) rfl rfl ?_
          refine DL.go0 tauOK hE rfl (GStep.assign rfl) rfl rfl ?_
          refine DL.nil ?_
          refine ⟨(k + 1, _, m + 1), ⟨by omega, hg, by simp [hm2], by omega⟩, by first | omega | (dsimp only; omega), ?_, ?_⟩
          · exact Sub.cons rfl (Sub.cons rfl (Sub.cons rfl Sub.nil))
          · exact Sub.cons rfl (Sub.cons rfl Sub.nil)
      · skip
        have hg := ji_new hj hlt (fun h => absurd h h0)
        refine DW.seq ?_
        refine DW.draw tauOK hE mixed 16 (by kernel_rfl) ?_
        refine DR.go0 rfl (GStep.move rfl) rfl rfl ?_
        refine DR.go0 rfl (G.fl (GStep.binI rfl rfl rfl) (by rw [decide_eq_false_iff_not]; omega)) rfl rfl ?_
        refine DR.go0 rfl (GStep.move rfl) rfl rfl ?_
        first | refine DR.skip rfl rfl rfl ?_ | refine DR.go0 rfl (GStep.move rfl) rfl rfl ?_
        first | refine DR.skip rfl rfl rfl ?_ | refine DR.go0 rfl (GStep.move rfl) rfl rfl ?_
        first | refine DR.skip rfl rfl rfl ?_ | refine DR.go0 rfl (G.sub rfl rfl (by omega)) rfl rfl ?_ | refine DR.go0 rfl (GStep.binI rfl rfl rfl) rfl rfl ?_
        first | refine DR.skip rfl rfl rfl ?_ | refine DR.go0 rfl (G.ia2 rfl rfl rfl rfl rfl rfl rfl (by omega)) rfl rfl ?_
        first | refine DR.skip rfl rfl rfl ?_ | refine DR.go0 rfl (G.fa rfl rfl rfl (by decide)) rfl rfl ?_
        first | refine DR.skip rfl rfl rfl ?_ | refine DR.go0 rfl (G.lf1r rfl rfl rfl (by omega)) rfl rfl ?_ | refine DR.go0 rfl (G.lf1w rfl rfl rfl (by omega)) rfl rfl ?_
        first | refine DR.skip rfl rfl rfl ?_ | refine DR.go0 rfl (GStep.move rfl) rfl rfl ?_
        first | refine DR.skip rfl rfl rfl ?_ | refine DR.go0 rfl (GStep.move rfl) rfl rfl ?_
        first | refine DR.skip rfl rfl rfl ?_ | refine DR.go0 rfl (G.ia2 rfl rfl rfl rfl rfl rfl rfl (by omega)) rfl rfl ?_
        first | refine DR.skip rfl rfl rfl ?_ | refine DR.go0 rfl (G.fa rfl rfl rfl (by decide)) rfl rfl ?_
        first | refine DR.skip rfl rfl rfl ?_ | refine DR.go0 rfl (G.lf0r rfl rfl rfl (by omega)) rfl rfl ?_ | refine DR.go0 rfl (G.lf0w rfl rfl rfl (by omega)) rfl rfl ?_
        first | refine DR.skip rfl rfl rfl ?_ | refine DR.go0 rfl (GStep.binI rfl rfl rfl) rfl rfl ?_
        first | refine DR.go0 rfl (GStep.pickT rfl rfl) rfl rfl ?_ | refine DR.go0 rfl (GStep.pickF rfl rfl) rfl rfl ?_
        refine DR.nil ?_
        refine DL.nil ?_
        refine DW.sub (T' := [(0, _), (4, _), (5, _), (32, _)]) (Sub.cons rfl (Sub.cons rfl (Sub.cons rfl (Sub.cons rfl Sub.nil)))) (Sub.refl _) ?_
        refine DW.condF rfl ?_
        refine DW.region ?_
        refine DL.go0 tauOK hE rfl (GStep.move rfl) rfl rfl ?_
        refine DL.go0 tauOK hE rfl (GStep.move rfl) rfl rfl ?_
        refine DL.go0 tauOK hE rfl (GStep.move rfl) rfl rfl ?_
        refine DL.go0 tauOK hE rfl (G.ia2 rfl rfl rfl rfl rfl rfl rfl (by omega)) rfl rfl ?_
        first | refine DL.go0 tauOK hE rfl (G.le2r rfl rfl rfl (by omega)) rfl rfl ?_ | refine DL.go0 tauOK hE rfl (G.le2w rfl rfl rfl (by omega)) rfl rfl ?_
        refine DL.go1 tauOK hE rfl (G.bs1p rfl rfl rfl) rfl rfl rfl ?_
        refine DL.app2 tauOK [(0, _), (5, _)] rfl rfl rfl rfl rfl rfl rfl rfl (hm2) rfl rfl rfl (by omega) (Sub.cons rfl (Sub.cons rfl Sub.nil)) rfl ?_
        refine DL.go0 tauOK hE rfl (GStep.assign rfl) rfl rfl ?_
        refine DL.nil ?_
        refine DW.sub (T' := [(0, _), (4, _), (5, _)]) (Sub.cons rfl (Sub.cons rfl (Sub.cons rfl Sub.nil))) (Sub.refl _) ?_
        refine DW.region ?_
        refine DL.go0 tauOK hE rfl (GStep.move rfl) rfl rfl ?_
        first | refine DL.go0 tauOK hE rfl (G.add rfl rfl (by omega)) rfl rfl ?_ | refine DL.go0 tauOK hE rfl (GStep.binI rfl rfl rfl) rfl rfl ?_
        refine DL.go0 tauOK hE rfl (GStep.assign rfl) rfl rfl ?_
        refine DL.nil ?_
        refine ⟨(k + 1, _, m + 1), ⟨by omega, hg, by simp [hm2], by omega⟩, by first | omega | (dsimp only; omega), ?_, ?_⟩
        · exact Sub.cons rfl (Sub.cons rfl (Sub.cons rfl Sub.nil))
        · exact Sub.cons rfl (Sub.cons rfl Sub.nil)
    · skip
      have hlt : k = c.length := by simp at hlt; omega
      subst hlt
      have he := ji_end hj
      subst he
      subst hm2
      refine DW.exit ?_
      refine DW.seq ?_
      refine DW.region ?_
      refine DL.go0 tauOK hE rfl (GStep.move rfl) rfl rfl ?_
      refine DL.go0 tauOK hE rfl (GStep.assign rfl) rfl rfl ?_
      refine DL.go0 tauOK hE rfl (GStep.assign rfl) rfl rfl ?_
      refine DL.nil ?_
      refine DW.sub (T' := [(2, _), (3, _)]) (Sub.cons rfl (Sub.cons rfl Sub.nil)) (Sub.refl _) ?_
      refine DW.ret ?_
      exact RetD.sv rfl rfl (by rw [flat_len]) (by omega) rfl rfl
theorem gapsC_yes {c : List Pc} (h : coreB c = true) : gapsC c = gapsL c := if_pos h
theorem gapsC_no {c : List Pc} (h : coreB c = false) : gapsC c = [] := if_neg (by rw [h]; simp)
def GI (c : List Pc) (k : Nat) (o : List Pc) : Prop := gapsL c = o ++ gapsR (c.getD (k - 1) (0, 0)).2 (c.drop k)
theorem gi_start (c : List Pc) : GI c 1 [] := by
  cases c <;> rfl
theorem gi_yes {c o : List Pc} {k : Nat} (h : GI c k o) (hk : k < c.length) (hp : (c.getD (k - 1) (0, 0)).2 < (c.getD k (0, 0)).1) : GI c (k + 1) (o ++ [((c.getD (k - 1) (0, 0)).2, (c.getD k (0, 0)).1)]) := by
  unfold GI at h ⊢
  rw [h, drop_at hk, gapsR, if_pos hp]
  simp
theorem gi_no {c o : List Pc} {k : Nat} (h : GI c k o) (hk : k < c.length) (hp : ¬ (c.getD (k - 1) (0, 0)).2 < (c.getD k (0, 0)).1) : GI c (k + 1) o := by
  unfold GI at h ⊢
  rw [h, drop_at hk, gapsR, if_neg hp]
  rfl
theorem coreGaps_di : DFun Try.prog 24 gGaps := by
  have hE : EnvOK Try.prog [(18, gCore)] := EnvOK.cons coreValid_di EnvOK.nil
  refine DFun.of tauOK (fn := Try.f24) Try.func24 rfl (by kernel_rfl) rfl rfl ?_
  intro C ds r hg hl
  unfold gGaps at hg
  split at hg
  case h_2 => cases hg
  rename_i n l
  cases hg
  refine ⟨by simp, ?_⟩
  obtain ⟨hn, hm, _⟩ := hl
  obtain ⟨c, rfl, rfl⟩ := flat_ex hn
  clear hn
  rw [unflat_flat]
  refine DW.seq ?_
  refine DW.region ?_
  refine DL.go0 tauOK hE rfl (GStep.assign rfl) rfl rfl ?_
  refine DL.nil ?_
  refine DW.sub (T' := [(0, _)]) (Sub.cons rfl Sub.nil) (Sub.refl _) ?_
  refine DW.seq ?_
  refine DW.seq ?_
  refine DW.region ?_
  refine DL.go0 tauOK hE rfl (GStep.move rfl) rfl rfl ?_
  refine DL.go0 tauOK hE rfl (G.call (v := .val _) (news := []) rfl (All2.cons (ArgOf.ro rfl rfl (by simp [flat_len])) All2.nil) (gCore_flat) rfl rfl) rfl rfl ?_
  refine DL.go0 tauOK hE rfl (GStep.not rfl) rfl rfl ?_
  refine DL.nil ?_
  refine DW.sub (T' := [(0, _), (7, _)]) (Sub.cons rfl (Sub.cons rfl Sub.nil)) (Sub.refl _) ?_
  cases hc : coreB c
  · refine DW.condT rfl ?_
    rw [gapsC_no hc]
    refine DW.seq ?_
    refine DW.region ?_
    refine DL.go0 tauOK hE rfl (GStep.assign rfl) rfl rfl ?_
    refine DL.nil ?_
    refine DW.sub (T' := [(2, _)]) (Sub.cons rfl Sub.nil) (Sub.refl _) ?_
    refine DW.ret ?_
    exact RetD.nl rfl (by omega)
  · skip
    refine DW.condF rfl ?_
    have hle := (coreB_iff.1 hc).2
    rw [gapsC_yes hc]
    refine DW.skip ?_
    refine DW.seq ?_
    refine DW.region ?_
    refine DL.go0 tauOK hE rfl (GStep.assign rfl) rfl rfl ?_
    refine DL.nil ?_
    refine DW.sub (T' := [(0, _), (3, _)]) (Sub.cons rfl (Sub.cons rfl Sub.nil)) (Sub.refl _) ?_
    refine DW.seq ?_
    refine DW.seq ?_
    refine DW.region ?_
    refine DL.go0 tauOK hE rfl (GStep.assign rfl) rfl rfl ?_
    refine DL.nil ?_
    refine DW.sub (T' := [(0, _), (3, _), (4, _)]) (Sub.cons rfl (Sub.cons rfl (Sub.cons rfl Sub.nil))) (Sub.refl _) ?_
    refine DW.nil 3 900 38 2 (by omega) rfl rfl ?_
    refine DW.block ?_
    refine DW.loop (α := Nat × List Pc × Nat) (fun (k, o, m) => [(0, .sl 0 0 c.length), (3, .sl 900 0 m), (4, .val (.int .i64 (k : Nat)))]) (fun (k, o, m) => [(0, .ro .i64 2 (flat c)), (900, .row 38 2 (flat o))]) (fun (k, o, m) => 1 ≤ k ∧ (k ≤ c.length ∨ k = 1) ∧ GI c k o ∧ o.length = m ∧ m ≤ k) (fun (k, o, m) => c.length - k) (1, [], 0) (⟨by omega, .inr rfl, gi_start c, rfl, by omega⟩) (Sub.cons rfl (Sub.cons rfl (Sub.cons rfl Sub.nil))) (Sub.cons rfl (Sub.cons rfl Sub.nil)) ?_
    rintro ⟨k, o, m⟩ ⟨hk1, hk, hj, hm2, hmk⟩
    skip
    refine DW.seq ?_
    refine DW.seq ?_
    refine DW.region ?_
    refine DL.go0 tauOK hE rfl (GStep.move rfl) rfl rfl ?_
    refine DL.go0 tauOK hE rfl (GStep.move rfl) rfl rfl ?_
    first | refine DL.go0 tauOK hE rfl (GStep.len rfl rfl rfl) rfl rfl ?_ | refine DL.go0 tauOK hE rfl (GStep.lenNil rfl rfl) rfl rfl ?_
    refine DL.go0 tauOK hE rfl (GStep.binI rfl rfl rfl) rfl rfl ?_
    refine DL.nil ?_
    refine DW.sub (T' := [(0, _), (3, _), (4, _), (11, _)]) (Sub.cons rfl (Sub.cons rfl (Sub.cons rfl (Sub.cons rfl Sub.nil)))) (Sub.refl _) ?_
    refine DW.cond rfl (fun hlt => ?_) (fun hlt => ?_)
    · skip
      have hlt : k < c.length := by simpa using hlt
      refine DW.skip ?_
      refine DW.seq ?_
      refine DW.block ?_
      by_cases hp : (c.getD (k - 1) (0, 0)).2 < (c.getD k (0, 0)).1
      · skip
        have hg := gi_yes hj hlt hp
        refine DW.seq ?_
        refine DW.draw tauOK hE mixed 12 (by kernel_rfl) ?_
        refine DR.go0 rfl (GStep.move rfl) rfl rfl ?_
        refine DR.go0 rfl (GStep.move rfl) rfl rfl ?_
        first | refine DR.go0 rfl (G.sub rfl rfl (by omega)) rfl rfl ?_ | refine DR.go0 rfl (GStep.binI rfl rfl rfl) rfl rfl ?_
        refine DR.go0 rfl (G.ia2 (i := k - 1) rfl rfl rfl rfl rfl rfl (by omega) (by omega)) rfl rfl ?_
        refine DR.go0 rfl (G.fa rfl rfl rfl (by decide)) rfl rfl ?_
        first | refine DR.go0 rfl (G.lf1r rfl rfl rfl (by omega)) rfl rfl ?_ | refine DR.go0 rfl (G.lf1w rfl rfl rfl (by omega)) rfl rfl ?_
        refine DR.go0 rfl (GStep.move rfl) rfl rfl ?_
        refine DR.go0 rfl (GStep.move rfl) rfl rfl ?_
        refine DR.go0 rfl (G.ia2 rfl rfl rfl rfl rfl rfl rfl (by omega)) rfl rfl ?_
        refine DR.go0 rfl (G.fa rfl rfl rfl (by decide)) rfl rfl ?_
        first | refine DR.go0 rfl (G.lf0r rfl rfl rfl (by omega)) rfl rfl ?_ | refine DR.go0 rfl (G.lf0w rfl rfl rfl (by omega)) rfl rfl ?_
        refine DR.go0 rfl (G.tr (GStep.binI rfl rfl rfl) (by rw [decide_eq_true_eq]; exact hp)) rfl rfl ?_
        refine DR.nil ?_
        refine DL.nil ?_
        refine DW.sub (T' := [(0, _), (3, _), (4, _), (25, _)]) (Sub.cons rfl (Sub.cons rfl (Sub.cons rfl (Sub.cons rfl Sub.nil)))) (Sub.refl _) ?_
        refine DW.condT rfl ?_
        refine DW.drawM tauOK hE pick_d mixed 15 (by kernel_rfl) (by kernel_rfl) ?_
        refine DM.go0 rfl (GStep.move rfl) rfl rfl ?_
        refine DM.go0 rfl (GStep.move rfl) rfl rfl ?_
        refine DM.go0 rfl (GStep.move rfl) rfl rfl ?_
        first | refine DM.go0 rfl (G.sub rfl rfl (by omega)) rfl rfl ?_ | refine DM.go0 rfl (GStep.binI rfl rfl rfl) rfl rfl ?_
        refine DM.go0 rfl (G.ia2 (i := k - 1) rfl rfl rfl rfl rfl rfl (by omega) (by omega)) rfl rfl ?_
        refine DM.go0 rfl (G.fa rfl rfl rfl (by decide)) rfl rfl ?_
        first | refine DM.go0 rfl (G.lf1r rfl rfl rfl (by omega)) rfl rfl ?_ | refine DM.go0 rfl (G.lf1w rfl rfl rfl (by omega)) rfl rfl ?_
        refine DM.go0 rfl (GStep.move rfl) rfl rfl ?_
        refine DM.go0 rfl (GStep.move rfl) rfl rfl ?_
        refine DM.go0 rfl (G.ia2 rfl rfl rfl rfl rfl rfl rfl (by omega)) rfl rfl ?_
        refine DM.go0 rfl (G.fa rfl rfl rfl (by decide)) rfl rfl ?_
        first | refine DM.go0 rfl (G.lf0r rfl rfl rfl (by omega)) rfl rfl ?_ | refine DM.go0 rfl (G.lf0w rfl rfl rfl (by omega)) rfl rfl ?_
        refine DM.go0 rfl (G.b01 rfl rfl rfl) rfl rfl ?_
        refine DM.go1 rfl (G.bs1p rfl rfl rfl) rfl rfl rfl ?_
        refine DM.app rfl rfl rfl rfl rfl rfl rfl rfl rfl rfl (by rw [flat_len, hm2]) rfl rfl rfl rfl rfl (by omega) (show _ = flat [(_, _)] from rfl) rfl ?_
        refine DM.nil (by kernel_rfl) ?_
        refine DL.go0 tauOK hE rfl (GStep.assign rfl) rfl rfl ?_
        refine DL.nil ?_
        refine DW.sub (T' := [(0, _), (3, _), (4, _)]) (Sub.cons rfl (Sub.cons rfl (Sub.cons rfl Sub.nil))) (Sub.refl _) ?_
        rw [← flat_app]
        refine DW.ren 40 900 rfl rfl ?_
        refine DW.sub (T' := [(0, .sl 0 0 c.length), (3, .sl 900 0 (m + 1)), (4, .val (.int .i64 (k : Nat)))]) (H' := [(0, .ro .i64 2 (flat c)), (900, .row 38 2 (flat (o ++ [((c.getD (k - 1) (0, 0)).2, (c.getD k (0, 0)).1)])))]) (Sub.cons (by first | rfl | exact sl_of rfl (by first | omega | (simp; omega))) (Sub.cons (by first | rfl | exact sl_of rfl (by first | omega | (simp; omega))) (Sub.cons (by first | rfl | exact int_of rfl (by omega)) Sub.nil))) (Sub.cons rfl (Sub.cons (by first | rfl | exact row_of rfl (by simp)) Sub.nil)) ?_
        refine DW.region ?_
        refine DL.go0 tauOK hE rfl (GStep.move rfl) rfl rfl ?_
        first | refine DL.go0 tauOK hE rfl (G.add rfl rfl (by omega)) rfl rfl ?_ | refine DL.go0 tauOK hE rfl (GStep.binI rfl rfl rfl) rfl rfl ?_
        refine DL.go0 tauOK hE rfl (GStep.assign rfl) rfl rfl ?_
        refine DL.nil ?_
        refine ⟨(k + 1, _, m + 1), ⟨by omega, .inl (by omega), hg, by simp [hm2], by omega⟩, by first | omega | (dsimp only; omega), ?_, ?_⟩
        · exact Sub.cons rfl (Sub.cons rfl (Sub.cons rfl Sub.nil))
        · exact Sub.cons rfl (Sub.cons rfl Sub.nil)
      · skip
        have hg := gi_no hj hlt hp
        refine DW.seq ?_
        refine DW.draw tauOK hE mixed 12 (by kernel_rfl) ?_
        refine DR.go0 rfl (GStep.move rfl) rfl rfl ?_
        refine DR.go0 rfl (GStep.move rfl) rfl rfl ?_
        first | refine DR.go0 rfl (G.sub rfl rfl (by omega)) rfl rfl ?_ | refine DR.go0 rfl (GStep.binI rfl rfl rfl) rfl rfl ?_
        refine DR.go0 rfl (G.ia2 (i := k - 1) rfl rfl rfl rfl rfl rfl (by omega) (by omega)) rfl rfl ?_
        refine DR.go0 rfl (G.fa rfl rfl rfl (by decide)) rfl rfl ?_
        first | refine DR.go0 rfl (G.lf1r rfl rfl rfl (by omega)) rfl rfl ?_ | refine DR.go0 rfl (G.lf1w rfl rfl rfl (by omega)) rfl rfl ?_
        refine DR.go0 rfl (GStep.move rfl) rfl rfl ?_
        refine DR.go0 rfl (GStep.move rfl) rfl rfl ?_
        refine DR.go0 rfl (G.ia2 rfl rfl rfl rfl rfl rfl rfl (by omega)) rfl rfl ?_
        refine DR.go0 rfl (G.fa rfl rfl rfl (by decide)) rfl rfl ?_
        first | refine DR.go0 rfl (G.lf0r rfl rfl rfl (by omega)) rfl rfl ?_ | refine DR.go0 rfl (G.lf0w rfl rfl rfl (by omega)) rfl rfl ?_
        refine DR.go0 rfl (G.fl (GStep.binI rfl rfl rfl) (by rw [decide_eq_false_iff_not]; exact hp)) rfl rfl ?_
        refine DR.nil ?_
        refine DL.nil ?_
        refine DW.sub (T' := [(0, _), (3, _), (4, _), (25, _)]) (Sub.cons rfl (Sub.cons rfl (Sub.cons rfl (Sub.cons rfl Sub.nil)))) (Sub.refl _) ?_
        refine DW.condF rfl ?_
        refine DW.skip ?_
        refine DW.region ?_
        refine DL.go0 tauOK hE rfl (GStep.move rfl) rfl rfl ?_
        first | refine DL.go0 tauOK hE rfl (G.add rfl rfl (by omega)) rfl rfl ?_ | refine DL.go0 tauOK hE rfl (GStep.binI rfl rfl rfl) rfl rfl ?_
        refine DL.go0 tauOK hE rfl (GStep.assign rfl) rfl rfl ?_
        refine DL.nil ?_
        refine ⟨(k + 1, o, m), ⟨by omega, .inl (by omega), hg, hm2, by omega⟩, by first | omega | (dsimp only; omega), ?_, ?_⟩
        · exact Sub.cons rfl (Sub.cons rfl (Sub.cons rfl Sub.nil))
        · exact Sub.cons rfl (Sub.cons rfl Sub.nil)
    · skip
      have hlt : c.length ≤ k := by simp at hlt; omega
      have he : o = gapsL c := by
        unfold GI at hj
        rw [hj, List.drop_of_length_le hlt]
        simp [gapsR]
      subst he
      subst hm2
      refine DW.exit ?_
      refine DW.seq ?_
      refine DW.region ?_
      refine DL.go0 tauOK hE rfl (GStep.move rfl) rfl rfl ?_
      refine DL.go0 tauOK hE rfl (GStep.assign rfl) rfl rfl ?_
      refine DL.nil ?_
      refine DW.sub (T' := [(2, _)]) (Sub.cons rfl Sub.nil) (Sub.refl _) ?_
      refine DW.ret ?_
      exact RetD.s1 rfl rfl (by rw [flat_len]) (by omega)
end Go.Proofs.Ytionljjdfgeggaa
