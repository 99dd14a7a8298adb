/-
  A knot more: both functions, walked by the plain machine.
-/
import Derived.Test.YtidcomcnieggaaaBin
import Derived.Test.YtidcomcnieggaaaIns
namespace Go.Proofs.Ytidcomcnieggaaa
open Go.RowKit
set_option linter.unusedVariables false
set_option linter.unusedSimpArgs false
def gAddK : List AD → Option RD
  | [.sl .i64 2 _ l, .v (.agg ⟨[.int .i64 a, .int .i64 b]⟩)] => some (.tup [.row 25 2 (addK (unflat l) (a, b)).length (flat (addK (unflat l) (a, b))), .v (.bool (addO (unflat l) (a, b)))])
  | _ => none
theorem gAddK_flat {n : Nat} {c : List Kn} {a b : Int} : gAddK [.sl .i64 2 n (flat c), .v (.agg #[.int .i64 a, .int .i64 b])] = some (.tup [.row 25 2 (addK c (a, b)).length (flat (addK c (a, b))), .v (.bool (addO c (a, b)))]) := by simp [gAddK, unflat_flat]
theorem addK_no {c : List Kn} {k : Kn} (h : addO c k = false) : addK c k = [] := if_neg (by rw [h]; simp)
theorem addK_le (c : List Kn) (k : Kn) : (addK c k).length ≤ 12 ∧ (flat (addK c k)).length ≤ 24 := by
  rw [flat_len]
  cases h : addO c k
  · rw [addK_no h]; simp
  · obtain ⟨h1, h2⟩ := addO_iff.1 h
    have := cur_len h2
    rw [addL_eq h]; omega
theorem lo_succ {c : List Kn} {k : Nat} {a : Int} (h : ∀ t, t < k → kx c t < a) (h1 : (c.getD k (0, 0)).1 < a) : ∀ t, t < k + 1 → kx c t < a := by
  intro t ht
  by_cases e : t = k
  · subst e; exact h1
  · exact h t (by omega)
theorem curveAdd_di : DFun Try.prog 13 gAddK := by
  have hE : EnvOK Try.prog [(38, gCur), (39, gBS), (43, gCloneKnot)] := EnvOK.cons curveValid_di (EnvOK.cons bsearch_d (EnvOK.cons cloneKnot_d EnvOK.nil))
  refine DFun.of tauOK (fn := Try.f13) Try.func13 rfl (by kernel_rfl) rfl rfl ?_
  intro C ds r hg hl
  unfold gAddK at hg
  split at hg
  case h_2 => cases hg
  rename_i n l a b
  cases hg
  refine ⟨by simp, ?_⟩
  obtain ⟨hn, hm, _⟩ := hl
  obtain ⟨c, rfl, rfl⟩ := flat_ex hn
  clear hn
  rw [unflat_flat]
  refine DW.seq ?_
  refine DW.region ?_
  refine DL.go1 tauOK hE rfl (GStep.box2 rfl) rfl rfl rfl ?_
  refine DL.go0 tauOK hE rfl (GStep.assign rfl) rfl rfl ?_
  refine DL.go0 tauOK hE rfl (GStep.assign rfl) rfl rfl ?_
  refine DL.nil ?_
  refine DW.sub (T' := [(0, _), (3, _)]) (Sub.cons rfl (Sub.cons rfl Sub.nil)) (Sub.refl _) ?_
  refine DW.seq ?_
  refine DW.seq ?_
  refine DW.region ?_
  refine DL.go0 tauOK hE rfl (GStep.move rfl) rfl rfl ?_
  refine DL.go0 tauOK hE rfl (G.call (v := .val _) (news := []) rfl (All2.cons (ArgOf.ro rfl rfl (by simp [flat_len])) All2.nil) (gCur_flat) rfl rfl) rfl rfl ?_
  refine DL.go0 tauOK hE rfl (GStep.not rfl) rfl rfl ?_
  refine DL.nil ?_
  refine DW.sub (T' := [(0, _), (3, _), (11, _)]) (Sub.cons rfl (Sub.cons rfl (Sub.cons rfl Sub.nil))) (Sub.refl _) ?_
  cases hc : curB c
  · refine DW.condT rfl ?_
    have hO : addO c (a, b) = false := by simp [addO, hc]
    rw [addK_no hO, hO]
    refine DW.seq ?_
    refine DW.region ?_
    refine DL.go0 tauOK hE rfl (GStep.assign rfl) rfl rfl ?_
    refine DL.go0 tauOK hE rfl (GStep.assign rfl) rfl rfl ?_
    refine DL.nil ?_
    refine DW.sub (T' := [(4, _), (5, _)]) (Sub.cons rfl (Sub.cons rfl Sub.nil)) (Sub.refl _) ?_
    refine DW.ret ?_
    exact RetD.nv rfl (by omega) rfl rfl
  · skip
    refine DW.condF rfl ?_
    have hcl := cur_len hc
    have hX := insI_X c (a, b)
    have hXl : insX c a ≤ c.length := insI_le c (a, b)
    have hL := insK_len c (a, b)
    refine DW.skip ?_
    refine DW.seq ?_
    refine DW.region ?_
    refine DL.go0 tauOK hE rfl (GStep.move rfl) rfl rfl ?_
    refine DL.go0 tauOK hE rfl (G.fa rfl rfl rfl (by decide)) rfl rfl ?_
    refine DL.go0 tauOK hE rfl (G.lbf0 rfl rfl rfl) rfl rfl ?_
    refine DL.swap (op' := .call { callee := .value (.func 39), args := #[.tmp 13, .tmp 15, .const (.func (.func 40) #[] #[])], argTypes := #[23, 3, 59] }) (fun a _ => by simp [execOp, resolve, Act.eval]) ?_
    refine DL.go0 tauOK hE rfl (G.call (v := .tup [.v _, .v _]) (news := []) rfl (All2.cons (ArgOf.ro rfl rfl (by simp [flat_len])) (All2.cons (ArgOf.v rfl) (All2.cons (ArgOf.v rfl) All2.nil))) (gBS_flat hc) rfl rfl) rfl rfl ?_
    refine DL.go0 tauOK hE rfl (GStep.move rfl) rfl rfl ?_
    refine DL.go0 tauOK hE rfl (GStep.extr rfl rfl) rfl rfl ?_
    refine DL.go0 tauOK hE rfl (GStep.extr rfl rfl) rfl rfl ?_
    refine DL.go0 tauOK hE rfl (GStep.assign rfl) rfl rfl ?_
    refine DL.go0 tauOK hE rfl (GStep.assign rfl) rfl rfl ?_
    refine DL.nil ?_
    refine DW.sub (T' := [(0, _), (3, _), (6, _)]) (Sub.cons rfl (Sub.cons rfl (Sub.cons rfl Sub.nil))) (Sub.refl _) ?_
    have e1 : c.take (insX c a) ++ (a, b) :: c.drop (insX c a) = insK c (a, b) := rfl
    refine DW.seq ?_
    refine DW.draw tauOK hE mixed 5 (by kernel_rfl) ?_
    refine DR.go0 rfl (GStep.move rfl) rfl rfl ?_
    refine DR.go1 rfl (G.call (v := .sl _ 0 _) (news := [.row _ _ _]) rfl (All2.cons (ArgOf.ro rfl rfl (by simp [flat_len])) All2.nil) (gCloneKnot_eq (by omega)) rfl rfl) rfl rfl rfl ?_
    refine DR.go0 rfl (GStep.move rfl) rfl rfl ?_
    refine DR.go0 rfl (G.lb2 rfl rfl rfl) rfl rfl ?_
    refine DR.go1 rfl (G.bs1p rfl rfl rfl) rfl rfl rfl ?_
    refine DR.nil ?_
    refine DL.ins (i := insX c a) ins_dKnot rfl rfl rfl rfl rfl rfl rfl rfl rfl rfl rfl rfl (rfl) (by omega) (by omega) (by omega) (by omega) ?_
    refine DL.go0 tauOK hE rfl (GStep.assign rfl) rfl rfl ?_
    refine DL.nil ?_
    refine DW.sub (T' := [(8, _)]) (Sub.cons rfl Sub.nil) (Sub.refl _) ?_
    rw [e1, ← hL]
    refine DW.seq ?_
    refine DW.seq ?_
    refine DW.region ?_
    refine DL.go0 tauOK hE rfl (GStep.move rfl) rfl rfl ?_
    refine DL.go0 tauOK hE rfl (G.call (v := .val _) (news := []) rfl (All2.cons (ArgOf.row rfl rfl (by simp [flat_len])) All2.nil) (gCur_flat) rfl rfl) rfl rfl ?_
    refine DL.go0 tauOK hE rfl (GStep.not rfl) rfl rfl ?_
    refine DL.nil ?_
    refine DW.sub (T' := [(8, _), (27, _)]) (Sub.cons rfl (Sub.cons rfl Sub.nil)) (Sub.refl _) ?_
    cases hi : curB (insK c (a, b))
    · skip
      have hO : addO c (a, b) = false := by simp [addO, hi]
      rw [addK_no hO, hO]
      refine DW.condT rfl ?_
      refine DW.seq ?_
      refine DW.region ?_
      refine DL.go0 tauOK hE rfl (GStep.assign rfl) rfl rfl ?_
      refine DL.go0 tauOK hE rfl (GStep.assign rfl) rfl rfl ?_
      refine DL.nil ?_
      refine DW.sub (T' := [(4, _), (5, _)]) (Sub.cons rfl (Sub.cons rfl Sub.nil)) (Sub.refl _) ?_
      refine DW.ret ?_
      exact RetD.nv rfl (by omega) rfl rfl
    · skip
      have hO : addO c (a, b) = true := by simp [addO, hc, hi]
      rw [addL_eq hO, hO]
      refine DW.condF rfl ?_
      refine DW.skip ?_
      refine DW.seq ?_
      refine DW.region ?_
      refine DL.go0 tauOK hE rfl (GStep.move rfl) rfl rfl ?_
      refine DL.go0 tauOK hE rfl (GStep.assign rfl) rfl rfl ?_
      refine DL.go0 tauOK hE rfl (GStep.assign rfl) rfl rfl ?_
      refine DL.nil ?_
      refine DW.sub (T' := [(4, _), (5, _)]) (Sub.cons rfl (Sub.cons rfl Sub.nil)) (Sub.refl _) ?_
      refine DW.ret ?_
      exact RetD.sv rfl rfl (by rw [flat_len]) (by omega) rfl rfl
theorem curveAdd_ds : DFun Try.prog 14 gAddK := by
  have hE : EnvOK Try.prog [(44, gCur)] := EnvOK.cons curveValid_ds EnvOK.nil
  refine DFun.of tauOK (fn := Try.f14) Try.func14 rfl (by kernel_rfl) rfl rfl ?_
  intro C ds r hg hl
  unfold gAddK at hg
  split at hg
  case h_2 => cases hg
  rename_i n l a b
  cases hg
  refine ⟨by simp, ?_⟩
  obtain ⟨hn, hm, _⟩ := hl
  obtain ⟨c, rfl, rfl⟩ := flat_ex hn
  clear hn
  rw [unflat_flat]
  refine DW.seq ?_
  refine DW.region ?_
  refine DL.go1 tauOK hE rfl (GStep.box2 rfl) rfl rfl rfl ?_
  refine DL.go0 tauOK hE rfl (GStep.assign rfl) rfl rfl ?_
  refine DL.go0 tauOK hE rfl (GStep.assign rfl) rfl rfl ?_
  refine DL.nil ?_
  refine DW.sub (T' := [(0, _), (3, _)]) (Sub.cons rfl (Sub.cons rfl Sub.nil)) (Sub.refl _) ?_
  refine DW.seq ?_
  refine DW.seq ?_
  refine DW.region ?_
  refine DL.go0 tauOK hE rfl (GStep.move rfl) rfl rfl ?_
  refine DL.go0 tauOK hE rfl (G.call (v := .val _) (news := []) rfl (All2.cons (ArgOf.ro rfl rfl (by simp [flat_len])) All2.nil) (gCur_flat) rfl rfl) rfl rfl ?_
  refine DL.go0 tauOK hE rfl (GStep.not rfl) rfl rfl ?_
  refine DL.nil ?_
  refine DW.sub (T' := [(0, _), (3, _), (10, _)]) (Sub.cons rfl (Sub.cons rfl (Sub.cons rfl Sub.nil))) (Sub.refl _) ?_
  cases hc : curB c
  · refine DW.condT rfl ?_
    have hO : addO c (a, b) = false := by simp [addO, hc]
    rw [addK_no hO, hO]
    refine DW.seq ?_
    refine DW.region ?_
    refine DL.go1 tauOK hE rfl (G.bs0p rfl rfl) rfl rfl rfl ?_
    refine DL.go0 tauOK hE rfl (GStep.assign rfl) rfl rfl ?_
    refine DL.go0 tauOK hE rfl (GStep.assign rfl) rfl rfl ?_
    refine DL.nil ?_
    refine DW.sub (T' := [(4, _), (5, _)]) (Sub.cons rfl (Sub.cons rfl Sub.nil)) (Sub.refl _) ?_
    refine DW.ret ?_
    exact RetD.sv rfl rfl rfl (by omega) rfl rfl
  · skip
    refine DW.condF rfl ?_
    have hcl := cur_len hc
    have hX := insI_X c (a, b)
    have hL := insK_len c (a, b)
    refine DW.skip ?_
    refine DW.seq ?_
    refine DW.region ?_
    refine DL.go0 tauOK hE rfl (GStep.assign rfl) rfl rfl ?_
    refine DL.nil ?_
    refine DW.sub (T' := [(0, _), (3, _), (6, _)]) (Sub.cons rfl (Sub.cons rfl (Sub.cons rfl Sub.nil))) (Sub.refl _) ?_
    refine DW.seq ?_
    refine DW.block ?_
    refine DW.loop (α := Nat) (fun k => [(0, .sl 0 0 c.length), (3, .ptr 3 0), (6, .val (.int .i64 (k : Nat)))]) (fun k => [(0, .ro .i64 2 (flat c)), (3, .box 25 [a, b])]) (fun k => k ≤ c.length ∧ ∀ t, t < k → kx c t < a) (fun k => c.length - k) 0 (⟨by omega, fun t ht => by omega⟩) (Sub.cons rfl (Sub.cons rfl (Sub.cons rfl Sub.nil))) (Sub.cons rfl (Sub.cons rfl Sub.nil)) ?_
    rintro k ⟨hk, hlo⟩
    skip
    by_cases hlt : k < c.length ∧ (c.getD k (0, 0)).1 < a
    · skip
      refine DW.seq ?_
      refine DW.seq ?_
      refine DW.draw tauOK hE mixed 14 (by kernel_rfl) ?_
      refine DR.go0 rfl (GStep.move rfl) rfl rfl ?_
      refine DR.go0 rfl (GStep.move rfl) rfl rfl ?_
      first | refine DR.go0 rfl (GStep.len rfl rfl rfl) rfl rfl ?_ | refine DR.go0 rfl (GStep.lenNil rfl rfl) rfl rfl ?_
      refine DR.go0 rfl (G.tr (GStep.binI rfl rfl rfl) (by simpa using hlt.1)) rfl rfl ?_
      refine DR.go0 rfl (GStep.move rfl) rfl rfl ?_
      first | refine DR.skip rfl rfl rfl ?_ | refine DR.go0 rfl (GStep.move rfl) rfl rfl ?_
      first | refine DR.skip rfl rfl rfl ?_ | refine DR.go0 rfl (GStep.move rfl) rfl rfl ?_
      first | refine DR.skip rfl rfl rfl ?_ | refine DR.go0 rfl (G.ia2 rfl rfl rfl rfl rfl rfl rfl (by omega)) rfl rfl ?_
      first | refine DR.skip rfl rfl rfl ?_ | refine DR.go0 rfl (G.fa rfl rfl rfl (by decide)) rfl rfl ?_
      first | refine DR.skip rfl rfl rfl ?_ | refine DR.go0 rfl (G.lf0r rfl rfl rfl (by omega)) rfl rfl ?_ | refine DR.go0 rfl (G.lf0w rfl rfl rfl (by omega)) rfl rfl ?_
      first | refine DR.skip rfl rfl rfl ?_ | refine DR.go0 rfl (G.fa rfl rfl rfl (by decide)) rfl rfl ?_
      first | refine DR.skip rfl rfl rfl ?_ | refine DR.go0 rfl (G.lbf0 rfl rfl rfl) rfl rfl ?_
      first | refine DR.skip rfl rfl rfl ?_ | refine DR.go0 rfl (G.tr (GStep.binI rfl rfl rfl) (by simpa using hlt.2)) rfl rfl ?_
      first | refine DR.go0 rfl (GStep.pickT rfl rfl) rfl rfl ?_ | refine DR.go0 rfl (GStep.pickF rfl rfl) rfl rfl ?_
      refine DR.nil ?_
      refine DL.nil ?_
      refine DW.sub (T' := [(0, _), (3, _), (6, _), (25, _)]) (Sub.cons rfl (Sub.cons rfl (Sub.cons rfl (Sub.cons rfl Sub.nil)))) (Sub.refl _) ?_
      refine DW.condT rfl ?_
      refine DW.skip ?_
      refine DW.block ?_
      refine DW.region ?_
      refine DL.go0 tauOK hE rfl (GStep.move rfl) rfl rfl ?_
      first | refine DL.go0 tauOK hE rfl (G.add rfl rfl (by omega)) rfl rfl ?_ | refine DL.go0 tauOK hE rfl (GStep.binI rfl rfl rfl) rfl rfl ?_
      refine DL.go0 tauOK hE rfl (GStep.assign rfl) rfl rfl ?_
      refine DL.nil ?_
      refine ⟨k + 1, ⟨hlt.1, lo_succ hlo hlt.2⟩, by first | omega | (dsimp only; omega), ?_, ?_⟩
      · exact Sub.cons rfl (Sub.cons rfl (Sub.cons rfl Sub.nil))
      · exact Sub.cons rfl (Sub.cons rfl Sub.nil)
    · skip
      have hX2 : insX c a = k := by
        refine insX_of hk hlo fun t h1 h2 => ?_
        have h3 : a ≤ kx c k := by
          have : k < c.length := by omega
          have h4 : ¬ (c.getD k (0, 0)).1 < a := fun h => hlt ⟨this, h⟩
          show a ≤ (c.getD k (0, 0)).1
          omega
        have := up_le hc h1 h2
        omega
      have y1 : List.take ((k - 0) * 2) (List.drop ((0 + 0) * 2) (flat c)) = flat (c.take k) := by simp [flat_take]
      have y2 : List.take ((c.length - k) * 2) (List.drop ((0 + k) * 2) (flat c)) = flat (c.drop k) := by
        have h3 := List.take_append_drop (k * 2) (flat c)
        have h4 : flat (c.take k) ++ flat (c.drop k) = flat c := by rw [← flat_app, List.take_append_drop]
        rw [flat_take] at h3
        rw [Nat.zero_add, List.take_of_length_le (by simp [flat_len]; omega)]
        exact List.append_cancel_left (h3.trans h4.symm)
      have e1 : (c.take k ++ [(a, b)]) ++ c.drop k = insK c (a, b) := by
        unfold insK
        rw [hX, hX2, List.append_assoc]; rfl
      refine DW.seq ?_
      refine DW.cut 25 (false) [0, 3, 6] ?_ ?_
      · cases h3 : decide ((k : Int) < c.length) <;> cases h4 : decide ((c.getD k (0, 0)).1 < a) <;> (
          (try have q_h3 := of_decide_eq_true h3); (try have q_h3 := of_decide_eq_false h3)
          (try have q_h4 := of_decide_eq_true h4); (try have q_h4 := of_decide_eq_false h4)
          refine DW.draw tauOK hE mixed 14 (by kernel_rfl) ?_
          refine DR.go0 rfl (GStep.move rfl) rfl rfl ?_
          refine DR.go0 rfl (GStep.move rfl) rfl rfl ?_
          first | refine DR.go0 rfl (GStep.len rfl rfl rfl) rfl rfl ?_ | refine DR.go0 rfl (GStep.lenNil rfl rfl) rfl rfl ?_
          try rw [h3]
          try rw [h4]
          refine DR.go0 rfl (GStep.binI rfl rfl rfl) rfl rfl ?_
          try rw [h3]
          try rw [h4]
          refine DR.go0 rfl (GStep.move rfl) rfl rfl ?_
          first | refine DR.skip rfl rfl rfl ?_ | refine DR.go0 rfl (GStep.move rfl) rfl rfl ?_
          first | refine DR.skip rfl rfl rfl ?_ | refine DR.go0 rfl (GStep.move rfl) rfl rfl ?_
          first | refine DR.skip rfl rfl rfl ?_ | refine DR.go0 rfl (G.ia2 rfl rfl rfl rfl rfl rfl rfl (by omega)) rfl rfl ?_
          first | refine DR.skip rfl rfl rfl ?_ | refine DR.go0 rfl (G.fa rfl rfl rfl (by decide)) rfl rfl ?_
          first | refine DR.skip rfl rfl rfl ?_ | refine DR.go0 rfl (G.lf0r rfl rfl rfl (by omega)) rfl rfl ?_ | refine DR.go0 rfl (G.lf0w rfl rfl rfl (by omega)) rfl rfl ?_
          first | refine DR.skip rfl rfl rfl ?_ | refine DR.go0 rfl (G.fa rfl rfl rfl (by decide)) rfl rfl ?_
          first | refine DR.skip rfl rfl rfl ?_ | refine DR.go0 rfl (G.lbf0 rfl rfl rfl) rfl rfl ?_
          first | refine DR.skip rfl rfl rfl ?_ | refine DR.go0 rfl (GStep.binI rfl rfl rfl) rfl rfl ?_
          try rw [h3]
          try rw [h4]
          first | refine DR.go0 rfl (GStep.pickT rfl rfl) rfl rfl ?_ | refine DR.go0 rfl (GStep.pickF rfl rfl) rfl rfl ?_
          refine DR.nil ?_
          refine DL.nil ?_
          exact ⟨rfl, _, rfl, by first | rfl | (exfalso; simp at h3 h4; exact hlt ⟨by omega, by omega⟩), SubK.cons rfl (SubK.cons rfl (SubK.cons rfl (SubK.nil))), Sub.refl _⟩)
      refine DW.sub (T' := [(0, _), (3, _), (6, _), (25, _)]) (Sub.cons rfl (Sub.cons rfl (Sub.cons rfl (Sub.cons rfl Sub.nil)))) (Sub.refl _) ?_
      refine DW.condF rfl ?_
      refine DW.exit ?_
      refine DW.seq ?_
      refine DW.region ?_
      refine DL.go1 tauOK hE rfl (G.bs0p rfl rfl) rfl rfl rfl ?_
      refine DL.go0 tauOK hE rfl (GStep.move rfl) rfl rfl ?_
      refine DL.go0 tauOK hE rfl (GStep.move rfl) rfl rfl ?_
      refine DL.go0 tauOK hE rfl (GStep.slice (l := 0) (h := k) rfl rfl rfl rfl rfl rfl rfl (rfl) (by omega) (by omega) (by omega)) rfl rfl ?_
      refine DL.app tauOK [(0, _), (3, _), (6, _)] rfl rfl rfl rfl rfl rfl rfl rfl rfl (rfl) rfl rfl rfl rfl rfl (by omega) y1 (Sub.cons rfl (Sub.cons rfl (Sub.cons rfl Sub.nil))) rfl ?_
      rw [show flat [] ++ flat (c.take k) = flat (c.take k) from rfl, show 0 + (k - 0) = k by omega]
      refine DL.go0 tauOK hE rfl (GStep.assign rfl) rfl rfl ?_
      refine DL.nil ?_
      refine DW.sub (T' := [(0, _), (3, _), (6, _), (7, _)]) (Sub.cons rfl (Sub.cons rfl (Sub.cons rfl (Sub.cons rfl Sub.nil)))) (Sub.refl _) ?_
      refine DW.seq ?_
      refine DW.region ?_
      refine DL.go0 tauOK hE rfl (GStep.move rfl) rfl rfl ?_
      refine DL.go0 tauOK hE rfl (G.lb2 rfl rfl rfl) rfl rfl ?_
      refine DL.go1 tauOK hE rfl (G.bs1p rfl rfl rfl) rfl rfl rfl ?_
      refine DL.app2 tauOK [(0, _), (6, _)] rfl rfl rfl rfl rfl rfl rfl rfl (by simp; omega) rfl rfl rfl (by omega) (Sub.cons rfl (Sub.cons rfl Sub.nil)) rfl ?_
      refine DL.go0 tauOK hE rfl (GStep.assign rfl) rfl rfl ?_
      refine DL.nil ?_
      refine DW.sub (T' := [(0, _), (6, _), (7, _)]) (Sub.cons rfl (Sub.cons rfl (Sub.cons rfl Sub.nil))) (Sub.refl _) ?_
      refine DW.seq ?_
      refine DW.region ?_
      refine DL.go0 tauOK hE rfl (GStep.move rfl) rfl rfl ?_
      refine DL.go0 tauOK hE rfl (GStep.move rfl) rfl rfl ?_
      refine DL.go0 tauOK hE rfl (GStep.move rfl) rfl rfl ?_
      refine DL.go0 tauOK hE rfl (GStep.slice (l := k) (h := _) rfl rfl rfl rfl rfl rfl rfl (by omega) (rfl) (by omega) (by omega)) rfl rfl ?_
      refine DL.app tauOK [] rfl rfl rfl rfl rfl rfl rfl rfl rfl (by rw [flat_len]; simp; omega) rfl rfl rfl rfl rfl (by omega) y2 (Sub.nil) rfl ?_
      rw [← flat_app, e1, show k + 1 + (c.length - k) = c.length + 1 by omega, ← hL]
      refine DL.go0 tauOK hE rfl (GStep.assign rfl) rfl rfl ?_
      refine DL.nil ?_
      refine DW.sub (T' := [(7, _)]) (Sub.cons rfl Sub.nil) (Sub.refl _) ?_
      refine DW.seq ?_
      refine DW.seq ?_
      refine DW.region ?_
      refine DL.go0 tauOK hE rfl (GStep.move rfl) rfl rfl ?_
      refine DL.go0 tauOK hE rfl (G.call (v := .val _) (news := []) rfl (All2.cons (ArgOf.row rfl rfl (by simp [flat_len])) All2.nil) (gCur_flat) rfl rfl) rfl rfl ?_
      refine DL.go0 tauOK hE rfl (GStep.not rfl) rfl rfl ?_
      refine DL.nil ?_
      refine DW.sub (T' := [(7, _), (44, _)]) (Sub.cons rfl (Sub.cons rfl Sub.nil)) (Sub.refl _) ?_
      cases hi : curB (insK c (a, b))
      · skip
        have hO : addO c (a, b) = false := by simp [addO, hi]
        rw [addK_no hO, hO]
        refine DW.condT rfl ?_
        refine DW.seq ?_
        refine DW.region ?_
        refine DL.go1 tauOK hE rfl (G.bs0p rfl rfl) rfl rfl rfl ?_
        refine DL.go0 tauOK hE rfl (GStep.assign rfl) rfl rfl ?_
        refine DL.go0 tauOK hE rfl (GStep.assign rfl) rfl rfl ?_
        refine DL.nil ?_
        refine DW.sub (T' := [(4, _), (5, _)]) (Sub.cons rfl (Sub.cons rfl Sub.nil)) (Sub.refl _) ?_
        refine DW.ret ?_
        exact RetD.sv rfl rfl rfl (by omega) rfl rfl
      · skip
        have hO : addO c (a, b) = true := by simp [addO, hc, hi]
        rw [addL_eq hO, hO]
        refine DW.condF rfl ?_
        refine DW.skip ?_
        refine DW.seq ?_
        refine DW.region ?_
        refine DL.go0 tauOK hE rfl (GStep.move rfl) rfl rfl ?_
        refine DL.go0 tauOK hE rfl (GStep.assign rfl) rfl rfl ?_
        refine DL.go0 tauOK hE rfl (GStep.assign rfl) rfl rfl ?_
        refine DL.nil ?_
        refine DW.sub (T' := [(4, _), (5, _)]) (Sub.cons rfl (Sub.cons rfl Sub.nil)) (Sub.refl _) ?_
        refine DW.ret ?_
        exact RetD.sv rfl rfl (by rw [flat_len]) (by omega) rfl rfl
end Go.Proofs.Ytidcomcnieggaaa
