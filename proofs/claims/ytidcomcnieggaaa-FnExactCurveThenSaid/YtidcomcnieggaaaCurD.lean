/-
  The contracts of the functions on curves (the test, turning, lean curves), walked by the plain machine.
-/
import Derived.Test.YtidcomcnieggaaaPairs
import Derived.Test.YtidcomcnieggaaaDenC
import Derived.Test.YtidcomcnieggaaaPureM
import Derived.Test.YtidcomcnieggaaaPureR
namespace Go.Proofs.Ytidcomcnieggaaa
open Go.RowKit
set_option linter.unusedVariables false
set_option linter.unusedSimpArgs false

def gIsDepth : List AD → Option RD
  | [.v (.int .i64 d)] => some (.one (.v (.bool (depB d))))
  | _ => none
def gIn : List AD → Option RD
  | [.v (.int .i64 n), .v (.int .i64 a), .v (.int .i64 b)] => some (.one (.v (.bool (decide (n ≥ a) && decide (n ≤ b)))))
  | _ => none
def gCur : List AD → Option RD
  | [.sl .i64 2 _ l] => some (.one (.v (.bool (curB (unflat l)))))
  | _ => none
theorem gCur_flat {n : Nat} {c : List Kn} : gCur [.sl .i64 2 n (flat c)] = some (.one (.v (.bool (curB c)))) := by simp [gCur, unflat_flat]
theorem depB_f {d : Int} (h : ¬ (0 ≤ d ∧ d ≤ 30000)) : depB d = false := by simp only [depB, decide_eq_false_iff_not]; exact h
theorem depB_t {d : Int} (h : depB d = true) : 0 ≤ d ∧ d ≤ 30000 := by simpa [depB] using h
theorem isDepth_di : DFun Try.prog 56 gIsDepth := by
  have hE : EnvOK Try.prog [] := EnvOK.nil
  refine DFun.of tauOK (fn := Try.f56) Try.func56 rfl (by kernel_rfl) rfl rfl ?_
  intro C ds r hg hl
  unfold gIsDepth at hg
  split at hg
  case h_2 => cases hg
  rename_i d
  cases hg
  refine ⟨by simp, ?_⟩
  refine DW.seq ?_
  refine DW.region ?_
  refine DL.go0 tauOK hE rfl (GStep.assign rfl) rfl rfl ?_
  refine DL.nil ?_
  refine DW.sub (T' := [(0, _)]) (Sub.cons rfl Sub.nil) (Sub.refl _) ?_
  have e : depB d = (decide (d ≥ 0) && decide (d ≤ 30000)) := by rw [Bool.eq_iff_iff]; simp [depB]
  rw [e]
  cases h0 : decide (d ≥ 0)
  · refine DW.seq ?_
    refine DW.region ?_
    refine DL.go0 tauOK hE rfl (GStep.move rfl) rfl rfl ?_
    refine DL.go0 tauOK hE rfl (GStep.binI rfl rfl rfl) rfl rfl ?_
    try rw [h0]
    refine DL.go0 tauOK hE rfl (GStep.move rfl) rfl rfl ?_
    first | refine DL.skip rfl rfl rfl ?_ | refine DL.go0 tauOK hE rfl (GStep.move rfl) rfl rfl ?_
    first | refine DL.skip rfl rfl rfl ?_ | refine DL.go0 tauOK hE rfl (GStep.binI rfl rfl rfl) rfl rfl ?_
    try rw [h0]
    first | refine DL.go0 tauOK hE rfl (GStep.pickT rfl rfl) rfl rfl ?_ | refine DL.go0 tauOK hE rfl (GStep.pickF rfl rfl) rfl rfl ?_
    refine DL.go0 tauOK hE rfl (GStep.assign rfl) rfl rfl ?_
    refine DL.nil ?_
    refine DW.sub (T' := [(2, _)]) (Sub.cons rfl Sub.nil) (Sub.refl _) ?_
    refine DW.ret ?_
    exact ⟨_, rfl, RV.v rfl rfl⟩
  · skip
    refine DW.seq ?_
    refine DW.region ?_
    refine DL.go0 tauOK hE rfl (GStep.move rfl) rfl rfl ?_
    refine DL.go0 tauOK hE rfl (GStep.binI rfl rfl rfl) rfl rfl ?_
    try rw [h0]
    refine DL.go0 tauOK hE rfl (GStep.move rfl) rfl rfl ?_
    first | refine DL.skip rfl rfl rfl ?_ | refine DL.go0 tauOK hE rfl (GStep.move rfl) rfl rfl ?_
    first | refine DL.skip rfl rfl rfl ?_ | refine DL.go0 tauOK hE rfl (GStep.binI rfl rfl rfl) rfl rfl ?_
    try rw [h0]
    first | refine DL.go0 tauOK hE rfl (GStep.pickT rfl rfl) rfl rfl ?_ | refine DL.go0 tauOK hE rfl (GStep.pickF rfl rfl) rfl rfl ?_
    refine DL.go0 tauOK hE rfl (GStep.assign rfl) rfl rfl ?_
    refine DL.nil ?_
    refine DW.sub (T' := [(2, _)]) (Sub.cons rfl Sub.nil) (Sub.refl _) ?_
    refine DW.ret ?_
    exact ⟨_, rfl, RV.v rfl rfl⟩
theorem l6In_ds : DFun Try.prog 49 gIn := by
  have hE : EnvOK Try.prog [] := EnvOK.nil
  refine DFun.of tauOK (fn := Try.f49) Try.func49 rfl (by kernel_rfl) rfl rfl ?_
  intro C ds r hg hl
  unfold gIn at hg
  split at hg
  case h_2 => cases hg
  rename_i n a b
  cases hg
  refine ⟨by simp, ?_⟩
  refine DW.seq ?_
  refine DW.region ?_
  refine DL.go0 tauOK hE rfl (GStep.assign rfl) rfl rfl ?_
  refine DL.nil ?_
  refine DW.sub (T' := [(0, _), (1, _), (2, _)]) (Sub.cons rfl (Sub.cons rfl (Sub.cons rfl Sub.nil))) (Sub.refl _) ?_
  cases h0 : decide (n ≥ a)
  · refine DW.seq ?_
    refine DW.region ?_
    refine DL.go0 tauOK hE rfl (GStep.move rfl) rfl rfl ?_
    refine DL.go0 tauOK hE rfl (GStep.move rfl) rfl rfl ?_
    refine DL.go0 tauOK hE rfl (GStep.binI rfl rfl rfl) rfl rfl ?_
    try rw [h0]
    refine DL.go0 tauOK hE rfl (GStep.move rfl) rfl rfl ?_
    first | refine DL.skip rfl rfl rfl ?_ | refine DL.go0 tauOK hE rfl (GStep.move rfl) rfl rfl ?_
    first | refine DL.skip rfl rfl rfl ?_ | refine DL.go0 tauOK hE rfl (GStep.move rfl) rfl rfl ?_
    first | refine DL.skip rfl rfl rfl ?_ | refine DL.go0 tauOK hE rfl (GStep.binI rfl rfl rfl) rfl rfl ?_
    try rw [h0]
    first | refine DL.go0 tauOK hE rfl (GStep.pickT rfl rfl) rfl rfl ?_ | refine DL.go0 tauOK hE rfl (GStep.pickF rfl rfl) rfl rfl ?_
    refine DL.go0 tauOK hE rfl (GStep.assign rfl) rfl rfl ?_
    refine DL.nil ?_
    refine DW.sub (T' := [(6, _)]) (Sub.cons rfl Sub.nil) (Sub.refl _) ?_
    refine DW.ret ?_
    exact ⟨_, rfl, RV.v rfl rfl⟩
  · skip
    refine DW.seq ?_
    refine DW.region ?_
    refine DL.go0 tauOK hE rfl (GStep.move rfl) rfl rfl ?_
    refine DL.go0 tauOK hE rfl (GStep.move rfl) rfl rfl ?_
    refine DL.go0 tauOK hE rfl (GStep.binI rfl rfl rfl) rfl rfl ?_
    try rw [h0]
    refine DL.go0 tauOK hE rfl (GStep.move rfl) rfl rfl ?_
    first | refine DL.skip rfl rfl rfl ?_ | refine DL.go0 tauOK hE rfl (GStep.move rfl) rfl rfl ?_
    first | refine DL.skip rfl rfl rfl ?_ | refine DL.go0 tauOK hE rfl (GStep.move rfl) rfl rfl ?_
    first | refine DL.skip rfl rfl rfl ?_ | refine DL.go0 tauOK hE rfl (GStep.binI rfl rfl rfl) rfl rfl ?_
    try rw [h0]
    first | refine DL.go0 tauOK hE rfl (GStep.pickT rfl rfl) rfl rfl ?_ | refine DL.go0 tauOK hE rfl (GStep.pickF rfl rfl) rfl rfl ?_
    refine DL.go0 tauOK hE rfl (GStep.assign rfl) rfl rfl ?_
    refine DL.nil ?_
    refine DW.sub (T' := [(6, _)]) (Sub.cons rfl Sub.nil) (Sub.refl _) ?_
    refine DW.ret ?_
    exact ⟨_, rfl, RV.v rfl rfl⟩
theorem l11Depth_ds : DFun Try.prog 60 gIsDepth := by
  have hE : EnvOK Try.prog [(49, gIn)] := EnvOK.cons l6In_ds EnvOK.nil
  refine DFun.of tauOK (fn := Try.f60) Try.func60 rfl (by kernel_rfl) rfl rfl ?_
  intro C ds r hg hl
  unfold gIsDepth at hg
  split at hg
  case h_2 => cases hg
  rename_i d
  cases hg
  refine ⟨by simp, ?_⟩
  have e : depB d = (decide (d ≥ 0) && decide (d ≤ 30000)) := by rw [Bool.eq_iff_iff]; simp [depB]
  rw [e]
  refine DW.seq ?_
  refine DW.region ?_
  refine DL.go0 tauOK hE rfl (GStep.assign rfl) rfl rfl ?_
  refine DL.nil ?_
  refine DW.sub (T' := [(0, _)]) (Sub.cons rfl Sub.nil) (Sub.refl _) ?_
  refine DW.seq ?_
  refine DW.region ?_
  refine DL.go0 tauOK hE rfl (GStep.move rfl) rfl rfl ?_
  refine DL.go0 tauOK hE rfl (G.call (v := .val _) (news := []) rfl (All2.cons (ArgOf.v rfl) (All2.cons (ArgOf.v rfl) (All2.cons (ArgOf.v rfl) All2.nil))) (rfl) rfl rfl) rfl rfl ?_
  refine DL.go0 tauOK hE rfl (GStep.assign rfl) rfl rfl ?_
  refine DL.nil ?_
  refine DW.sub (T' := [(2, _)]) (Sub.cons rfl Sub.nil) (Sub.refl _) ?_
  refine DW.ret ?_
  exact ⟨_, rfl, RV.v rfl rfl⟩
theorem cur_bad {c : List Kn} {k : Nat} (hk : k < c.length) (h : ¬ (((0 ≤ (c.getD k (0, 0)).1 ∧ (c.getD k (0, 0)).1 ≤ 30000) ∧ (0 ≤ (c.getD k (0, 0)).2 ∧ (c.getD k (0, 0)).2 ≤ 30000)) ∧ (0 < k → (c.getD (k - 1) (0, 0)).1 < (c.getD k (0, 0)).1 ∧ (c.getD (k - 1) (0, 0)).2 < (c.getD k (0, 0)).2))) : false = curB c := (curB_no hk h).symm
theorem curveValid_di : DFun Try.prog 38 gCur := by
  have hE : EnvOK Try.prog [(56, gIsDepth)] := EnvOK.cons isDepth_di EnvOK.nil
  refine DFun.of tauOK (fn := Try.f38) Try.func38 rfl (by kernel_rfl) rfl rfl ?_
  intro C ds r hg hl
  unfold gCur at hg
  split at hg
  case h_2 => cases hg
  rename_i n l
  cases hg
  refine ⟨by simp, ?_⟩
  obtain ⟨hn, hm, _⟩ := hl
  obtain ⟨c, rfl, rfl⟩ := flat_ex hn
  clear hn
  rw [unflat_flat]
  refine DW.seq ?_
  refine DW.region ?_
  refine DL.go0 tauOK hE rfl (GStep.assign rfl) rfl rfl ?_
  refine DL.nil ?_
  refine DW.sub (T' := [(0, _)]) (Sub.cons rfl Sub.nil) (Sub.refl _) ?_
  refine DW.seq ?_
  refine DW.seq ?_
  refine DW.region ?_
  refine DL.go0 tauOK hE rfl (GStep.move rfl) rfl rfl ?_
  first | refine DL.go0 tauOK hE rfl (GStep.len rfl rfl rfl) rfl rfl ?_ | refine DL.go0 tauOK hE rfl (GStep.lenNil rfl rfl) rfl rfl ?_
  refine DL.go0 tauOK hE rfl (GStep.move rfl) rfl rfl ?_
  refine DL.nil ?_
  refine DW.sub (T' := [(0, _), (5, _), (6, _), (7, _)]) (Sub.cons rfl (Sub.cons rfl (Sub.cons rfl (Sub.cons rfl Sub.nil)))) (Sub.refl _) ?_
  refine DW.block ?_
  refine DW.loop (α := Nat) (fun k => [(0, .sl 0 0 c.length), (5, .sl 0 0 c.length), (6, .val (.int .i64 c.length)), (7, .val (.int .i64 (k : Nat)))]) (fun k => [(0, .ro .i64 2 (flat c))]) (fun k => k ≤ c.length ∧ okC c k) (fun k => c.length - k) 0 (⟨by omega, okC_zero c⟩) (Sub.cons rfl (Sub.cons rfl (Sub.cons rfl (Sub.cons rfl Sub.nil)))) (Sub.cons rfl Sub.nil) ?_
  rintro k ⟨hk, hok⟩
  skip
  refine DW.seq ?_
  refine DW.region ?_
  refine DL.go0 tauOK hE rfl (GStep.binI rfl rfl rfl) rfl rfl ?_
  refine DL.nil ?_
  refine DW.sub (T' := [(0, _), (5, _), (6, _), (7, _), (8, _)]) (Sub.cons rfl (Sub.cons rfl (Sub.cons rfl (Sub.cons rfl (Sub.cons rfl Sub.nil))))) (Sub.refl _) ?_
  refine DW.seq ?_
  refine DW.cond rfl (fun hlt => ?_) (fun hlt => ?_)
  · skip
    have hlt : k < c.length := by simpa using hlt
    refine DW.skip ?_
    refine DW.seq ?_
    refine DW.block ?_
    refine DW.seq ?_
    refine DW.region ?_
    refine DL.go0 tauOK hE rfl (GStep.move rfl) rfl rfl ?_
    refine DL.go0 tauOK hE rfl (G.ia2 rfl rfl rfl rfl rfl rfl rfl (by omega)) rfl rfl ?_
    first | refine DL.go0 tauOK hE rfl (G.le2r rfl rfl rfl (by omega)) rfl rfl ?_ | refine DL.go0 tauOK hE rfl (G.le2w rfl rfl rfl (by omega)) rfl rfl ?_
    refine DL.go1 tauOK hE rfl (GStep.alloc2 rfl) rfl rfl rfl ?_
    refine DL.go0 tauOK hE rfl (GStep.assign rfl) rfl rfl ?_
    refine DL.sb2 tauOK rfl rfl rfl rfl rfl rfl rfl ?_
    refine DL.nil ?_
    refine DW.sub (T' := [(0, _), (3, _), (4, _), (5, _), (6, _), (7, _)]) (Sub.cons rfl (Sub.cons rfl (Sub.cons rfl (Sub.cons rfl (Sub.cons rfl (Sub.cons rfl Sub.nil)))))) (Sub.refl _) ?_
    refine DW.cut 47 (!depB (c.getD k (0, 0)).1 || !depB (c.getD k (0, 0)).2 || (decide (0 < (k : Int)) && (decide ((c.getD k (0, 0)).1 ≤ (c.getD (k - 1) (0, 0)).1) || decide ((c.getD k (0, 0)).2 ≤ (c.getD (k - 1) (0, 0)).2)))) [0, 5, 6, 7] ?_ ?_
    · cases hc1 : depB (c.getD k (0, 0)).1 <;> cases hc2 : depB (c.getD k (0, 0)).2 <;> cases h0 : decide (0 < (k : Int)) <;> cases h1 : decide ((c.getD k (0, 0)).1 ≤ (c.getD (k - 1) (0, 0)).1) <;> cases h2 : decide ((c.getD k (0, 0)).2 ≤ (c.getD (k - 1) (0, 0)).2) <;> (
        (try have q_hc1 := of_decide_eq_true hc1); (try have q_hc1 := of_decide_eq_false hc1)
        (try have q_hc2 := of_decide_eq_true hc2); (try have q_hc2 := of_decide_eq_false hc2)
        (try have q_h0 := of_decide_eq_true h0); (try have q_h0 := of_decide_eq_false h0)
        (try have q_h1 := of_decide_eq_true h1); (try have q_h1 := of_decide_eq_false h1)
        (try have q_h2 := of_decide_eq_true h2); (try have q_h2 := of_decide_eq_false h2)
        refine DW.draw tauOK hE mixed 36 (by kernel_rfl) ?_
        refine DR.go0 rfl (G.fa rfl rfl rfl (by decide)) rfl rfl ?_
        refine DR.go0 rfl (G.lbf0 rfl rfl rfl) rfl rfl ?_
        refine DR.go0 rfl (G.call (v := .val _) (news := []) rfl (All2.cons (ArgOf.v rfl) All2.nil) (rfl) rfl rfl) rfl rfl ?_
        try rw [hc1]
        try rw [hc2]
        try rw [h0]
        try rw [h1]
        try rw [h2]
        refine DR.go0 rfl (GStep.not rfl) rfl rfl ?_
        refine DR.go0 rfl (GStep.move rfl) rfl rfl ?_
        first | refine DR.skip rfl rfl rfl ?_ | refine DR.go0 rfl (G.fa rfl rfl rfl (by decide)) rfl rfl ?_
        first | refine DR.skip rfl rfl rfl ?_ | refine DR.go0 rfl (G.lbf1 rfl rfl rfl) rfl rfl ?_
        first | refine DR.skip rfl rfl rfl ?_ | refine DR.go0 rfl (G.call (v := .val _) (news := []) rfl (All2.cons (ArgOf.v rfl) All2.nil) (rfl) rfl rfl) rfl rfl ?_
        try rw [hc1]
        try rw [hc2]
        try rw [h0]
        try rw [h1]
        try rw [h2]
        first | refine DR.skip rfl rfl rfl ?_ | refine DR.go0 rfl (GStep.not rfl) rfl rfl ?_
        first | refine DR.go0 rfl (GStep.pickT rfl rfl) rfl rfl ?_ | refine DR.go0 rfl (GStep.pickF rfl rfl) rfl rfl ?_
        refine DR.go0 rfl (GStep.move rfl) rfl rfl ?_
        first | refine DR.skip rfl rfl rfl ?_ | refine DR.go0 rfl (GStep.move rfl) rfl rfl ?_
        first | refine DR.skip rfl rfl rfl ?_ | refine DR.go0 rfl (GStep.binI rfl rfl rfl) rfl rfl ?_
        try rw [hc1]
        try rw [hc2]
        try rw [h0]
        try rw [h1]
        try rw [h2]
        first | refine DR.skip rfl rfl rfl ?_ | refine DR.go0 rfl (GStep.move rfl) rfl rfl ?_
        first | refine DR.skip rfl rfl rfl ?_ | refine DR.go0 rfl (G.fa rfl rfl rfl (by decide)) rfl rfl ?_
        first | refine DR.skip rfl rfl rfl ?_ | refine DR.go0 rfl (G.lbf0 rfl rfl rfl) rfl rfl ?_
        first | refine DR.skip rfl rfl rfl ?_ | refine DR.go0 rfl (GStep.move rfl) rfl rfl ?_
        first | refine DR.skip rfl rfl rfl ?_ | refine DR.go0 rfl (GStep.move rfl) rfl rfl ?_
        first | refine DR.skip rfl rfl rfl ?_ | refine DR.go0 rfl (G.sub rfl rfl (by omega)) rfl rfl ?_ | refine DR.go0 rfl (GStep.binI rfl rfl rfl) rfl rfl ?_
        try rw [hc1]
        try rw [hc2]
        try rw [h0]
        try rw [h1]
        try rw [h2]
        first | refine DR.skip rfl rfl rfl ?_ | refine DR.go0 rfl (G.ia2 (i := k - 1) rfl rfl rfl rfl rfl rfl (by omega) (by omega)) rfl rfl ?_
        first | refine DR.skip rfl rfl rfl ?_ | refine DR.go0 rfl (G.fa rfl rfl rfl (by decide)) rfl rfl ?_
        first | refine DR.skip rfl rfl rfl ?_ | refine DR.go0 rfl (G.lf0r rfl rfl rfl (by omega)) rfl rfl ?_ | refine DR.go0 rfl (G.lf0w rfl rfl rfl (by omega)) rfl rfl ?_
        first | refine DR.skip rfl rfl rfl ?_ | refine DR.go0 rfl (GStep.binI rfl rfl rfl) rfl rfl ?_
        try rw [hc1]
        try rw [hc2]
        try rw [h0]
        try rw [h1]
        try rw [h2]
        first | refine DR.skip rfl rfl rfl ?_ | refine DR.go0 rfl (GStep.move rfl) rfl rfl ?_
        first | refine DR.skip rfl rfl rfl ?_ | refine DR.go0 rfl (G.fa rfl rfl rfl (by decide)) rfl rfl ?_
        first | refine DR.skip rfl rfl rfl ?_ | refine DR.go0 rfl (G.lbf1 rfl rfl rfl) rfl rfl ?_
        first | refine DR.skip rfl rfl rfl ?_ | refine DR.go0 rfl (GStep.move rfl) rfl rfl ?_
        first | refine DR.skip rfl rfl rfl ?_ | refine DR.go0 rfl (GStep.move rfl) rfl rfl ?_
        first | refine DR.skip rfl rfl rfl ?_ | refine DR.go0 rfl (G.sub rfl rfl (by omega)) rfl rfl ?_ | refine DR.go0 rfl (GStep.binI rfl rfl rfl) rfl rfl ?_
        try rw [hc1]
        try rw [hc2]
        try rw [h0]
        try rw [h1]
        try rw [h2]
        first | refine DR.skip rfl rfl rfl ?_ | refine DR.go0 rfl (G.ia2 (i := k - 1) rfl rfl rfl rfl rfl rfl (by omega) (by omega)) rfl rfl ?_
        first | refine DR.skip rfl rfl rfl ?_ | refine DR.go0 rfl (G.fa rfl rfl rfl (by decide)) rfl rfl ?_
        first | refine DR.skip rfl rfl rfl ?_ | refine DR.go0 rfl (G.lf1r rfl rfl rfl (by omega)) rfl rfl ?_ | refine DR.go0 rfl (G.lf1w rfl rfl rfl (by omega)) rfl rfl ?_
        first | refine DR.skip rfl rfl rfl ?_ | refine DR.go0 rfl (GStep.binI rfl rfl rfl) rfl rfl ?_
        try rw [hc1]
        try rw [hc2]
        try rw [h0]
        try rw [h1]
        try rw [h2]
        first | refine DR.skip rfl rfl rfl ?_ | refine DR.go0 rfl (GStep.pickT rfl rfl) rfl rfl ?_ | refine DR.go0 rfl (GStep.pickF rfl rfl) rfl rfl ?_
        first | refine DR.skip rfl rfl rfl ?_ | refine DR.go0 rfl (GStep.pickT rfl rfl) rfl rfl ?_ | refine DR.go0 rfl (GStep.pickF rfl rfl) rfl rfl ?_
        first | refine DR.go0 rfl (GStep.pickT rfl rfl) rfl rfl ?_ | refine DR.go0 rfl (GStep.pickF rfl rfl) rfl rfl ?_
        refine DR.nil ?_
        refine DL.nil ?_
        exact ⟨rfl, _, rfl, by simp [hc1, hc2, h0, h1, h2], SubK.cons rfl (SubK.cons rfl (SubK.cons rfl (SubK.cons rfl (SubK.nil)))), Sub.refl _⟩)
    refine DW.sub (T' := [(0, _), (5, _), (6, _), (7, _), (47, _)]) (Sub.cons rfl (Sub.cons rfl (Sub.cons rfl (Sub.cons rfl (Sub.cons rfl Sub.nil))))) (Sub.refl _) ?_
    refine DW.cond rfl (fun hb => ?_) (fun hb => ?_)
    · skip
      refine DW.seq ?_
      refine DW.region ?_
      refine DL.go0 tauOK hE rfl (GStep.assign rfl) rfl rfl ?_
      refine DL.nil ?_
      refine DW.sub (T' := [(2, _)]) (Sub.cons rfl Sub.nil) (Sub.refl _) ?_
      refine DW.ret ?_
      have e : false = curB c := by
        refine cur_bad hlt ?_
        rintro ⟨⟨g1, g2⟩, g3⟩
        simp only [Bool.or_eq_true, Bool.and_eq_true, Bool.not_eq_true', decide_eq_true_eq, depB, decide_eq_false_iff_not] at hb
        rcases hb with (hb | hb) | ⟨hb, hb2⟩
        · exact hb g1
        · exact hb g2
        · have := g3 (by omega); omega
      rw [← e]
      exact ⟨_, rfl, RV.v rfl rfl⟩
    · skip
      refine DW.skip ?_
      refine DW.region ?_
      first | refine DL.go0 tauOK hE rfl (G.add rfl rfl (by omega)) rfl rfl ?_ | refine DL.go0 tauOK hE rfl (GStep.binI rfl rfl rfl) rfl rfl ?_
      refine DL.go0 tauOK hE rfl (GStep.move rfl) rfl rfl ?_
      refine DL.nil ?_
      simp only [Bool.or_eq_false_iff, Bool.and_eq_false_iff, Bool.not_eq_false', decide_eq_false_iff_not, depB, decide_eq_true_eq] at hb
      refine ⟨k + 1, ⟨by omega, okC_succ hok ⟨hb.1.1, hb.1.2⟩ (by intro h; unfold kx ky; omega)⟩, by first | omega | (dsimp only; omega), ?_, ?_⟩
      · exact Sub.cons rfl (Sub.cons rfl (Sub.cons rfl (Sub.cons rfl Sub.nil)))
      · exact Sub.cons rfl Sub.nil
  · skip
    have hlt : k = c.length := by simp at hlt; omega
    subst hlt
    refine DW.exit ?_
    have e : curB c = (decide ((c.length : Int) ≥ 2) && decide ((c.length : Int) ≤ 12)) := by
      rw [curB_end hok, Bool.eq_iff_iff]; simp; omega
    rw [e]
    cases h2 : decide ((c.length : Int) ≥ 2)
    · refine DW.seq ?_
      refine DW.region ?_
      refine DL.go0 tauOK hE rfl (GStep.move rfl) rfl rfl ?_
      first | refine DL.go0 tauOK hE rfl (GStep.len rfl rfl rfl) rfl rfl ?_ | refine DL.go0 tauOK hE rfl (GStep.lenNil rfl rfl) rfl rfl ?_
      try rw [h2]
      refine DL.go0 tauOK hE rfl (GStep.binI rfl rfl rfl) rfl rfl ?_
      try rw [h2]
      refine DL.go0 tauOK hE rfl (GStep.move rfl) rfl rfl ?_
      first | refine DL.skip rfl rfl rfl ?_ | refine DL.go0 tauOK hE rfl (GStep.move rfl) rfl rfl ?_
      first | refine DL.skip rfl rfl rfl ?_ | refine DL.go0 tauOK hE rfl (GStep.len rfl rfl rfl) rfl rfl ?_ | refine DL.go0 tauOK hE rfl (GStep.lenNil rfl rfl) rfl rfl ?_
      try rw [h2]
      first | refine DL.skip rfl rfl rfl ?_ | refine DL.go0 tauOK hE rfl (GStep.binI rfl rfl rfl) rfl rfl ?_
      try rw [h2]
      first | refine DL.go0 tauOK hE rfl (GStep.pickT rfl rfl) rfl rfl ?_ | refine DL.go0 tauOK hE rfl (GStep.pickF rfl rfl) rfl rfl ?_
      refine DL.go0 tauOK hE rfl (GStep.assign rfl) rfl rfl ?_
      refine DL.nil ?_
      refine DW.sub (T' := [(2, _)]) (Sub.cons rfl Sub.nil) (Sub.refl _) ?_
      refine DW.ret ?_
      exact ⟨_, rfl, RV.v rfl rfl⟩
    · skip
      refine DW.seq ?_
      refine DW.region ?_
      refine DL.go0 tauOK hE rfl (GStep.move rfl) rfl rfl ?_
      first | refine DL.go0 tauOK hE rfl (GStep.len rfl rfl rfl) rfl rfl ?_ | refine DL.go0 tauOK hE rfl (GStep.lenNil rfl rfl) rfl rfl ?_
      try rw [h2]
      refine DL.go0 tauOK hE rfl (GStep.binI rfl rfl rfl) rfl rfl ?_
      try rw [h2]
      refine DL.go0 tauOK hE rfl (GStep.move rfl) rfl rfl ?_
      first | refine DL.skip rfl rfl rfl ?_ | refine DL.go0 tauOK hE rfl (GStep.move rfl) rfl rfl ?_
      first | refine DL.skip rfl rfl rfl ?_ | refine DL.go0 tauOK hE rfl (GStep.len rfl rfl rfl) rfl rfl ?_ | refine DL.go0 tauOK hE rfl (GStep.lenNil rfl rfl) rfl rfl ?_
      try rw [h2]
      first | refine DL.skip rfl rfl rfl ?_ | refine DL.go0 tauOK hE rfl (GStep.binI rfl rfl rfl) rfl rfl ?_
      try rw [h2]
      first | refine DL.go0 tauOK hE rfl (GStep.pickT rfl rfl) rfl rfl ?_ | refine DL.go0 tauOK hE rfl (GStep.pickF rfl rfl) rfl rfl ?_
      refine DL.go0 tauOK hE rfl (GStep.assign rfl) rfl rfl ?_
      refine DL.nil ?_
      refine DW.sub (T' := [(2, _)]) (Sub.cons rfl Sub.nil) (Sub.refl _) ?_
      refine DW.ret ?_
      exact ⟨_, rfl, RV.v rfl rfl⟩
theorem curveValid_ds : DFun Try.prog 44 gCur := by
  have hE : EnvOK Try.prog [(60, gIsDepth), (49, gIn)] := EnvOK.cons l11Depth_ds (EnvOK.cons l6In_ds EnvOK.nil)
  refine DFun.of tauOK (fn := Try.f44) Try.func44 rfl (by kernel_rfl) rfl rfl ?_
  intro C ds r hg hl
  unfold gCur at hg
  split at hg
  case h_2 => cases hg
  rename_i n l
  cases hg
  refine ⟨by simp, ?_⟩
  obtain ⟨hn, hm, _⟩ := hl
  obtain ⟨c, rfl, rfl⟩ := flat_ex hn
  clear hn
  rw [unflat_flat]
  refine DW.seq ?_
  refine DW.region ?_
  refine DL.go0 tauOK hE rfl (GStep.assign rfl) rfl rfl ?_
  refine DL.nil ?_
  refine DW.sub (T' := [(0, _)]) (Sub.cons rfl Sub.nil) (Sub.refl _) ?_
  refine DW.seq ?_
  refine DW.seq ?_
  refine DW.region ?_
  refine DL.go0 tauOK hE rfl (GStep.assign rfl) rfl rfl ?_
  refine DL.nil ?_
  refine DW.sub (T' := [(0, _), (3, _)]) (Sub.cons rfl (Sub.cons rfl Sub.nil)) (Sub.refl _) ?_
  refine DW.block ?_
  refine DW.loop (α := Nat) (fun k => [(0, .sl 0 0 c.length), (3, .val (.int .i64 (k : Nat)))]) (fun k => [(0, .ro .i64 2 (flat c))]) (fun k => k ≤ c.length ∧ okC c k) (fun k => c.length - k) 0 (⟨by omega, okC_zero c⟩) (Sub.cons rfl (Sub.cons rfl Sub.nil)) (Sub.cons rfl Sub.nil) ?_
  rintro k ⟨hk, hok⟩
  skip
  refine DW.seq ?_
  refine DW.seq ?_
  refine DW.region ?_
  refine DL.go0 tauOK hE rfl (GStep.move rfl) rfl rfl ?_
  refine DL.go0 tauOK hE rfl (GStep.move rfl) rfl rfl ?_
  first | refine DL.go0 tauOK hE rfl (GStep.len rfl rfl rfl) rfl rfl ?_ | refine DL.go0 tauOK hE rfl (GStep.lenNil rfl rfl) rfl rfl ?_
  refine DL.go0 tauOK hE rfl (GStep.binI rfl rfl rfl) rfl rfl ?_
  refine DL.nil ?_
  refine DW.sub (T' := [(0, _), (3, _), (7, _)]) (Sub.cons rfl (Sub.cons rfl (Sub.cons rfl Sub.nil))) (Sub.refl _) ?_
  refine DW.cond rfl (fun hlt => ?_) (fun hlt => ?_)
  · skip
    have hlt : k < c.length := by simpa using hlt
    refine DW.skip ?_
    refine DW.seq ?_
    refine DW.block ?_
    refine DW.cut 57 (!depB (c.getD k (0, 0)).1 || !depB (c.getD k (0, 0)).2 || (decide (0 < (k : Int)) && (decide ((c.getD (k - 1) (0, 0)).1 ≥ (c.getD k (0, 0)).1) || decide ((c.getD (k - 1) (0, 0)).2 ≥ (c.getD k (0, 0)).2)))) [0, 3] ?_ ?_
    · cases hc1 : depB (c.getD k (0, 0)).1 <;> cases hc2 : depB (c.getD k (0, 0)).2 <;> cases h0 : decide (0 < (k : Int)) <;> cases h1 : decide ((c.getD (k - 1) (0, 0)).1 ≥ (c.getD k (0, 0)).1) <;> cases h2 : decide ((c.getD (k - 1) (0, 0)).2 ≥ (c.getD k (0, 0)).2) <;> (
        (try have q_hc1 := of_decide_eq_true hc1); (try have q_hc1 := of_decide_eq_false hc1)
        (try have q_hc2 := of_decide_eq_true hc2); (try have q_hc2 := of_decide_eq_false hc2)
        (try have q_h0 := of_decide_eq_true h0); (try have q_h0 := of_decide_eq_false h0)
        (try have q_h1 := of_decide_eq_true h1); (try have q_h1 := of_decide_eq_false h1)
        (try have q_h2 := of_decide_eq_true h2); (try have q_h2 := of_decide_eq_false h2)
        refine DW.draw tauOK hE mixed 48 (by kernel_rfl) ?_
        refine DR.go0 rfl (GStep.move rfl) rfl rfl ?_
        refine DR.go0 rfl (GStep.move rfl) rfl rfl ?_
        refine DR.go0 rfl (G.ia2 rfl rfl rfl rfl rfl rfl rfl (by omega)) rfl rfl ?_
        refine DR.go0 rfl (G.fa rfl rfl rfl (by decide)) rfl rfl ?_
        first | refine DR.go0 rfl (G.lf0r rfl rfl rfl (by omega)) rfl rfl ?_ | refine DR.go0 rfl (G.lf0w rfl rfl rfl (by omega)) rfl rfl ?_
        refine DR.go0 rfl (G.call (v := .val _) (news := []) rfl (All2.cons (ArgOf.v rfl) All2.nil) (rfl) rfl rfl) rfl rfl ?_
        try rw [hc1]
        try rw [hc2]
        try rw [h0]
        try rw [h1]
        try rw [h2]
        refine DR.go0 rfl (GStep.not rfl) rfl rfl ?_
        refine DR.go0 rfl (GStep.move rfl) rfl rfl ?_
        first | refine DR.skip rfl rfl rfl ?_ | refine DR.go0 rfl (GStep.move rfl) rfl rfl ?_
        first | refine DR.skip rfl rfl rfl ?_ | refine DR.go0 rfl (GStep.move rfl) rfl rfl ?_
        first | refine DR.skip rfl rfl rfl ?_ | refine DR.go0 rfl (G.ia2 rfl rfl rfl rfl rfl rfl rfl (by omega)) rfl rfl ?_
        first | refine DR.skip rfl rfl rfl ?_ | refine DR.go0 rfl (G.fa rfl rfl rfl (by decide)) rfl rfl ?_
        first | refine DR.skip rfl rfl rfl ?_ | refine DR.go0 rfl (G.lf1r rfl rfl rfl (by omega)) rfl rfl ?_ | refine DR.go0 rfl (G.lf1w rfl rfl rfl (by omega)) rfl rfl ?_
        first | refine DR.skip rfl rfl rfl ?_ | refine DR.go0 rfl (G.call (v := .val _) (news := []) rfl (All2.cons (ArgOf.v rfl) All2.nil) (rfl) rfl rfl) rfl rfl ?_
        try rw [hc1]
        try rw [hc2]
        try rw [h0]
        try rw [h1]
        try rw [h2]
        first | refine DR.skip rfl rfl rfl ?_ | refine DR.go0 rfl (GStep.not rfl) rfl rfl ?_
        first | refine DR.go0 rfl (GStep.pickT rfl rfl) rfl rfl ?_ | refine DR.go0 rfl (GStep.pickF rfl rfl) rfl rfl ?_
        refine DR.go0 rfl (GStep.move rfl) rfl rfl ?_
        first | refine DR.skip rfl rfl rfl ?_ | refine DR.go0 rfl (GStep.move rfl) rfl rfl ?_
        first | refine DR.skip rfl rfl rfl ?_ | refine DR.go0 rfl (GStep.binI rfl rfl rfl) rfl rfl ?_
        try rw [hc1]
        try rw [hc2]
        try rw [h0]
        try rw [h1]
        try rw [h2]
        first | refine DR.skip rfl rfl rfl ?_ | refine DR.go0 rfl (GStep.move rfl) rfl rfl ?_
        first | refine DR.skip rfl rfl rfl ?_ | refine DR.go0 rfl (GStep.move rfl) rfl rfl ?_
        first | refine DR.skip rfl rfl rfl ?_ | refine DR.go0 rfl (GStep.move rfl) rfl rfl ?_
        first | refine DR.skip rfl rfl rfl ?_ | refine DR.go0 rfl (G.sub rfl rfl (by omega)) rfl rfl ?_ | refine DR.go0 rfl (GStep.binI rfl rfl rfl) rfl rfl ?_
        try rw [hc1]
        try rw [hc2]
        try rw [h0]
        try rw [h1]
        try rw [h2]
        first | refine DR.skip rfl rfl rfl ?_ | refine DR.go0 rfl (G.ia2 (i := k - 1) rfl rfl rfl rfl rfl rfl (by omega) (by omega)) rfl rfl ?_
        first | refine DR.skip rfl rfl rfl ?_ | refine DR.go0 rfl (G.fa rfl rfl rfl (by decide)) rfl rfl ?_
        first | refine DR.skip rfl rfl rfl ?_ | refine DR.go0 rfl (G.lf0r rfl rfl rfl (by omega)) rfl rfl ?_ | refine DR.go0 rfl (G.lf0w rfl rfl rfl (by omega)) rfl rfl ?_
        first | refine DR.skip rfl rfl rfl ?_ | refine DR.go0 rfl (GStep.move rfl) rfl rfl ?_
        first | refine DR.skip rfl rfl rfl ?_ | refine DR.go0 rfl (GStep.move rfl) rfl rfl ?_
        first | refine DR.skip rfl rfl rfl ?_ | refine DR.go0 rfl (G.ia2 rfl rfl rfl rfl rfl rfl rfl (by omega)) rfl rfl ?_
        first | refine DR.skip rfl rfl rfl ?_ | refine DR.go0 rfl (G.fa rfl rfl rfl (by decide)) rfl rfl ?_
        first | refine DR.skip rfl rfl rfl ?_ | refine DR.go0 rfl (G.lf0r rfl rfl rfl (by omega)) rfl rfl ?_ | refine DR.go0 rfl (G.lf0w rfl rfl rfl (by omega)) rfl rfl ?_
        first | refine DR.skip rfl rfl rfl ?_ | refine DR.go0 rfl (GStep.binI rfl rfl rfl) rfl rfl ?_
        try rw [hc1]
        try rw [hc2]
        try rw [h0]
        try rw [h1]
        try rw [h2]
        first | refine DR.skip rfl rfl rfl ?_ | refine DR.go0 rfl (GStep.move rfl) rfl rfl ?_
        first | refine DR.skip rfl rfl rfl ?_ | refine DR.go0 rfl (GStep.move rfl) rfl rfl ?_
        first | refine DR.skip rfl rfl rfl ?_ | refine DR.go0 rfl (GStep.move rfl) rfl rfl ?_
        first | refine DR.skip rfl rfl rfl ?_ | refine DR.go0 rfl (G.sub rfl rfl (by omega)) rfl rfl ?_ | refine DR.go0 rfl (GStep.binI rfl rfl rfl) rfl rfl ?_
        try rw [hc1]
        try rw [hc2]
        try rw [h0]
        try rw [h1]
        try rw [h2]
        first | refine DR.skip rfl rfl rfl ?_ | refine DR.go0 rfl (G.ia2 (i := k - 1) rfl rfl rfl rfl rfl rfl (by omega) (by omega)) rfl rfl ?_
        first | refine DR.skip rfl rfl rfl ?_ | refine DR.go0 rfl (G.fa rfl rfl rfl (by decide)) rfl rfl ?_
        first | refine DR.skip rfl rfl rfl ?_ | refine DR.go0 rfl (G.lf1r rfl rfl rfl (by omega)) rfl rfl ?_ | refine DR.go0 rfl (G.lf1w rfl rfl rfl (by omega)) rfl rfl ?_
        first | refine DR.skip rfl rfl rfl ?_ | refine DR.go0 rfl (GStep.move rfl) rfl rfl ?_
        first | refine DR.skip rfl rfl rfl ?_ | refine DR.go0 rfl (GStep.move rfl) rfl rfl ?_
        first | refine DR.skip rfl rfl rfl ?_ | refine DR.go0 rfl (G.ia2 rfl rfl rfl rfl rfl rfl rfl (by omega)) rfl rfl ?_
        first | refine DR.skip rfl rfl rfl ?_ | refine DR.go0 rfl (G.fa rfl rfl rfl (by decide)) rfl rfl ?_
        first | refine DR.skip rfl rfl rfl ?_ | refine DR.go0 rfl (G.lf1r rfl rfl rfl (by omega)) rfl rfl ?_ | refine DR.go0 rfl (G.lf1w rfl rfl rfl (by omega)) rfl rfl ?_
        first | refine DR.skip rfl rfl rfl ?_ | refine DR.go0 rfl (GStep.binI rfl rfl rfl) rfl rfl ?_
        try rw [hc1]
        try rw [hc2]
        try rw [h0]
        try rw [h1]
        try rw [h2]
        first | refine DR.skip rfl rfl rfl ?_ | refine DR.go0 rfl (GStep.pickT rfl rfl) rfl rfl ?_ | refine DR.go0 rfl (GStep.pickF rfl rfl) rfl rfl ?_
        first | refine DR.skip rfl rfl rfl ?_ | refine DR.go0 rfl (GStep.pickT rfl rfl) rfl rfl ?_ | refine DR.go0 rfl (GStep.pickF rfl rfl) rfl rfl ?_
        first | refine DR.go0 rfl (GStep.pickT rfl rfl) rfl rfl ?_ | refine DR.go0 rfl (GStep.pickF rfl rfl) rfl rfl ?_
        refine DR.nil ?_
        refine DL.nil ?_
        exact ⟨rfl, _, rfl, by simp [hc1, hc2, h0, h1, h2], SubK.cons rfl (SubK.cons rfl (SubK.nil)), Sub.refl _⟩)
    refine DW.sub (T' := [(0, _), (3, _), (57, _)]) (Sub.cons rfl (Sub.cons rfl (Sub.cons rfl Sub.nil))) (Sub.refl _) ?_
    refine DW.cond rfl (fun hb => ?_) (fun hb => ?_)
    · skip
      refine DW.seq ?_
      refine DW.region ?_
      refine DL.go0 tauOK hE rfl (GStep.assign rfl) rfl rfl ?_
      refine DL.nil ?_
      refine DW.sub (T' := [(2, _)]) (Sub.cons rfl Sub.nil) (Sub.refl _) ?_
      refine DW.ret ?_
      have e : false = curB c := by
        refine cur_bad hlt ?_
        rintro ⟨⟨g1, g2⟩, g3⟩
        simp only [Bool.or_eq_true, Bool.and_eq_true, Bool.not_eq_true', decide_eq_true_eq, depB, decide_eq_false_iff_not] at hb
        rcases hb with (hb | hb) | ⟨hb, hb2⟩
        · exact hb g1
        · exact hb g2
        · have := g3 (by omega); omega
      rw [← e]
      exact ⟨_, rfl, RV.v rfl rfl⟩
    · skip
      refine DW.skip ?_
      refine DW.region ?_
      refine DL.go0 tauOK hE rfl (GStep.move rfl) rfl rfl ?_
      first | refine DL.go0 tauOK hE rfl (G.add rfl rfl (by omega)) rfl rfl ?_ | refine DL.go0 tauOK hE rfl (GStep.binI rfl rfl rfl) rfl rfl ?_
      refine DL.go0 tauOK hE rfl (GStep.assign rfl) rfl rfl ?_
      refine DL.nil ?_
      simp only [Bool.or_eq_false_iff, Bool.and_eq_false_iff, Bool.not_eq_false', decide_eq_false_iff_not, depB, decide_eq_true_eq] at hb
      refine ⟨k + 1, ⟨by omega, okC_succ hok ⟨hb.1.1, hb.1.2⟩ (by intro h; unfold kx ky; omega)⟩, by first | omega | (dsimp only; omega), ?_, ?_⟩
      · exact Sub.cons rfl (Sub.cons rfl Sub.nil)
      · exact Sub.cons rfl Sub.nil
  · skip
    have hlt : k = c.length := by simp at hlt; omega
    subst hlt
    refine DW.exit ?_
    have e : curB c = (decide ((c.length : Int) ≥ 2) && decide ((c.length : Int) ≤ 12)) := by
      rw [curB_end hok, Bool.eq_iff_iff]; simp; omega
    rw [e]
    refine DW.seq ?_
    refine DW.region ?_
    refine DL.go0 tauOK hE rfl (GStep.move rfl) rfl rfl ?_
    first | refine DL.go0 tauOK hE rfl (GStep.len rfl rfl rfl) rfl rfl ?_ | refine DL.go0 tauOK hE rfl (GStep.lenNil rfl rfl) rfl rfl ?_
    refine DL.go0 tauOK hE rfl (G.call (v := .val _) (news := []) rfl (All2.cons (ArgOf.v rfl) (All2.cons (ArgOf.v rfl) (All2.cons (ArgOf.v rfl) All2.nil))) (rfl) rfl rfl) rfl rfl ?_
    refine DL.go0 tauOK hE rfl (GStep.assign rfl) rfl rfl ?_
    refine DL.nil ?_
    refine DW.sub (T' := [(2, _)]) (Sub.cons rfl Sub.nil) (Sub.refl _) ?_
    refine DW.ret ?_
    exact ⟨_, rfl, RV.v rfl rfl⟩
/-! ## Turned -/
def turnC (c : List Kn) : List Kn := if curB c = true then turnL c else []
def gTurn : List AD → Option RD
  | [.sl .i64 2 _ l] => some (.tup [.row 25 2 (turnC (unflat l)).length (flat (turnC (unflat l))), .v (.bool (curB (unflat l)))])
  | _ => none
theorem gTurn_flat {n : Nat} {c : List Kn} : gTurn [.sl .i64 2 n (flat c)] = some (.tup [.row 25 2 (turnC c).length (flat (turnC c)), .v (.bool (curB c))]) := by simp [gTurn, unflat_flat]
theorem turnC_yes {c : List Kn} (h : curB c = true) : turnC c = turnL c := if_pos h
theorem turnC_no {c : List Kn} (h : curB c = false) : turnC c = [] := if_neg (by rw [h]; simp)
theorem turn_take {c : List Kn} {k : Nat} (h : k < c.length) : turnL (c.take k) ++ [((c.getD k (0, 0)).2, (c.getD k (0, 0)).1)] = turnL (c.take (k + 1)) := by
  rw [List.take_succ_eq_append_getElem h, getD_of_lt c h]
  unfold turnL
  rw [List.map_append]
  rfl
theorem turn_take' {c : List Kn} {k : Nat} (h : k < c.length) : flat (turnL (c.take k)) ++ flat [((c.getD k (0, 0)).2, (c.getD k (0, 0)).1)] = flat (turnL (c.take (k + 1))) := by rw [← flat_app, turn_take h]
theorem curveTurn_di : DFun Try.prog 19 gTurn := by
  have hE : EnvOK Try.prog [(38, gCur)] := EnvOK.cons curveValid_di EnvOK.nil
  refine DFun.of tauOK (fn := Try.f19) Try.func19 rfl (by kernel_rfl) rfl rfl ?_
  intro C ds r hg hl
  unfold gTurn at hg
  split at hg
  case h_2 => cases hg
  rename_i n l
  cases hg
  refine ⟨by simp, ?_⟩
  obtain ⟨hn, hm, _⟩ := hl
  obtain ⟨c, rfl, rfl⟩ := flat_ex hn
  clear hn
  rw [unflat_flat]
  refine DW.seq ?_
  refine DW.region ?_
  refine DL.go0 tauOK hE rfl (GStep.assign rfl) rfl rfl ?_
  refine DL.go0 tauOK hE rfl (GStep.assign rfl) rfl rfl ?_
  refine DL.nil ?_
  refine DW.sub (T' := [(0, _)]) (Sub.cons rfl Sub.nil) (Sub.refl _) ?_
  refine DW.seq ?_
  refine DW.seq ?_
  refine DW.region ?_
  refine DL.go0 tauOK hE rfl (GStep.move rfl) rfl rfl ?_
  refine DL.go0 tauOK hE rfl (G.call (v := .val _) (news := []) rfl (All2.cons (ArgOf.ro rfl rfl (by simp [flat_len])) All2.nil) (gCur_flat) rfl rfl) rfl rfl ?_
  refine DL.go0 tauOK hE rfl (GStep.not rfl) rfl rfl ?_
  refine DL.nil ?_
  refine DW.sub (T' := [(0, _), (9, _)]) (Sub.cons rfl (Sub.cons rfl Sub.nil)) (Sub.refl _) ?_
  cases hc : curB c
  · refine DW.condT rfl ?_
    rw [turnC_no hc]
    refine DW.seq ?_
    refine DW.region ?_
    refine DL.go0 tauOK hE rfl (GStep.assign rfl) rfl rfl ?_
    refine DL.go0 tauOK hE rfl (GStep.assign rfl) rfl rfl ?_
    refine DL.nil ?_
    refine DW.sub (T' := [(2, _), (3, _)]) (Sub.cons rfl (Sub.cons rfl Sub.nil)) (Sub.refl _) ?_
    refine DW.ret ?_
    exact RetD.nv rfl (by omega) rfl rfl
  · skip
    refine DW.condF rfl ?_
    have hcl := cur_len hc
    rw [turnC_yes hc]
    refine DW.skip ?_
    refine DW.seq ?_
    refine DW.region ?_
    refine DL.go0 tauOK hE rfl (GStep.assign rfl) rfl rfl ?_
    refine DL.nil ?_
    refine DW.sub (T' := [(0, _), (4, _)]) (Sub.cons rfl (Sub.cons rfl Sub.nil)) (Sub.refl _) ?_
    refine DW.seq ?_
    refine DW.seq ?_
    refine DW.region ?_
    refine DL.go0 tauOK hE rfl (GStep.move rfl) rfl rfl ?_
    first | refine DL.go0 tauOK hE rfl (GStep.len rfl rfl rfl) rfl rfl ?_ | refine DL.go0 tauOK hE rfl (GStep.lenNil rfl rfl) rfl rfl ?_
    refine DL.go0 tauOK hE rfl (GStep.move rfl) rfl rfl ?_
    refine DL.nil ?_
    refine DW.sub (T' := [(4, _), (10, _), (11, _), (12, _)]) (Sub.cons rfl (Sub.cons rfl (Sub.cons rfl (Sub.cons rfl Sub.nil)))) (Sub.refl _) ?_
    refine DW.nil 4 900 25 2 (by omega) rfl rfl ?_
    refine DW.block ?_
    refine DW.loop (α := Nat) (fun k => [(4, .sl 900 0 k), (10, .sl 0 0 c.length), (11, .val (.int .i64 c.length)), (12, .val (.int .i64 (k : Nat)))]) (fun k => [(0, .ro .i64 2 (flat c)), (900, .row 25 2 (flat (turnL (c.take k))))]) (fun k => k ≤ c.length) (fun k => c.length - k) 0 (by omega) (Sub.cons rfl (Sub.cons rfl (Sub.cons rfl (Sub.cons rfl Sub.nil)))) (Sub.cons rfl (Sub.cons rfl Sub.nil)) ?_
    rintro k hk
    skip
    refine DW.seq ?_
    refine DW.region ?_
    refine DL.go0 tauOK hE rfl (GStep.binI rfl rfl rfl) rfl rfl ?_
    refine DL.nil ?_
    refine DW.sub (T' := [(4, _), (10, _), (11, _), (12, _), (13, _)]) (Sub.cons rfl (Sub.cons rfl (Sub.cons rfl (Sub.cons rfl (Sub.cons rfl Sub.nil))))) (Sub.refl _) ?_
    refine DW.seq ?_
    refine DW.cond rfl (fun hlt => ?_) (fun hlt => ?_)
    · skip
      have hlt : k < c.length := by simpa using hlt
      have ht := turn_take hlt
      refine DW.skip ?_
      refine DW.seq ?_
      refine DW.block ?_
      refine DW.seq ?_
      refine DW.region ?_
      refine DL.go0 tauOK hE rfl (G.ia2 rfl rfl rfl rfl rfl rfl rfl (by omega)) rfl rfl ?_
      first | refine DL.go0 tauOK hE rfl (G.le2r rfl rfl rfl (by omega)) rfl rfl ?_ | refine DL.go0 tauOK hE rfl (G.le2w rfl rfl rfl (by omega)) rfl rfl ?_
      refine DL.go1 tauOK hE rfl (GStep.alloc2 rfl) rfl rfl rfl ?_
      refine DL.sb2 tauOK rfl rfl rfl rfl rfl rfl rfl ?_
      refine DL.nil ?_
      refine DW.sub (T' := [(4, _), (6, _), (10, _), (11, _), (12, _)]) (Sub.cons rfl (Sub.cons rfl (Sub.cons rfl (Sub.cons rfl (Sub.cons rfl Sub.nil))))) (Sub.refl _) ?_
      refine DW.region ?_
      refine DL.go0 tauOK hE rfl (GStep.move rfl) rfl rfl ?_
      refine DL.go0 tauOK hE rfl (G.fa rfl rfl rfl (by decide)) rfl rfl ?_
      refine DL.go0 tauOK hE rfl (G.lbf1 rfl rfl rfl) rfl rfl ?_
      refine DL.go0 tauOK hE rfl (G.fa rfl rfl rfl (by decide)) rfl rfl ?_
      refine DL.go0 tauOK hE rfl (G.lbf0 rfl rfl rfl) rfl rfl ?_
      refine DL.go0 tauOK hE rfl (G.b01 rfl rfl rfl) rfl rfl ?_
      refine DL.go1 tauOK hE rfl (G.bs1p rfl rfl rfl) rfl rfl rfl ?_
      refine DL.app2 tauOK [(10, _), (11, _), (12, _)] rfl rfl rfl rfl rfl rfl rfl rfl (by simp [turnL]; omega) rfl rfl rfl (by omega) (Sub.cons rfl (Sub.cons rfl (Sub.cons rfl Sub.nil))) rfl ?_
      refine DL.go0 tauOK hE rfl (GStep.assign rfl) rfl rfl ?_
      refine DL.nil ?_
      refine DW.sub (T' := [(4, _), (10, _), (11, _), (12, _)]) (Sub.cons rfl (Sub.cons rfl (Sub.cons rfl (Sub.cons rfl Sub.nil)))) (Sub.refl _) ?_
      rw [ht]
      refine DW.region ?_
      first | refine DL.go0 tauOK hE rfl (G.add rfl rfl (by omega)) rfl rfl ?_ | refine DL.go0 tauOK hE rfl (GStep.binI rfl rfl rfl) rfl rfl ?_
      refine DL.go0 tauOK hE rfl (GStep.move rfl) rfl rfl ?_
      refine DL.nil ?_
      refine ⟨k + 1, hlt, by first | omega | (dsimp only; omega), ?_, ?_⟩
      · exact Sub.cons rfl (Sub.cons rfl (Sub.cons rfl (Sub.cons rfl Sub.nil)))
      · exact Sub.cons rfl (Sub.cons rfl Sub.nil)
    · skip
      have hlt : k = c.length := by simp at hlt; omega
      subst hlt
      refine DW.exit ?_
      rw [List.take_length]
      refine DW.seq ?_
      refine DW.region ?_
      refine DL.go0 tauOK hE rfl (GStep.move rfl) rfl rfl ?_
      refine DL.go0 tauOK hE rfl (GStep.assign rfl) rfl rfl ?_
      refine DL.go0 tauOK hE rfl (GStep.assign rfl) rfl rfl ?_
      refine DL.nil ?_
      refine DW.sub (T' := [(2, _), (3, _)]) (Sub.cons rfl (Sub.cons rfl Sub.nil)) (Sub.refl _) ?_
      refine DW.ret ?_
      rw [turnL_len]
      exact RetD.sv rfl rfl (by rw [flat_len, turnL_len]) (by omega) rfl rfl
theorem curveTurn_ds : DFun Try.prog 20 gTurn := by
  have hE : EnvOK Try.prog [(44, gCur)] := EnvOK.cons curveValid_ds EnvOK.nil
  refine DFun.of tauOK (fn := Try.f20) Try.func20 rfl (by kernel_rfl) rfl rfl ?_
  intro C ds r hg hl
  unfold gTurn at hg
  split at hg
  case h_2 => cases hg
  rename_i n l
  cases hg
  refine ⟨by simp, ?_⟩
  obtain ⟨hn, hm, _⟩ := hl
  obtain ⟨c, rfl, rfl⟩ := flat_ex hn
  clear hn
  rw [unflat_flat]
  refine DW.seq ?_
  refine DW.region ?_
  refine DL.go0 tauOK hE rfl (GStep.assign rfl) rfl rfl ?_
  refine DL.go0 tauOK hE rfl (GStep.assign rfl) rfl rfl ?_
  refine DL.nil ?_
  refine DW.sub (T' := [(0, _)]) (Sub.cons rfl Sub.nil) (Sub.refl _) ?_
  refine DW.seq ?_
  refine DW.region ?_
  refine DL.go1 tauOK hE rfl (G.bs0p rfl rfl) rfl rfl rfl ?_
  refine DL.go0 tauOK hE rfl (GStep.assign rfl) rfl rfl ?_
  refine DL.nil ?_
  refine DW.sub (T' := [(0, _), (4, _)]) (Sub.cons rfl (Sub.cons rfl Sub.nil)) (Sub.refl _) ?_
  refine DW.seq ?_
  refine DW.seq ?_
  refine DW.region ?_
  refine DL.go0 tauOK hE rfl (GStep.move rfl) rfl rfl ?_
  refine DL.go0 tauOK hE rfl (G.call (v := .val _) (news := []) rfl (All2.cons (ArgOf.ro rfl rfl (by simp [flat_len])) All2.nil) (gCur_flat) rfl rfl) rfl rfl ?_
  refine DL.go0 tauOK hE rfl (GStep.not rfl) rfl rfl ?_
  refine DL.nil ?_
  refine DW.sub (T' := [(0, _), (4, _), (9, _)]) (Sub.cons rfl (Sub.cons rfl (Sub.cons rfl Sub.nil))) (Sub.refl _) ?_
  cases hc : curB c
  · refine DW.condT rfl ?_
    rw [turnC_no hc]
    refine DW.seq ?_
    refine DW.region ?_
    refine DL.go0 tauOK hE rfl (GStep.move rfl) rfl rfl ?_
    refine DL.go0 tauOK hE rfl (GStep.assign rfl) rfl rfl ?_
    refine DL.go0 tauOK hE rfl (GStep.assign rfl) rfl rfl ?_
    refine DL.nil ?_
    refine DW.sub (T' := [(2, _), (3, _)]) (Sub.cons rfl (Sub.cons rfl Sub.nil)) (Sub.refl _) ?_
    refine DW.ret ?_
    exact RetD.sv rfl rfl rfl (by omega) rfl rfl
  · skip
    refine DW.condF rfl ?_
    have hcl := cur_len hc
    rw [turnC_yes hc]
    refine DW.skip ?_
    refine DW.seq ?_
    refine DW.seq ?_
    refine DW.region ?_
    refine DL.go0 tauOK hE rfl (GStep.assign rfl) rfl rfl ?_
    refine DL.nil ?_
    refine DW.sub (T' := [(0, _), (4, _), (5, _)]) (Sub.cons rfl (Sub.cons rfl (Sub.cons rfl Sub.nil))) (Sub.refl _) ?_
    refine DW.block ?_
    refine DW.loop (α := Nat) (fun k => [(0, .sl 0 0 c.length), (4, .sl 6 0 k), (5, .val (.int .i64 (k : Nat)))]) (fun k => [(0, .ro .i64 2 (flat c)), (6, .row 25 2 (flat (turnL (c.take k))))]) (fun k => k ≤ c.length) (fun k => c.length - k) 0 (by omega) (Sub.cons rfl (Sub.cons rfl (Sub.cons rfl Sub.nil))) (Sub.cons rfl (Sub.cons rfl Sub.nil)) ?_
    rintro k hk
    skip
    refine DW.seq ?_
    refine DW.seq ?_
    refine DW.region ?_
    refine DL.go0 tauOK hE rfl (GStep.move rfl) rfl rfl ?_
    refine DL.go0 tauOK hE rfl (GStep.move rfl) rfl rfl ?_
    first | refine DL.go0 tauOK hE rfl (GStep.len rfl rfl rfl) rfl rfl ?_ | refine DL.go0 tauOK hE rfl (GStep.lenNil rfl rfl) rfl rfl ?_
    refine DL.go0 tauOK hE rfl (GStep.binI rfl rfl rfl) rfl rfl ?_
    refine DL.nil ?_
    refine DW.sub (T' := [(0, _), (4, _), (5, _), (14, _)]) (Sub.cons rfl (Sub.cons rfl (Sub.cons rfl (Sub.cons rfl Sub.nil)))) (Sub.refl _) ?_
    refine DW.cond rfl (fun hlt => ?_) (fun hlt => ?_)
    · skip
      have hlt : k < c.length := by simpa using hlt
      have ht := turn_take' hlt
      refine DW.skip ?_
      refine DW.seq ?_
      refine DW.block ?_
      refine DW.drawM tauOK hE pick_d mixed 14 (by kernel_rfl) (by kernel_rfl) ?_
      refine DM.go0 rfl (GStep.move rfl) rfl rfl ?_
      refine DM.go0 rfl (GStep.move rfl) rfl rfl ?_
      refine DM.go0 rfl (GStep.move rfl) rfl rfl ?_
      refine DM.go0 rfl (G.ia2 rfl rfl rfl rfl rfl rfl rfl (by omega)) rfl rfl ?_
      refine DM.go0 rfl (G.fa rfl rfl rfl (by decide)) rfl rfl ?_
      first | refine DM.go0 rfl (G.lf1r rfl rfl rfl (by omega)) rfl rfl ?_ | refine DM.go0 rfl (G.lf1w rfl rfl rfl (by omega)) rfl rfl ?_
      refine DM.go0 rfl (GStep.move rfl) rfl rfl ?_
      refine DM.go0 rfl (GStep.move rfl) rfl rfl ?_
      refine DM.go0 rfl (G.ia2 rfl rfl rfl rfl rfl rfl rfl (by omega)) rfl rfl ?_
      refine DM.go0 rfl (G.fa rfl rfl rfl (by decide)) rfl rfl ?_
      first | refine DM.go0 rfl (G.lf0r rfl rfl rfl (by omega)) rfl rfl ?_ | refine DM.go0 rfl (G.lf0w rfl rfl rfl (by omega)) rfl rfl ?_
      refine DM.go0 rfl (G.b01 rfl rfl rfl) rfl rfl ?_
      refine DM.go1 rfl (G.bs1p rfl rfl rfl) rfl rfl rfl ?_
      refine DM.app rfl rfl rfl rfl rfl rfl rfl rfl rfl rfl (by rw [flat_len, turnL_len]; simp; omega) rfl rfl rfl rfl rfl (by omega) (show _ = flat [(_, _)] from rfl) rfl ?_
      refine DM.nil (by kernel_rfl) ?_
      refine DL.go0 tauOK hE rfl (GStep.assign rfl) rfl rfl ?_
      refine DL.nil ?_
      refine DW.sub (T' := [(0, _), (4, _), (5, _)]) (Sub.cons rfl (Sub.cons rfl (Sub.cons rfl Sub.nil))) (Sub.refl _) ?_
      rw [ht]
      refine DW.ren 30 6 rfl rfl ?_
      refine DW.sub (T' := [(0, .sl 0 0 c.length), (4, .sl 6 0 (k + 1)), (5, .val (.int .i64 (k : Nat)))]) (H' := [(0, .ro .i64 2 (flat c)), (6, .row 25 2 (flat (turnL (c.take (k + 1)))))]) (Sub.cons (by first | rfl | exact sl_of rfl (by first | omega | (simp; omega))) (Sub.cons (by first | rfl | exact sl_of rfl (by first | omega | (simp; omega))) (Sub.cons (by first | rfl | exact int_of rfl (by omega)) Sub.nil))) (Sub.cons rfl (Sub.cons (by first | rfl | exact row_of rfl (by simp)) Sub.nil)) ?_
      refine DW.region ?_
      refine DL.go0 tauOK hE rfl (GStep.move rfl) rfl rfl ?_
      first | refine DL.go0 tauOK hE rfl (G.add rfl rfl (by omega)) rfl rfl ?_ | refine DL.go0 tauOK hE rfl (GStep.binI rfl rfl rfl) rfl rfl ?_
      refine DL.go0 tauOK hE rfl (GStep.assign rfl) rfl rfl ?_
      refine DL.nil ?_
      refine ⟨k + 1, hlt, by first | omega | (dsimp only; omega), ?_, ?_⟩
      · exact Sub.cons rfl (Sub.cons rfl (Sub.cons rfl Sub.nil))
      · exact Sub.cons rfl (Sub.cons rfl Sub.nil)
    · skip
      have hlt : k = c.length := by simp at hlt; omega
      subst hlt
      refine DW.exit ?_
      rw [List.take_length]
      refine DW.seq ?_
      refine DW.region ?_
      refine DL.go0 tauOK hE rfl (GStep.move rfl) rfl rfl ?_
      refine DL.go0 tauOK hE rfl (GStep.assign rfl) rfl rfl ?_
      refine DL.go0 tauOK hE rfl (GStep.assign rfl) rfl rfl ?_
      refine DL.nil ?_
      refine DW.sub (T' := [(2, _), (3, _)]) (Sub.cons rfl (Sub.cons rfl Sub.nil)) (Sub.refl _) ?_
      refine DW.ret ?_
      rw [turnL_len]
      exact RetD.sv rfl rfl (by rw [flat_len, turnL_len]) (by omega) rfl rfl
end Go.Proofs.Ytidcomcnieggaaa
