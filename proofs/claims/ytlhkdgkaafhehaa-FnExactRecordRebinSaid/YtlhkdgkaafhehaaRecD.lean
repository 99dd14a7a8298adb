/-
  The contracts of the functions on records, walked by the plain machine.
-/
import Derived.Test.YtlhkdgkaafhehaaFracD
import Derived.Test.YtlhkdgkaafhehaaPureB
namespace Go.Proofs.Ytlhkdgkaafhehaa
open Go.RowKit
set_option linter.unusedVariables false
set_option linter.unusedSimpArgs false

def gIsDepth : List AD → Option RD
  | [.v (.int .i64 d)] => some (.one (.v (.bool (depB d))))
  | _ => none
def gIsSpan : List AD → Option RD
  | [.v (.int .i64 t), .v (.int .i64 b)] => some (.one (.v (.bool (spanB t b))))
  | _ => none
def gOverlap : List AD → Option RD
  | [.v (.agg ⟨[.int .i64 a, .int .i64 b]⟩), .v (.agg ⟨[.int .i64 c, .int .i64 d]⟩)] => if (0 ≤ a ∧ a ≤ 30000) ∧ (0 ≤ b ∧ b ≤ 30000) ∧ (0 ≤ c ∧ c ≤ 30000) ∧ (0 ≤ d ∧ d ≤ 30000) then some (.one (.v (.int .i64 (ovl c d a b)))) else none
  | _ => none
def gIn : List AD → Option RD
  | [.v (.int .i64 n), .v (.int .i64 a), .v (.int .i64 b)] => some (.one (.v (.bool (decide (n ≥ a) && decide (n ≤ b)))))
  | _ => none
def gWhole : List AD → Option RD
  | [.v (.int .i64 n)] => some (.one (.v (.agg #[.int .i64 n, .int .i64 1])))
  | _ => none
def gEdges : List AD → Option RD
  | [.sl .i64 1 _ l] => some (.one (.v (.bool (edgesB l))))
  | _ => none
def gValid : List AD → Option RD
  | [.sl .i64 1 _ l, .sl .i64 1 _ a] => some (.one (.v (.bool (recB l a))))
  | _ => none
def gTotal : List AD → Option RD
  | [.sl .i64 1 _ l, .sl .i64 1 _ a] => some (.one (.v (.int .i64 (totalI l a))))
  | _ => none

theorem isDepth_di : DFun Try.prog 55 gIsDepth := by
  have hE : EnvOK Try.prog [] := EnvOK.nil
  refine DFun.of tauOK (fn := Try.f55) Try.func55 rfl (by kernel_rfl) rfl rfl ?_
  intro C ds r hg hl
  unfold gIsDepth at hg
  split at hg
  case h_2 => cases hg
  rename_i d
  cases hg
  refine ⟨by simp, ?_⟩
  refine DW.seq ?_
  refine DW.region ?_
  refine DL.go0 tauOK hE rfl (GStep.assign rfl) rfl rfl ?_
  refine DL.nil ?_
  refine DW.sub (T' := [(0, _)]) (Sub.cons rfl Sub.nil) (Sub.refl _) ?_
  have e : depB d = (decide (d ≥ 0) && decide (d ≤ 30000)) := by rw [Bool.eq_iff_iff]; simp [depB]
  rw [e]
  cases h0 : decide (d ≥ 0)
  · refine DW.seq ?_
    refine DW.region ?_
    refine DL.go0 tauOK hE rfl (GStep.move rfl) rfl rfl ?_
    refine DL.go0 tauOK hE rfl (GStep.binI rfl rfl rfl) rfl rfl ?_
    try rw [h0]
    refine DL.go0 tauOK hE rfl (GStep.move rfl) rfl rfl ?_
    first | refine DL.skip rfl rfl rfl ?_ | refine DL.go0 tauOK hE rfl (GStep.move rfl) rfl rfl ?_
    first | refine DL.skip rfl rfl rfl ?_ | refine DL.go0 tauOK hE rfl (GStep.binI rfl rfl rfl) rfl rfl ?_
    try rw [h0]
    first | refine DL.go0 tauOK hE rfl (GStep.pickT rfl rfl) rfl rfl ?_ | refine DL.go0 tauOK hE rfl (GStep.pickF rfl rfl) rfl rfl ?_
    refine DL.go0 tauOK hE rfl (GStep.assign rfl) rfl rfl ?_
    refine DL.nil ?_
    refine DW.sub (T' := [(2, _)]) (Sub.cons rfl Sub.nil) (Sub.refl _) ?_
    refine DW.ret ?_
    exact ⟨_, rfl, RV.v rfl rfl⟩
  · skip
    refine DW.seq ?_
    refine DW.region ?_
    refine DL.go0 tauOK hE rfl (GStep.move rfl) rfl rfl ?_
    refine DL.go0 tauOK hE rfl (GStep.binI rfl rfl rfl) rfl rfl ?_
    try rw [h0]
    refine DL.go0 tauOK hE rfl (GStep.move rfl) rfl rfl ?_
    first | refine DL.skip rfl rfl rfl ?_ | refine DL.go0 tauOK hE rfl (GStep.move rfl) rfl rfl ?_
    first | refine DL.skip rfl rfl rfl ?_ | refine DL.go0 tauOK hE rfl (GStep.binI rfl rfl rfl) rfl rfl ?_
    try rw [h0]
    first | refine DL.go0 tauOK hE rfl (GStep.pickT rfl rfl) rfl rfl ?_ | refine DL.go0 tauOK hE rfl (GStep.pickF rfl rfl) rfl rfl ?_
    refine DL.go0 tauOK hE rfl (GStep.assign rfl) rfl rfl ?_
    refine DL.nil ?_
    refine DW.sub (T' := [(2, _)]) (Sub.cons rfl Sub.nil) (Sub.refl _) ?_
    refine DW.ret ?_
    exact ⟨_, rfl, RV.v rfl rfl⟩

theorem l6In_ds : DFun Try.prog 45 gIn := by
  have hE : EnvOK Try.prog [] := EnvOK.nil
  refine DFun.of tauOK (fn := Try.f45) Try.func45 rfl (by kernel_rfl) rfl rfl ?_
  intro C ds r hg hl
  unfold gIn at hg
  split at hg
  case h_2 => cases hg
  rename_i n a b
  cases hg
  refine ⟨by simp, ?_⟩
  refine DW.seq ?_
  refine DW.region ?_
  refine DL.go0 tauOK hE rfl (GStep.assign rfl) rfl rfl ?_
  refine DL.nil ?_
  refine DW.sub (T' := [(0, _), (1, _), (2, _)]) (Sub.cons rfl (Sub.cons rfl (Sub.cons rfl Sub.nil))) (Sub.refl _) ?_
  cases h0 : decide (n ≥ a)
  · refine DW.seq ?_
    refine DW.region ?_
    refine DL.go0 tauOK hE rfl (GStep.move rfl) rfl rfl ?_
    refine DL.go0 tauOK hE rfl (GStep.move rfl) rfl rfl ?_
    refine DL.go0 tauOK hE rfl (GStep.binI rfl rfl rfl) rfl rfl ?_
    try rw [h0]
    refine DL.go0 tauOK hE rfl (GStep.move rfl) rfl rfl ?_
    first | refine DL.skip rfl rfl rfl ?_ | refine DL.go0 tauOK hE rfl (GStep.move rfl) rfl rfl ?_
    first | refine DL.skip rfl rfl rfl ?_ | refine DL.go0 tauOK hE rfl (GStep.move rfl) rfl rfl ?_
    first | refine DL.skip rfl rfl rfl ?_ | refine DL.go0 tauOK hE rfl (GStep.binI rfl rfl rfl) rfl rfl ?_
    try rw [h0]
    first | refine DL.go0 tauOK hE rfl (GStep.pickT rfl rfl) rfl rfl ?_ | refine DL.go0 tauOK hE rfl (GStep.pickF rfl rfl) rfl rfl ?_
    refine DL.go0 tauOK hE rfl (GStep.assign rfl) rfl rfl ?_
    refine DL.nil ?_
    refine DW.sub (T' := [(6, _)]) (Sub.cons rfl Sub.nil) (Sub.refl _) ?_
    refine DW.ret ?_
    exact ⟨_, rfl, RV.v rfl rfl⟩
  · skip
    refine DW.seq ?_
    refine DW.region ?_
    refine DL.go0 tauOK hE rfl (GStep.move rfl) rfl rfl ?_
    refine DL.go0 tauOK hE rfl (GStep.move rfl) rfl rfl ?_
    refine DL.go0 tauOK hE rfl (GStep.binI rfl rfl rfl) rfl rfl ?_
    try rw [h0]
    refine DL.go0 tauOK hE rfl (GStep.move rfl) rfl rfl ?_
    first | refine DL.skip rfl rfl rfl ?_ | refine DL.go0 tauOK hE rfl (GStep.move rfl) rfl rfl ?_
    first | refine DL.skip rfl rfl rfl ?_ | refine DL.go0 tauOK hE rfl (GStep.move rfl) rfl rfl ?_
    first | refine DL.skip rfl rfl rfl ?_ | refine DL.go0 tauOK hE rfl (GStep.binI rfl rfl rfl) rfl rfl ?_
    try rw [h0]
    first | refine DL.go0 tauOK hE rfl (GStep.pickT rfl rfl) rfl rfl ?_ | refine DL.go0 tauOK hE rfl (GStep.pickF rfl rfl) rfl rfl ?_
    refine DL.go0 tauOK hE rfl (GStep.assign rfl) rfl rfl ?_
    refine DL.nil ?_
    refine DW.sub (T' := [(6, _)]) (Sub.cons rfl Sub.nil) (Sub.refl _) ?_
    refine DW.ret ?_
    exact ⟨_, rfl, RV.v rfl rfl⟩

theorem l11Depth_ds : DFun Try.prog 44 gIsDepth := by
  have hE : EnvOK Try.prog [(45, gIn)] := EnvOK.cons l6In_ds EnvOK.nil
  refine DFun.of tauOK (fn := Try.f44) Try.func44 rfl (by kernel_rfl) rfl rfl ?_
  intro C ds r hg hl
  unfold gIsDepth at hg
  split at hg
  case h_2 => cases hg
  rename_i d
  cases hg
  refine ⟨by simp, ?_⟩
  have e : depB d = (decide (d ≥ 0) && decide (d ≤ 30000)) := by rw [Bool.eq_iff_iff]; simp [depB]
  rw [e]
  refine DW.seq ?_
  refine DW.region ?_
  refine DL.go0 tauOK hE rfl (GStep.assign rfl) rfl rfl ?_
  refine DL.nil ?_
  refine DW.sub (T' := [(0, _)]) (Sub.cons rfl Sub.nil) (Sub.refl _) ?_
  refine DW.seq ?_
  refine DW.region ?_
  refine DL.go0 tauOK hE rfl (GStep.move rfl) rfl rfl ?_
  refine DL.go0 tauOK hE rfl (G.call (v := .val _) (news := []) rfl (All2.cons (ArgOf.v rfl) (All2.cons (ArgOf.v rfl) (All2.cons (ArgOf.v rfl) All2.nil))) (rfl) rfl rfl) rfl rfl ?_
  refine DL.go0 tauOK hE rfl (GStep.assign rfl) rfl rfl ?_
  refine DL.nil ?_
  refine DW.sub (T' := [(2, _)]) (Sub.cons rfl Sub.nil) (Sub.refl _) ?_
  refine DW.ret ?_
  exact ⟨_, rfl, RV.v rfl rfl⟩

theorem l11Whole_ds : DFun Try.prog 46 gWhole := by
  have hE : EnvOK Try.prog [] := EnvOK.nil
  refine DFun.of tauOK (fn := Try.f46) Try.func46 rfl (by kernel_rfl) rfl rfl ?_
  intro C ds r hg hl
  unfold gWhole at hg
  split at hg
  case h_2 => cases hg
  rename_i n
  cases hg
  refine ⟨by simp, ?_⟩
  refine DW.seq ?_
  refine DW.region ?_
  refine DL.go1 tauOK hE rfl (GStep.alloc2 rfl) rfl rfl rfl ?_
  refine DL.nil ?_
  refine DW.sub (T' := [(0, _), (2, _)]) (Sub.cons rfl (Sub.cons rfl Sub.nil)) (Sub.refl _) ?_
  refine DW.seq ?_
  refine DW.region ?_
  refine DL.go0 tauOK hE rfl (GStep.move rfl) rfl rfl ?_
  refine DL.go0 tauOK hE rfl (G.b01 rfl rfl rfl) rfl rfl ?_
  refine DL.sb2 tauOK rfl rfl rfl rfl rfl rfl rfl ?_
  refine DL.nil ?_
  refine DW.sub (T' := [(2, _)]) (Sub.cons rfl Sub.nil) (Sub.refl _) ?_
  refine DW.ret ?_
  exact ⟨_, rfl, RV.cell rfl rfl rfl⟩

theorem isSpan_di : DFun Try.prog 41 gIsSpan := by
  have hE : EnvOK Try.prog [(55, gIsDepth)] := EnvOK.cons isDepth_di EnvOK.nil
  refine DFun.of tauOK (fn := Try.f41) Try.func41 rfl (by kernel_rfl) rfl rfl ?_
  intro C ds r hg hl
  unfold gIsSpan at hg
  split at hg
  case h_2 => cases hg
  rename_i t b
  cases hg
  refine ⟨by simp, ?_⟩
  refine DW.seq ?_
  refine DW.region ?_
  refine DL.go0 tauOK hE rfl (GStep.assign rfl) rfl rfl ?_
  refine DL.nil ?_
  refine DW.sub (T' := [(0, _), (1, _)]) (Sub.cons rfl (Sub.cons rfl Sub.nil)) (Sub.refl _) ?_
  have e : spanB t b = (depB t && (depB b && decide (t ≤ b))) := by rw [Bool.eq_iff_iff]; simp [depB, spanB]; omega
  rw [e]
  cases h0 : depB t
  · refine DW.seq ?_
    refine DW.region ?_
    refine DL.go0 tauOK hE rfl (GStep.move rfl) rfl rfl ?_
    refine DL.go0 tauOK hE rfl (G.call (v := .val _) (news := []) rfl (All2.cons (ArgOf.v rfl) All2.nil) (rfl) rfl rfl) rfl rfl ?_
    try rw [h0]
    refine DL.go0 tauOK hE rfl (GStep.move rfl) rfl rfl ?_
    first | refine DL.skip rfl rfl rfl ?_ | refine DL.go0 tauOK hE rfl (GStep.move rfl) rfl rfl ?_
    first | refine DL.skip rfl rfl rfl ?_ | refine DL.go0 tauOK hE rfl (G.call (v := .val _) (news := []) rfl (All2.cons (ArgOf.v rfl) All2.nil) (rfl) rfl rfl) rfl rfl ?_
    try rw [h0]
    first | refine DL.go0 tauOK hE rfl (GStep.pickT rfl rfl) rfl rfl ?_ | refine DL.go0 tauOK hE rfl (GStep.pickF rfl rfl) rfl rfl ?_
    refine DL.go0 tauOK hE rfl (GStep.move rfl) rfl rfl ?_
    first | refine DL.skip rfl rfl rfl ?_ | refine DL.go0 tauOK hE rfl (GStep.move rfl) rfl rfl ?_
    first | refine DL.skip rfl rfl rfl ?_ | refine DL.go0 tauOK hE rfl (GStep.move rfl) rfl rfl ?_
    first | refine DL.skip rfl rfl rfl ?_ | refine DL.go0 tauOK hE rfl (GStep.binI rfl rfl rfl) rfl rfl ?_
    try rw [h0]
    first | refine DL.go0 tauOK hE rfl (GStep.pickT rfl rfl) rfl rfl ?_ | refine DL.go0 tauOK hE rfl (GStep.pickF rfl rfl) rfl rfl ?_
    refine DL.go0 tauOK hE rfl (GStep.assign rfl) rfl rfl ?_
    refine DL.nil ?_
    refine DW.sub (T' := [(4, _)]) (Sub.cons rfl Sub.nil) (Sub.refl _) ?_
    refine DW.ret ?_
    exact ⟨_, rfl, RV.v rfl rfl⟩
  · cases h1 : depB b
    · skip
      refine DW.seq ?_
      refine DW.region ?_
      refine DL.go0 tauOK hE rfl (GStep.move rfl) rfl rfl ?_
      refine DL.go0 tauOK hE rfl (G.call (v := .val _) (news := []) rfl (All2.cons (ArgOf.v rfl) All2.nil) (rfl) rfl rfl) rfl rfl ?_
      try rw [h0]
      try rw [h1]
      refine DL.go0 tauOK hE rfl (GStep.move rfl) rfl rfl ?_
      first | refine DL.skip rfl rfl rfl ?_ | refine DL.go0 tauOK hE rfl (GStep.move rfl) rfl rfl ?_
      first | refine DL.skip rfl rfl rfl ?_ | refine DL.go0 tauOK hE rfl (G.call (v := .val _) (news := []) rfl (All2.cons (ArgOf.v rfl) All2.nil) (rfl) rfl rfl) rfl rfl ?_
      try rw [h0]
      try rw [h1]
      first | refine DL.go0 tauOK hE rfl (GStep.pickT rfl rfl) rfl rfl ?_ | refine DL.go0 tauOK hE rfl (GStep.pickF rfl rfl) rfl rfl ?_
      refine DL.go0 tauOK hE rfl (GStep.move rfl) rfl rfl ?_
      first | refine DL.skip rfl rfl rfl ?_ | refine DL.go0 tauOK hE rfl (GStep.move rfl) rfl rfl ?_
      first | refine DL.skip rfl rfl rfl ?_ | refine DL.go0 tauOK hE rfl (GStep.move rfl) rfl rfl ?_
      first | refine DL.skip rfl rfl rfl ?_ | refine DL.go0 tauOK hE rfl (GStep.binI rfl rfl rfl) rfl rfl ?_
      try rw [h0]
      try rw [h1]
      first | refine DL.go0 tauOK hE rfl (GStep.pickT rfl rfl) rfl rfl ?_ | refine DL.go0 tauOK hE rfl (GStep.pickF rfl rfl) rfl rfl ?_
      refine DL.go0 tauOK hE rfl (GStep.assign rfl) rfl rfl ?_
      refine DL.nil ?_
      refine DW.sub (T' := [(4, _)]) (Sub.cons rfl Sub.nil) (Sub.refl _) ?_
      refine DW.ret ?_
      exact ⟨_, rfl, RV.v rfl rfl⟩
    · skip
      refine DW.seq ?_
      refine DW.region ?_
      refine DL.go0 tauOK hE rfl (GStep.move rfl) rfl rfl ?_
      refine DL.go0 tauOK hE rfl (G.call (v := .val _) (news := []) rfl (All2.cons (ArgOf.v rfl) All2.nil) (rfl) rfl rfl) rfl rfl ?_
      try rw [h0]
      try rw [h1]
      refine DL.go0 tauOK hE rfl (GStep.move rfl) rfl rfl ?_
      first | refine DL.skip rfl rfl rfl ?_ | refine DL.go0 tauOK hE rfl (GStep.move rfl) rfl rfl ?_
      first | refine DL.skip rfl rfl rfl ?_ | refine DL.go0 tauOK hE rfl (G.call (v := .val _) (news := []) rfl (All2.cons (ArgOf.v rfl) All2.nil) (rfl) rfl rfl) rfl rfl ?_
      try rw [h0]
      try rw [h1]
      first | refine DL.go0 tauOK hE rfl (GStep.pickT rfl rfl) rfl rfl ?_ | refine DL.go0 tauOK hE rfl (GStep.pickF rfl rfl) rfl rfl ?_
      refine DL.go0 tauOK hE rfl (GStep.move rfl) rfl rfl ?_
      first | refine DL.skip rfl rfl rfl ?_ | refine DL.go0 tauOK hE rfl (GStep.move rfl) rfl rfl ?_
      first | refine DL.skip rfl rfl rfl ?_ | refine DL.go0 tauOK hE rfl (GStep.move rfl) rfl rfl ?_
      first | refine DL.skip rfl rfl rfl ?_ | refine DL.go0 tauOK hE rfl (GStep.binI rfl rfl rfl) rfl rfl ?_
      try rw [h0]
      try rw [h1]
      first | refine DL.go0 tauOK hE rfl (GStep.pickT rfl rfl) rfl rfl ?_ | refine DL.go0 tauOK hE rfl (GStep.pickF rfl rfl) rfl rfl ?_
      refine DL.go0 tauOK hE rfl (GStep.assign rfl) rfl rfl ?_
      refine DL.nil ?_
      refine DW.sub (T' := [(4, _)]) (Sub.cons rfl Sub.nil) (Sub.refl _) ?_
      refine DW.ret ?_
      exact ⟨_, rfl, RV.v rfl rfl⟩

theorem overlap_di : DFun Try.prog 42 gOverlap := by
  have hE : EnvOK Try.prog [] := EnvOK.nil
  refine DFun.of tauOK (fn := Try.f42) Try.func42 rfl (by kernel_rfl) rfl rfl ?_
  intro C ds r hg hl
  unfold gOverlap at hg
  split at hg
  case h_2 => cases hg
  rename_i a b c d
  split at hg
  case isFalse => cases hg
  rename_i hb
  cases hg
  refine ⟨by simp, ?_⟩
  refine DW.seq ?_
  refine DW.region ?_
  refine DL.go1 tauOK hE rfl (GStep.box2 rfl) rfl rfl rfl ?_
  refine DL.go1 tauOK hE rfl (GStep.box2 rfl) rfl rfl rfl ?_
  refine DL.go0 tauOK hE rfl (GStep.assign rfl) rfl rfl ?_
  refine DL.nil ?_
  refine DW.sub (T' := [(2, _), (3, _)]) (Sub.cons rfl (Sub.cons rfl Sub.nil)) (Sub.refl _) ?_
  refine DW.seq ?_
  refine DW.region ?_
  refine DL.go0 tauOK hE rfl (G.fa rfl rfl rfl (by decide)) rfl rfl ?_
  refine DL.go0 tauOK hE rfl (G.lbf1 rfl rfl rfl) rfl rfl ?_
  refine DL.go0 tauOK hE rfl (G.fa rfl rfl rfl (by decide)) rfl rfl ?_
  refine DL.go0 tauOK hE rfl (G.lbf1 rfl rfl rfl) rfl rfl ?_
  refine DL.go0 tauOK hE rfl (G.mini rfl rfl) rfl rfl ?_
  refine DL.go0 tauOK hE rfl (G.fa rfl rfl rfl (by decide)) rfl rfl ?_
  refine DL.go0 tauOK hE rfl (G.lbf0 rfl rfl rfl) rfl rfl ?_
  refine DL.go0 tauOK hE rfl (G.fa rfl rfl rfl (by decide)) rfl rfl ?_
  refine DL.go0 tauOK hE rfl (G.lbf0 rfl rfl rfl) rfl rfl ?_
  refine DL.go0 tauOK hE rfl (G.maxi rfl rfl) rfl rfl ?_
  first | refine DL.go0 tauOK hE rfl (G.sub rfl rfl (by omega)) rfl rfl ?_ | refine DL.go0 tauOK hE rfl (GStep.binI rfl rfl rfl) rfl rfl ?_
  refine DL.go0 tauOK hE rfl (G.maxi rfl rfl) rfl rfl ?_
  refine DL.go0 tauOK hE rfl (GStep.assign rfl) rfl rfl ?_
  refine DL.nil ?_
  refine DW.sub (T' := [(4, _)]) (Sub.cons rfl Sub.nil) (Sub.refl _) ?_
  refine DW.ret ?_
  have e : ovl c d a b = max 0 (min b d - max a c) := by unfold ovl; omega
  rw [e]
  exact ⟨_, rfl, RV.v rfl rfl⟩

theorem edges_di : DFun Try.prog 53 gEdges := by
  have hE : EnvOK Try.prog [(55, gIsDepth)] := EnvOK.cons isDepth_di EnvOK.nil
  refine DFun.of tauOK (fn := Try.f53) Try.func53 rfl (by kernel_rfl) rfl rfl ?_
  intro C ds r hg hl
  unfold gEdges at hg
  split at hg
  case h_2 => cases hg
  rename_i n l
  cases hg
  refine ⟨by simp, ?_⟩
  obtain ⟨hn, hm, _⟩ := hl
  obtain rfl : n = l.length := by omega
  clear hn
  refine DW.seq ?_
  refine DW.region ?_
  refine DL.go0 tauOK hE rfl (GStep.assign rfl) rfl rfl ?_
  refine DL.nil ?_
  refine DW.sub (T' := [(0, _)]) (Sub.cons rfl Sub.nil) (Sub.refl _) ?_
  refine DW.seq ?_
  refine DW.seq ?_
  refine DW.region ?_
  refine DL.go0 tauOK hE rfl (GStep.move rfl) rfl rfl ?_
  first | refine DL.go0 tauOK hE rfl (GStep.len rfl rfl rfl) rfl rfl ?_ | refine DL.go0 tauOK hE rfl (GStep.lenNil rfl rfl) rfl rfl ?_
  refine DL.go0 tauOK hE rfl (GStep.move rfl) rfl rfl ?_
  refine DL.nil ?_
  refine DW.sub (T' := [(0, _), (5, _), (6, _), (7, _)]) (Sub.cons rfl (Sub.cons rfl (Sub.cons rfl (Sub.cons rfl Sub.nil)))) (Sub.refl _) ?_
  refine DW.block ?_
  refine DW.loop (α := Nat) (fun k => [(0, .sl 0 0 l.length), (5, .sl 0 0 l.length), (6, .val (.int .i64 l.length)), (7, .val (.int .i64 (k : Nat)))]) (fun k => [(0, .ro .i64 1 l)]) (fun k => k ≤ l.length ∧ okUp l k) (fun k => l.length - k) 0 (⟨by omega, okUp_zero l⟩) (Sub.cons rfl (Sub.cons rfl (Sub.cons rfl (Sub.cons rfl Sub.nil)))) (Sub.cons rfl Sub.nil) ?_
  rintro k ⟨hk, hok⟩
  skip
  refine DW.seq ?_
  refine DW.region ?_
  refine DL.go0 tauOK hE rfl (GStep.binI rfl rfl rfl) rfl rfl ?_
  refine DL.nil ?_
  refine DW.sub (T' := [(0, _), (5, _), (6, _), (7, _), (8, _)]) (Sub.cons rfl (Sub.cons rfl (Sub.cons rfl (Sub.cons rfl (Sub.cons rfl Sub.nil))))) (Sub.refl _) ?_
  refine DW.seq ?_
  refine DW.cond rfl (fun hlt => ?_) (fun hlt => ?_)
  · skip
    have hlt : k < l.length := by simpa using hlt
    refine DW.skip ?_
    refine DW.seq ?_
    refine DW.block ?_
    refine DW.seq ?_
    refine DW.region ?_
    refine DL.go0 tauOK hE rfl (GStep.move rfl) rfl rfl ?_
    refine DL.go0 tauOK hE rfl (G.ia1 rfl rfl rfl rfl rfl rfl rfl (by omega)) rfl rfl ?_
    first | refine DL.go0 tauOK hE rfl (G.le1r rfl rfl rfl (by omega)) rfl rfl ?_ | refine DL.go0 tauOK hE rfl (G.le1w rfl rfl rfl (by omega)) rfl rfl ?_
    refine DL.go0 tauOK hE rfl (GStep.assign rfl) rfl rfl ?_
    refine DL.go0 tauOK hE rfl (GStep.assign rfl) rfl rfl ?_
    refine DL.nil ?_
    refine DW.sub (T' := [(0, _), (3, _), (4, _), (5, _), (6, _), (7, _)]) (Sub.cons rfl (Sub.cons rfl (Sub.cons rfl (Sub.cons rfl (Sub.cons rfl (Sub.cons rfl Sub.nil)))))) (Sub.refl _) ?_
    refine DW.cut 27 (!depB (l.getD k 0) || (decide (0 < (k : Int)) && decide (l.getD k 0 ≤ l.getD (k - 1) 0))) [0, 5, 6, 7] ?_ ?_
    · cases hc1 : depB (l.getD k 0) <;> cases h0 : decide (0 < (k : Int)) <;> cases hc3 : decide (l.getD k 0 ≤ l.getD (k - 1) 0) <;> (
        (try have q_hc1 := of_decide_eq_true hc1); (try have q_hc1 := of_decide_eq_false hc1)
        (try have q_h0 := of_decide_eq_true h0); (try have q_h0 := of_decide_eq_false h0)
        (try have q_hc3 := of_decide_eq_true hc3); (try have q_hc3 := of_decide_eq_false hc3)
        refine DW.region ?_
        refine DL.go0 tauOK hE rfl (GStep.move rfl) rfl rfl ?_
        refine DL.go0 tauOK hE rfl (G.call (v := .val _) (news := []) rfl (All2.cons (ArgOf.v rfl) All2.nil) (rfl) rfl rfl) rfl rfl ?_
        try rw [hc1]
        try rw [h0]
        try rw [hc3]
        refine DL.go0 tauOK hE rfl (GStep.not rfl) rfl rfl ?_
        refine DL.go0 tauOK hE rfl (GStep.move rfl) rfl rfl ?_
        first | refine DL.skip rfl rfl rfl ?_ | refine DL.go0 tauOK hE rfl (GStep.move rfl) rfl rfl ?_
        first | refine DL.skip rfl rfl rfl ?_ | refine DL.go0 tauOK hE rfl (GStep.binI rfl rfl rfl) rfl rfl ?_
        try rw [hc1]
        try rw [h0]
        try rw [hc3]
        first | refine DL.skip rfl rfl rfl ?_ | refine DL.go0 tauOK hE rfl (GStep.move rfl) rfl rfl ?_
        first | refine DL.skip rfl rfl rfl ?_ | refine DL.go0 tauOK hE rfl (GStep.move rfl) rfl rfl ?_
        first | refine DL.skip rfl rfl rfl ?_ | refine DL.go0 tauOK hE rfl (GStep.move rfl) rfl rfl ?_
        first | refine DL.skip rfl rfl rfl ?_ | refine DL.go0 tauOK hE rfl (GStep.move rfl) rfl rfl ?_
        first | refine DL.skip rfl rfl rfl ?_ | refine DL.go0 tauOK hE rfl (G.sub rfl rfl (by omega)) rfl rfl ?_ | refine DL.go0 tauOK hE rfl (GStep.binI rfl rfl rfl) rfl rfl ?_
        try rw [hc1]
        try rw [h0]
        try rw [hc3]
        first | refine DL.skip rfl rfl rfl ?_ | refine DL.go0 tauOK hE rfl (G.ia1 (i := k - 1) rfl rfl rfl rfl rfl rfl (by omega) (by omega)) rfl rfl ?_
        first | refine DL.skip rfl rfl rfl ?_ | refine DL.go0 tauOK hE rfl (G.le1r rfl rfl rfl (by omega)) rfl rfl ?_ | refine DL.go0 tauOK hE rfl (G.le1w rfl rfl rfl (by omega)) rfl rfl ?_
        first | refine DL.skip rfl rfl rfl ?_ | refine DL.go0 tauOK hE rfl (GStep.binI rfl rfl rfl) rfl rfl ?_
        try rw [hc1]
        try rw [h0]
        try rw [hc3]
        first | refine DL.skip rfl rfl rfl ?_ | refine DL.go0 tauOK hE rfl (GStep.pickT rfl rfl) rfl rfl ?_ | refine DL.go0 tauOK hE rfl (GStep.pickF rfl rfl) rfl rfl ?_
        first | refine DL.go0 tauOK hE rfl (GStep.pickT rfl rfl) rfl rfl ?_ | refine DL.go0 tauOK hE rfl (GStep.pickF rfl rfl) rfl rfl ?_
        refine DL.nil ?_
        exact ⟨rfl, _, rfl, by simp [hc1, h0, hc3], SubK.cons rfl (SubK.cons rfl (SubK.cons rfl (SubK.cons rfl (SubK.nil)))), Sub.refl _⟩)
    refine DW.sub (T' := [(0, _), (5, _), (6, _), (7, _), (27, _)]) (Sub.cons rfl (Sub.cons rfl (Sub.cons rfl (Sub.cons rfl (Sub.cons rfl Sub.nil))))) (Sub.refl _) ?_
    refine DW.cond rfl (fun hb => ?_) (fun hb => ?_)
    · skip
      refine DW.seq ?_
      refine DW.region ?_
      refine DL.go0 tauOK hE rfl (GStep.assign rfl) rfl rfl ?_
      refine DL.nil ?_
      refine DW.sub (T' := [(2, _)]) (Sub.cons rfl Sub.nil) (Sub.refl _) ?_
      refine DW.ret ?_
      have e : false = edgesB l := (edgesB_no hlt (by simpa using hb)).symm
      rw [← e]
      exact ⟨_, rfl, RV.v rfl rfl⟩
    · skip
      refine DW.skip ?_
      refine DW.region ?_
      first | refine DL.go0 tauOK hE rfl (G.add rfl rfl (by omega)) rfl rfl ?_ | refine DL.go0 tauOK hE rfl (GStep.binI rfl rfl rfl) rfl rfl ?_
      refine DL.go0 tauOK hE rfl (GStep.move rfl) rfl rfl ?_
      refine DL.nil ?_
      simp [-List.getD_eq_getElem?_getD] at hb
      refine ⟨k + 1, ⟨by omega, okUp_succ hok hb.1 (by intro h; have := hb.2 (by omega); omega)⟩, by first | omega | (dsimp only; omega), ?_, ?_⟩
      · exact Sub.cons rfl (Sub.cons rfl (Sub.cons rfl (Sub.cons rfl Sub.nil)))
      · exact Sub.cons rfl Sub.nil
  · skip
    have hlt : k = l.length := by simp at hlt; omega
    subst hlt
    refine DW.exit ?_
    have e : edgesB l = (decide ((l.length : Int) ≥ 2) && decide ((l.length : Int) ≤ 21)) := by
      rw [edgesB_end hok, Bool.eq_iff_iff]; simp; omega
    rw [e]
    cases h2 : decide ((l.length : Int) ≥ 2)
    · refine DW.seq ?_
      refine DW.region ?_
      refine DL.go0 tauOK hE rfl (GStep.move rfl) rfl rfl ?_
      first | refine DL.go0 tauOK hE rfl (GStep.len rfl rfl rfl) rfl rfl ?_ | refine DL.go0 tauOK hE rfl (GStep.lenNil rfl rfl) rfl rfl ?_
      try rw [h2]
      refine DL.go0 tauOK hE rfl (GStep.binI rfl rfl rfl) rfl rfl ?_
      try rw [h2]
      refine DL.go0 tauOK hE rfl (GStep.move rfl) rfl rfl ?_
      first | refine DL.skip rfl rfl rfl ?_ | refine DL.go0 tauOK hE rfl (GStep.move rfl) rfl rfl ?_
      first | refine DL.skip rfl rfl rfl ?_ | refine DL.go0 tauOK hE rfl (GStep.len rfl rfl rfl) rfl rfl ?_ | refine DL.go0 tauOK hE rfl (GStep.lenNil rfl rfl) rfl rfl ?_
      try rw [h2]
      first | refine DL.skip rfl rfl rfl ?_ | refine DL.go0 tauOK hE rfl (GStep.binI rfl rfl rfl) rfl rfl ?_
      try rw [h2]
      first | refine DL.go0 tauOK hE rfl (GStep.pickT rfl rfl) rfl rfl ?_ | refine DL.go0 tauOK hE rfl (GStep.pickF rfl rfl) rfl rfl ?_
      refine DL.go0 tauOK hE rfl (GStep.assign rfl) rfl rfl ?_
      refine DL.nil ?_
      refine DW.sub (T' := [(2, _)]) (Sub.cons rfl Sub.nil) (Sub.refl _) ?_
      refine DW.ret ?_
      exact ⟨_, rfl, RV.v rfl rfl⟩
    · skip
      refine DW.seq ?_
      refine DW.region ?_
      refine DL.go0 tauOK hE rfl (GStep.move rfl) rfl rfl ?_
      first | refine DL.go0 tauOK hE rfl (GStep.len rfl rfl rfl) rfl rfl ?_ | refine DL.go0 tauOK hE rfl (GStep.lenNil rfl rfl) rfl rfl ?_
      try rw [h2]
      refine DL.go0 tauOK hE rfl (GStep.binI rfl rfl rfl) rfl rfl ?_
      try rw [h2]
      refine DL.go0 tauOK hE rfl (GStep.move rfl) rfl rfl ?_
      first | refine DL.skip rfl rfl rfl ?_ | refine DL.go0 tauOK hE rfl (GStep.move rfl) rfl rfl ?_
      first | refine DL.skip rfl rfl rfl ?_ | refine DL.go0 tauOK hE rfl (GStep.len rfl rfl rfl) rfl rfl ?_ | refine DL.go0 tauOK hE rfl (GStep.lenNil rfl rfl) rfl rfl ?_
      try rw [h2]
      first | refine DL.skip rfl rfl rfl ?_ | refine DL.go0 tauOK hE rfl (GStep.binI rfl rfl rfl) rfl rfl ?_
      try rw [h2]
      first | refine DL.go0 tauOK hE rfl (GStep.pickT rfl rfl) rfl rfl ?_ | refine DL.go0 tauOK hE rfl (GStep.pickF rfl rfl) rfl rfl ?_
      refine DL.go0 tauOK hE rfl (GStep.assign rfl) rfl rfl ?_
      refine DL.nil ?_
      refine DW.sub (T' := [(2, _)]) (Sub.cons rfl Sub.nil) (Sub.refl _) ?_
      refine DW.ret ?_
      exact ⟨_, rfl, RV.v rfl rfl⟩

theorem edges_ds : DFun Try.prog 54 gEdges := by
  have hE : EnvOK Try.prog [(44, gIsDepth), (45, gIn)] := EnvOK.cons l11Depth_ds (EnvOK.cons l6In_ds EnvOK.nil)
  refine DFun.of tauOK (fn := Try.f54) Try.func54 rfl (by kernel_rfl) rfl rfl ?_
  intro C ds r hg hl
  unfold gEdges at hg
  split at hg
  case h_2 => cases hg
  rename_i n l
  cases hg
  refine ⟨by simp, ?_⟩
  obtain ⟨hn, hm, _⟩ := hl
  obtain rfl : n = l.length := by omega
  clear hn
  refine DW.seq ?_
  refine DW.region ?_
  refine DL.go0 tauOK hE rfl (GStep.assign rfl) rfl rfl ?_
  refine DL.nil ?_
  refine DW.sub (T' := [(0, _)]) (Sub.cons rfl Sub.nil) (Sub.refl _) ?_
  refine DW.seq ?_
  refine DW.seq ?_
  refine DW.region ?_
  refine DL.go0 tauOK hE rfl (GStep.assign rfl) rfl rfl ?_
  refine DL.nil ?_
  refine DW.sub (T' := [(0, _), (3, _)]) (Sub.cons rfl (Sub.cons rfl Sub.nil)) (Sub.refl _) ?_
  refine DW.block ?_
  refine DW.loop (α := Nat) (fun k => [(0, .sl 0 0 l.length), (3, .val (.int .i64 (k : Nat)))]) (fun k => [(0, .ro .i64 1 l)]) (fun k => k ≤ l.length ∧ okUp l k) (fun k => l.length - k) 0 (⟨by omega, okUp_zero l⟩) (Sub.cons rfl (Sub.cons rfl Sub.nil)) (Sub.cons rfl Sub.nil) ?_
  rintro k ⟨hk, hok⟩
  skip
  refine DW.seq ?_
  refine DW.seq ?_
  refine DW.region ?_
  refine DL.go0 tauOK hE rfl (GStep.move rfl) rfl rfl ?_
  refine DL.go0 tauOK hE rfl (GStep.move rfl) rfl rfl ?_
  first | refine DL.go0 tauOK hE rfl (GStep.len rfl rfl rfl) rfl rfl ?_ | refine DL.go0 tauOK hE rfl (GStep.lenNil rfl rfl) rfl rfl ?_
  refine DL.go0 tauOK hE rfl (GStep.binI rfl rfl rfl) rfl rfl ?_
  refine DL.nil ?_
  refine DW.sub (T' := [(0, _), (3, _), (7, _)]) (Sub.cons rfl (Sub.cons rfl (Sub.cons rfl Sub.nil))) (Sub.refl _) ?_
  refine DW.cond rfl (fun hlt => ?_) (fun hlt => ?_)
  · skip
    have hlt : k < l.length := by simpa using hlt
    refine DW.skip ?_
    refine DW.seq ?_
    refine DW.block ?_
    refine DW.cut 31 (!depB (l.getD k 0) || (decide (0 < (k : Int)) && decide (l.getD (k - 1) 0 ≥ l.getD k 0))) [0, 3] ?_ ?_
    · cases hc1 : depB (l.getD k 0) <;> cases h0 : decide (0 < (k : Int)) <;> cases hc3 : decide (l.getD (k - 1) 0 ≥ l.getD k 0) <;> (
        (try have q_hc1 := of_decide_eq_true hc1); (try have q_hc1 := of_decide_eq_false hc1)
        (try have q_h0 := of_decide_eq_true h0); (try have q_h0 := of_decide_eq_false h0)
        (try have q_hc3 := of_decide_eq_true hc3); (try have q_hc3 := of_decide_eq_false hc3)
        refine DW.draw tauOK hE mixed 22 (by kernel_rfl) ?_
        refine DR.go0 rfl (GStep.move rfl) rfl rfl ?_
        refine DR.go0 rfl (GStep.move rfl) rfl rfl ?_
        refine DR.go0 rfl (G.ia1 rfl rfl rfl rfl rfl rfl rfl (by omega)) rfl rfl ?_
        first | refine DR.go0 rfl (G.le1r rfl rfl rfl (by omega)) rfl rfl ?_ | refine DR.go0 rfl (G.le1w rfl rfl rfl (by omega)) rfl rfl ?_
        refine DR.go0 rfl (G.call (v := .val _) (news := []) rfl (All2.cons (ArgOf.v rfl) All2.nil) (rfl) rfl rfl) rfl rfl ?_
        try rw [hc1]
        try rw [h0]
        try rw [hc3]
        refine DR.go0 rfl (GStep.not rfl) rfl rfl ?_
        refine DR.go0 rfl (GStep.move rfl) rfl rfl ?_
        first | refine DR.skip rfl rfl rfl ?_ | refine DR.go0 rfl (GStep.move rfl) rfl rfl ?_
        first | refine DR.skip rfl rfl rfl ?_ | refine DR.go0 rfl (GStep.binI rfl rfl rfl) rfl rfl ?_
        try rw [hc1]
        try rw [h0]
        try rw [hc3]
        first | refine DR.skip rfl rfl rfl ?_ | refine DR.go0 rfl (GStep.move rfl) rfl rfl ?_
        first | refine DR.skip rfl rfl rfl ?_ | refine DR.go0 rfl (GStep.move rfl) rfl rfl ?_
        first | refine DR.skip rfl rfl rfl ?_ | refine DR.go0 rfl (GStep.move rfl) rfl rfl ?_
        first | refine DR.skip rfl rfl rfl ?_ | refine DR.go0 rfl (G.sub rfl rfl (by omega)) rfl rfl ?_ | refine DR.go0 rfl (GStep.binI rfl rfl rfl) rfl rfl ?_
        try rw [hc1]
        try rw [h0]
        try rw [hc3]
        first | refine DR.skip rfl rfl rfl ?_ | refine DR.go0 rfl (G.ia1 (i := k - 1) rfl rfl rfl rfl rfl rfl (by omega) (by omega)) rfl rfl ?_
        first | refine DR.skip rfl rfl rfl ?_ | refine DR.go0 rfl (G.le1r rfl rfl rfl (by omega)) rfl rfl ?_ | refine DR.go0 rfl (G.le1w rfl rfl rfl (by omega)) rfl rfl ?_
        first | refine DR.skip rfl rfl rfl ?_ | refine DR.go0 rfl (GStep.move rfl) rfl rfl ?_
        first | refine DR.skip rfl rfl rfl ?_ | refine DR.go0 rfl (GStep.move rfl) rfl rfl ?_
        first | refine DR.skip rfl rfl rfl ?_ | refine DR.go0 rfl (G.ia1 rfl rfl rfl rfl rfl rfl rfl (by omega)) rfl rfl ?_
        first | refine DR.skip rfl rfl rfl ?_ | refine DR.go0 rfl (G.le1r rfl rfl rfl (by omega)) rfl rfl ?_ | refine DR.go0 rfl (G.le1w rfl rfl rfl (by omega)) rfl rfl ?_
        first | refine DR.skip rfl rfl rfl ?_ | refine DR.go0 rfl (GStep.binI rfl rfl rfl) rfl rfl ?_
        try rw [hc1]
        try rw [h0]
        try rw [hc3]
        first | refine DR.skip rfl rfl rfl ?_ | refine DR.go0 rfl (GStep.pickT rfl rfl) rfl rfl ?_ | refine DR.go0 rfl (GStep.pickF rfl rfl) rfl rfl ?_
        first | refine DR.go0 rfl (GStep.pickT rfl rfl) rfl rfl ?_ | refine DR.go0 rfl (GStep.pickF rfl rfl) rfl rfl ?_
        refine DR.nil ?_
        refine DL.nil ?_
        exact ⟨rfl, _, rfl, by simp [hc1, h0, hc3], SubK.cons rfl (SubK.cons rfl (SubK.nil)), Sub.refl _⟩)
    refine DW.sub (T' := [(0, _), (3, _), (31, _)]) (Sub.cons rfl (Sub.cons rfl (Sub.cons rfl Sub.nil))) (Sub.refl _) ?_
    refine DW.cond rfl (fun hb => ?_) (fun hb => ?_)
    · skip
      refine DW.seq ?_
      refine DW.region ?_
      refine DL.go0 tauOK hE rfl (GStep.assign rfl) rfl rfl ?_
      refine DL.nil ?_
      refine DW.sub (T' := [(2, _)]) (Sub.cons rfl Sub.nil) (Sub.refl _) ?_
      refine DW.ret ?_
      have e : false = edgesB l := (edgesB_no hlt (by simpa using hb)).symm
      rw [← e]
      exact ⟨_, rfl, RV.v rfl rfl⟩
    · skip
      refine DW.skip ?_
      refine DW.region ?_
      refine DL.go0 tauOK hE rfl (GStep.move rfl) rfl rfl ?_
      first | refine DL.go0 tauOK hE rfl (G.add rfl rfl (by omega)) rfl rfl ?_ | refine DL.go0 tauOK hE rfl (GStep.binI rfl rfl rfl) rfl rfl ?_
      refine DL.go0 tauOK hE rfl (GStep.assign rfl) rfl rfl ?_
      refine DL.nil ?_
      simp [-List.getD_eq_getElem?_getD] at hb
      refine ⟨k + 1, ⟨by omega, okUp_succ hok hb.1 (by intro h; have := hb.2 (by omega); omega)⟩, by first | omega | (dsimp only; omega), ?_, ?_⟩
      · exact Sub.cons rfl (Sub.cons rfl Sub.nil)
      · exact Sub.cons rfl Sub.nil
  · skip
    have hlt : k = l.length := by simp at hlt; omega
    subst hlt
    refine DW.exit ?_
    have e : edgesB l = (decide ((l.length : Int) ≥ 2) && decide ((l.length : Int) ≤ 21)) := by
      rw [edgesB_end hok, Bool.eq_iff_iff]; simp; omega
    rw [e]
    refine DW.seq ?_
    refine DW.region ?_
    refine DL.go0 tauOK hE rfl (GStep.move rfl) rfl rfl ?_
    first | refine DL.go0 tauOK hE rfl (GStep.len rfl rfl rfl) rfl rfl ?_ | refine DL.go0 tauOK hE rfl (GStep.lenNil rfl rfl) rfl rfl ?_
    refine DL.go0 tauOK hE rfl (G.call (v := .val _) (news := []) rfl (All2.cons (ArgOf.v rfl) (All2.cons (ArgOf.v rfl) (All2.cons (ArgOf.v rfl) All2.nil))) (rfl) rfl rfl) rfl rfl ?_
    refine DL.go0 tauOK hE rfl (GStep.assign rfl) rfl rfl ?_
    refine DL.nil ?_
    refine DW.sub (T' := [(2, _)]) (Sub.cons rfl Sub.nil) (Sub.refl _) ?_
    refine DW.ret ?_
    exact ⟨_, rfl, RV.v rfl rfl⟩

theorem recordValid_di : DFun Try.prog 40 gValid := by
  have hE : EnvOK Try.prog [(53, gEdges)] := EnvOK.cons edges_di EnvOK.nil
  refine DFun.of tauOK (fn := Try.f40) Try.func40 rfl (by kernel_rfl) rfl rfl ?_
  intro C ds r hg hl
  unfold gValid at hg
  split at hg
  case h_2 => cases hg
  rename_i n l m a
  cases hg
  refine ⟨by simp, ?_⟩
  obtain ⟨hn, hm, hn', hm', _⟩ := hl
  obtain rfl : n = l.length := by omega
  obtain rfl : m = a.length := by omega
  clear hn hn'
  refine DW.seq ?_
  refine DW.region ?_
  refine DL.go0 tauOK hE rfl (GStep.assign rfl) rfl rfl ?_
  refine DL.nil ?_
  refine DW.sub (T' := [(0, _), (1, _)]) (Sub.cons rfl (Sub.cons rfl Sub.nil)) (Sub.refl _) ?_
  refine DW.seq ?_
  refine DW.cut 17 (!edgesB l || ((a.length : Int) != (l.length : Int) - 1)) [1] ?_ ?_
  · cases hc1 : edgesB l <;> cases hc2 : ((a.length : Int) != (l.length : Int) - 1) <;> (
      (try have q_hc1 := of_decide_eq_true hc1); (try have q_hc1 := of_decide_eq_false hc1)
      (try have q_hc2 := of_decide_eq_true hc2); (try have q_hc2 := of_decide_eq_false hc2)
      refine DW.region ?_
      refine DL.go0 tauOK hE rfl (GStep.move rfl) rfl rfl ?_
      refine DL.go0 tauOK hE rfl (G.call (v := .val _) (news := []) rfl (All2.cons (ArgOf.ro rfl rfl (by simp [flat_len])) All2.nil) (rfl) rfl rfl) rfl rfl ?_
      try rw [hc1]
      try rw [hc2]
      refine DL.go0 tauOK hE rfl (GStep.not rfl) rfl rfl ?_
      refine DL.go0 tauOK hE rfl (GStep.move rfl) rfl rfl ?_
      first | refine DL.skip rfl rfl rfl ?_ | refine DL.go0 tauOK hE rfl (GStep.move rfl) rfl rfl ?_
      first | refine DL.skip rfl rfl rfl ?_ | refine DL.go0 tauOK hE rfl (GStep.len rfl rfl rfl) rfl rfl ?_ | refine DL.go0 tauOK hE rfl (GStep.lenNil rfl rfl) rfl rfl ?_
      try rw [hc1]
      try rw [hc2]
      first | refine DL.skip rfl rfl rfl ?_ | refine DL.go0 tauOK hE rfl (GStep.move rfl) rfl rfl ?_
      first | refine DL.skip rfl rfl rfl ?_ | refine DL.go0 tauOK hE rfl (GStep.len rfl rfl rfl) rfl rfl ?_ | refine DL.go0 tauOK hE rfl (GStep.lenNil rfl rfl) rfl rfl ?_
      try rw [hc1]
      try rw [hc2]
      first | refine DL.skip rfl rfl rfl ?_ | refine DL.go0 tauOK hE rfl (G.sub rfl rfl (by omega)) rfl rfl ?_ | refine DL.go0 tauOK hE rfl (GStep.binI rfl rfl rfl) rfl rfl ?_
      try rw [hc1]
      try rw [hc2]
      first | refine DL.skip rfl rfl rfl ?_ | refine DL.go0 tauOK hE rfl (GStep.binI rfl rfl rfl) rfl rfl ?_
      try rw [hc1]
      try rw [hc2]
      first | refine DL.go0 tauOK hE rfl (GStep.pickT rfl rfl) rfl rfl ?_ | refine DL.go0 tauOK hE rfl (GStep.pickF rfl rfl) rfl rfl ?_
      refine DL.nil ?_
      exact ⟨rfl, _, rfl, by simp [hc1, hc2], SubK.cons rfl (SubK.nil), Sub.refl _⟩)
  refine DW.sub (T' := [(1, _), (17, _)]) (Sub.cons rfl (Sub.cons rfl Sub.nil)) (Sub.refl _) ?_
  refine DW.cond rfl (fun hb => ?_) (fun hb => ?_)
  · skip
    refine DW.seq ?_
    refine DW.region ?_
    refine DL.go0 tauOK hE rfl (GStep.assign rfl) rfl rfl ?_
    refine DL.nil ?_
    refine DW.sub (T' := [(4, _)]) (Sub.cons rfl Sub.nil) (Sub.refl _) ?_
    refine DW.ret ?_
    have e : false = recB l a := (recB_no (by rintro ⟨h1, h2⟩; simp [h1] at hb; omega)).symm
    rw [← e]
    exact ⟨_, rfl, RV.v rfl rfl⟩
  · skip
    simp at hb
    obtain ⟨hb1, hb2⟩ := hb
    refine DW.skip ?_
    refine DW.seq ?_
    refine DW.seq ?_
    refine DW.region ?_
    refine DL.go0 tauOK hE rfl (GStep.move rfl) rfl rfl ?_
    first | refine DL.go0 tauOK hE rfl (GStep.len rfl rfl rfl) rfl rfl ?_ | refine DL.go0 tauOK hE rfl (GStep.lenNil rfl rfl) rfl rfl ?_
    refine DL.go0 tauOK hE rfl (GStep.move rfl) rfl rfl ?_
    refine DL.nil ?_
    refine DW.sub (T' := [(18, _), (19, _), (20, _)]) (Sub.cons rfl (Sub.cons rfl (Sub.cons rfl Sub.nil))) (Sub.refl _) ?_
    refine DW.block ?_
    refine DW.loop (α := Nat) (fun k => [(18, .sl 1 0 a.length), (19, .val (.int .i64 a.length)), (20, .val (.int .i64 (k : Nat)))]) (fun k => [(1, .ro .i64 1 a)]) (fun k => k ≤ a.length ∧ okAm a k) (fun k => a.length - k) 0 (⟨by omega, okAm_zero a⟩) (Sub.cons rfl (Sub.cons rfl (Sub.cons rfl Sub.nil))) (Sub.cons rfl Sub.nil) ?_
    rintro k ⟨hk, hok⟩
    skip
    refine DW.seq ?_
    refine DW.region ?_
    refine DL.go0 tauOK hE rfl (GStep.binI rfl rfl rfl) rfl rfl ?_
    refine DL.nil ?_
    refine DW.sub (T' := [(18, _), (19, _), (20, _), (21, _)]) (Sub.cons rfl (Sub.cons rfl (Sub.cons rfl (Sub.cons rfl Sub.nil)))) (Sub.refl _) ?_
    refine DW.seq ?_
    refine DW.cond rfl (fun hlt => ?_) (fun hlt => ?_)
    · skip
      have hlt : k < a.length := by simpa using hlt
      refine DW.skip ?_
      refine DW.seq ?_
      refine DW.block ?_
      refine DW.seq ?_
      refine DW.region ?_
      refine DL.go0 tauOK hE rfl (G.ia1 rfl rfl rfl rfl rfl rfl rfl (by omega)) rfl rfl ?_
      first | refine DL.go0 tauOK hE rfl (G.le1r rfl rfl rfl (by omega)) rfl rfl ?_ | refine DL.go0 tauOK hE rfl (G.le1w rfl rfl rfl (by omega)) rfl rfl ?_
      refine DL.go0 tauOK hE rfl (GStep.assign rfl) rfl rfl ?_
      refine DL.nil ?_
      refine DW.sub (T' := [(6, _), (18, _), (19, _), (20, _)]) (Sub.cons rfl (Sub.cons rfl (Sub.cons rfl (Sub.cons rfl Sub.nil)))) (Sub.refl _) ?_
      refine DW.cut 29 (decide (a.getD k 0 < 0) || decide (a.getD k 0 > 10000)) [18, 19, 20] ?_ ?_
      · cases hc1 : decide (a.getD k 0 < 0) <;> cases hc2 : decide (a.getD k 0 > 10000) <;> (
          (try have q_hc1 := of_decide_eq_true hc1); (try have q_hc1 := of_decide_eq_false hc1)
          (try have q_hc2 := of_decide_eq_true hc2); (try have q_hc2 := of_decide_eq_false hc2)
          refine DW.region ?_
          refine DL.go0 tauOK hE rfl (GStep.move rfl) rfl rfl ?_
          refine DL.go0 tauOK hE rfl (GStep.binI rfl rfl rfl) rfl rfl ?_
          try rw [hc1]
          try rw [hc2]
          refine DL.go0 tauOK hE rfl (GStep.move rfl) rfl rfl ?_
          first | refine DL.skip rfl rfl rfl ?_ | refine DL.go0 tauOK hE rfl (GStep.move rfl) rfl rfl ?_
          first | refine DL.skip rfl rfl rfl ?_ | refine DL.go0 tauOK hE rfl (GStep.binI rfl rfl rfl) rfl rfl ?_
          try rw [hc1]
          try rw [hc2]
          first | refine DL.go0 tauOK hE rfl (GStep.pickT rfl rfl) rfl rfl ?_ | refine DL.go0 tauOK hE rfl (GStep.pickF rfl rfl) rfl rfl ?_
          refine DL.nil ?_
          exact ⟨rfl, _, rfl, by simp [hc1, hc2], SubK.cons rfl (SubK.cons rfl (SubK.cons rfl (SubK.nil))), Sub.refl _⟩)
      refine DW.sub (T' := [(18, _), (19, _), (20, _), (29, _)]) (Sub.cons rfl (Sub.cons rfl (Sub.cons rfl (Sub.cons rfl Sub.nil)))) (Sub.refl _) ?_
      refine DW.cond rfl (fun hb => ?_) (fun hb => ?_)
      · skip
        refine DW.seq ?_
        refine DW.region ?_
        refine DL.go0 tauOK hE rfl (GStep.assign rfl) rfl rfl ?_
        refine DL.nil ?_
        refine DW.sub (T' := [(4, _)]) (Sub.cons rfl Sub.nil) (Sub.refl _) ?_
        refine DW.ret ?_
        have e : false = recB l a := (recB_am hlt (by simp [-List.getD_eq_getElem?_getD] at hb; omega)).symm
        rw [← e]
        exact ⟨_, rfl, RV.v rfl rfl⟩
      · skip
        refine DW.skip ?_
        refine DW.region ?_
        first | refine DL.go0 tauOK hE rfl (G.add rfl rfl (by omega)) rfl rfl ?_ | refine DL.go0 tauOK hE rfl (GStep.binI rfl rfl rfl) rfl rfl ?_
        refine DL.go0 tauOK hE rfl (GStep.move rfl) rfl rfl ?_
        refine DL.nil ?_
        simp [-List.getD_eq_getElem?_getD] at hb
        refine ⟨k + 1, ⟨by omega, okAm_succ hok hb.1 (by omega)⟩, by first | omega | (dsimp only; omega), ?_, ?_⟩
        · exact Sub.cons rfl (Sub.cons rfl (Sub.cons rfl Sub.nil))
        · exact Sub.cons rfl Sub.nil
    · skip
      have hlt : k = a.length := by simp at hlt; omega
      subst hlt
      refine DW.exit ?_
      have e : true = recB l a := (recB_iff.2 ⟨hb1, by have := (edgesB_iff.1 hb1).2; omega, hok⟩).symm
      rw [← e]
      refine DW.seq ?_
      refine DW.region ?_
      refine DL.go0 tauOK hE rfl (GStep.assign rfl) rfl rfl ?_
      refine DL.nil ?_
      refine DW.sub (T' := [(4, _)]) (Sub.cons rfl Sub.nil) (Sub.refl _) ?_
      refine DW.ret ?_
      exact ⟨_, rfl, RV.v rfl rfl⟩

theorem recordValid_ds : DFun Try.prog 43 gValid := by
  have hE : EnvOK Try.prog [(54, gEdges), (45, gIn)] := EnvOK.cons edges_ds (EnvOK.cons l6In_ds EnvOK.nil)
  refine DFun.of tauOK (fn := Try.f43) Try.func43 rfl (by kernel_rfl) rfl rfl ?_
  intro C ds r hg hl
  unfold gValid at hg
  split at hg
  case h_2 => cases hg
  rename_i n l m a
  cases hg
  refine ⟨by simp, ?_⟩
  obtain ⟨hn, hm, hn', hm', _⟩ := hl
  obtain rfl : n = l.length := by omega
  obtain rfl : m = a.length := by omega
  clear hn hn'
  refine DW.seq ?_
  refine DW.region ?_
  refine DL.go0 tauOK hE rfl (GStep.assign rfl) rfl rfl ?_
  refine DL.nil ?_
  refine DW.sub (T' := [(0, _), (1, _)]) (Sub.cons rfl (Sub.cons rfl Sub.nil)) (Sub.refl _) ?_
  refine DW.seq ?_
  refine DW.cut 16 (!edgesB l || ((a.length : Int) != (l.length : Int) - 1)) [1] ?_ ?_
  · cases hc1 : edgesB l <;> cases hc2 : ((a.length : Int) != (l.length : Int) - 1) <;> (
      (try have q_hc1 := of_decide_eq_true hc1); (try have q_hc1 := of_decide_eq_false hc1)
      (try have q_hc2 := of_decide_eq_true hc2); (try have q_hc2 := of_decide_eq_false hc2)
      refine DW.region ?_
      refine DL.go0 tauOK hE rfl (GStep.move rfl) rfl rfl ?_
      refine DL.go0 tauOK hE rfl (G.call (v := .val _) (news := []) rfl (All2.cons (ArgOf.ro rfl rfl (by simp [flat_len])) All2.nil) (rfl) rfl rfl) rfl rfl ?_
      try rw [hc1]
      try rw [hc2]
      refine DL.go0 tauOK hE rfl (GStep.not rfl) rfl rfl ?_
      refine DL.go0 tauOK hE rfl (GStep.move rfl) rfl rfl ?_
      first | refine DL.skip rfl rfl rfl ?_ | refine DL.go0 tauOK hE rfl (GStep.move rfl) rfl rfl ?_
      first | refine DL.skip rfl rfl rfl ?_ | refine DL.go0 tauOK hE rfl (GStep.len rfl rfl rfl) rfl rfl ?_ | refine DL.go0 tauOK hE rfl (GStep.lenNil rfl rfl) rfl rfl ?_
      try rw [hc1]
      try rw [hc2]
      first | refine DL.skip rfl rfl rfl ?_ | refine DL.go0 tauOK hE rfl (GStep.move rfl) rfl rfl ?_
      first | refine DL.skip rfl rfl rfl ?_ | refine DL.go0 tauOK hE rfl (GStep.len rfl rfl rfl) rfl rfl ?_ | refine DL.go0 tauOK hE rfl (GStep.lenNil rfl rfl) rfl rfl ?_
      try rw [hc1]
      try rw [hc2]
      first | refine DL.skip rfl rfl rfl ?_ | refine DL.go0 tauOK hE rfl (G.sub rfl rfl (by omega)) rfl rfl ?_ | refine DL.go0 tauOK hE rfl (GStep.binI rfl rfl rfl) rfl rfl ?_
      try rw [hc1]
      try rw [hc2]
      first | refine DL.skip rfl rfl rfl ?_ | refine DL.go0 tauOK hE rfl (GStep.binI rfl rfl rfl) rfl rfl ?_
      try rw [hc1]
      try rw [hc2]
      first | refine DL.go0 tauOK hE rfl (GStep.pickT rfl rfl) rfl rfl ?_ | refine DL.go0 tauOK hE rfl (GStep.pickF rfl rfl) rfl rfl ?_
      refine DL.nil ?_
      exact ⟨rfl, _, rfl, by simp [hc1, hc2], SubK.cons rfl (SubK.nil), Sub.refl _⟩)
  refine DW.sub (T' := [(1, _), (16, _)]) (Sub.cons rfl (Sub.cons rfl Sub.nil)) (Sub.refl _) ?_
  refine DW.cond rfl (fun hb => ?_) (fun hb => ?_)
  · skip
    refine DW.seq ?_
    refine DW.region ?_
    refine DL.go0 tauOK hE rfl (GStep.assign rfl) rfl rfl ?_
    refine DL.nil ?_
    refine DW.sub (T' := [(4, _)]) (Sub.cons rfl Sub.nil) (Sub.refl _) ?_
    refine DW.ret ?_
    have e : false = recB l a := (recB_no (by rintro ⟨h1, h2⟩; simp [h1] at hb; omega)).symm
    rw [← e]
    exact ⟨_, rfl, RV.v rfl rfl⟩
  · skip
    simp at hb
    obtain ⟨hb1, hb2⟩ := hb
    refine DW.skip ?_
    refine DW.seq ?_
    refine DW.seq ?_
    refine DW.region ?_
    refine DL.go0 tauOK hE rfl (GStep.assign rfl) rfl rfl ?_
    refine DL.nil ?_
    refine DW.sub (T' := [(1, _), (5, _)]) (Sub.cons rfl (Sub.cons rfl Sub.nil)) (Sub.refl _) ?_
    refine DW.block ?_
    refine DW.loop (α := Nat) (fun k => [(1, .sl 1 0 a.length), (5, .val (.int .i64 (k : Nat)))]) (fun k => [(1, .ro .i64 1 a)]) (fun k => k ≤ a.length ∧ okAm a k) (fun k => a.length - k) 0 (⟨by omega, okAm_zero a⟩) (Sub.cons rfl (Sub.cons rfl Sub.nil)) (Sub.cons rfl Sub.nil) ?_
    rintro k ⟨hk, hok⟩
    skip
    refine DW.seq ?_
    refine DW.seq ?_
    refine DW.region ?_
    refine DL.go0 tauOK hE rfl (GStep.move rfl) rfl rfl ?_
    refine DL.go0 tauOK hE rfl (GStep.move rfl) rfl rfl ?_
    first | refine DL.go0 tauOK hE rfl (GStep.len rfl rfl rfl) rfl rfl ?_ | refine DL.go0 tauOK hE rfl (GStep.lenNil rfl rfl) rfl rfl ?_
    refine DL.go0 tauOK hE rfl (GStep.binI rfl rfl rfl) rfl rfl ?_
    refine DL.nil ?_
    refine DW.sub (T' := [(1, _), (5, _), (20, _)]) (Sub.cons rfl (Sub.cons rfl (Sub.cons rfl Sub.nil))) (Sub.refl _) ?_
    refine DW.cond rfl (fun hlt => ?_) (fun hlt => ?_)
    · skip
      have hlt : k < a.length := by simpa using hlt
      refine DW.skip ?_
      refine DW.seq ?_
      refine DW.block ?_
      refine DW.seq ?_
      refine DW.region ?_
      refine DL.go0 tauOK hE rfl (GStep.move rfl) rfl rfl ?_
      refine DL.go0 tauOK hE rfl (GStep.move rfl) rfl rfl ?_
      refine DL.go0 tauOK hE rfl (G.ia1 rfl rfl rfl rfl rfl rfl rfl (by omega)) rfl rfl ?_
      first | refine DL.go0 tauOK hE rfl (G.le1r rfl rfl rfl (by omega)) rfl rfl ?_ | refine DL.go0 tauOK hE rfl (G.le1w rfl rfl rfl (by omega)) rfl rfl ?_
      refine DL.go0 tauOK hE rfl (G.call (v := .val _) (news := []) rfl (All2.cons (ArgOf.v rfl) (All2.cons (ArgOf.v rfl) (All2.cons (ArgOf.v rfl) All2.nil))) (rfl) rfl rfl) rfl rfl ?_
      refine DL.go0 tauOK hE rfl (GStep.not rfl) rfl rfl ?_
      refine DL.nil ?_
      refine DW.sub (T' := [(1, _), (5, _), (28, _)]) (Sub.cons rfl (Sub.cons rfl (Sub.cons rfl Sub.nil))) (Sub.refl _) ?_
      refine DW.cond rfl (fun hb => ?_) (fun hb => ?_)
      · skip
        refine DW.seq ?_
        refine DW.region ?_
        refine DL.go0 tauOK hE rfl (GStep.assign rfl) rfl rfl ?_
        refine DL.nil ?_
        refine DW.sub (T' := [(4, _)]) (Sub.cons rfl Sub.nil) (Sub.refl _) ?_
        refine DW.ret ?_
        have e : false = recB l a := (recB_am hlt (by simp [-List.getD_eq_getElem?_getD] at hb; omega)).symm
        rw [← e]
        exact ⟨_, rfl, RV.v rfl rfl⟩
      · skip
        refine DW.skip ?_
        refine DW.region ?_
        refine DL.go0 tauOK hE rfl (GStep.move rfl) rfl rfl ?_
        first | refine DL.go0 tauOK hE rfl (G.add rfl rfl (by omega)) rfl rfl ?_ | refine DL.go0 tauOK hE rfl (GStep.binI rfl rfl rfl) rfl rfl ?_
        refine DL.go0 tauOK hE rfl (GStep.assign rfl) rfl rfl ?_
        refine DL.nil ?_
        simp [-List.getD_eq_getElem?_getD] at hb
        refine ⟨k + 1, ⟨by omega, okAm_succ hok hb.1 hb.2⟩, by first | omega | (dsimp only; omega), ?_, ?_⟩
        · exact Sub.cons rfl (Sub.cons rfl Sub.nil)
        · exact Sub.cons rfl Sub.nil
    · skip
      have hlt : k = a.length := by simp at hlt; omega
      subst hlt
      refine DW.exit ?_
      have e : true = recB l a := (recB_iff.2 ⟨hb1, by have := (edgesB_iff.1 hb1).2; omega, hok⟩).symm
      rw [← e]
      refine DW.seq ?_
      refine DW.region ?_
      refine DL.go0 tauOK hE rfl (GStep.assign rfl) rfl rfl ?_
      refine DL.nil ?_
      refine DW.sub (T' := [(4, _)]) (Sub.cons rfl Sub.nil) (Sub.refl _) ?_
      refine DW.ret ?_
      exact ⟨_, rfl, RV.v rfl rfl⟩
end Go.Proofs.Ytlhkdgkaafhehaa
