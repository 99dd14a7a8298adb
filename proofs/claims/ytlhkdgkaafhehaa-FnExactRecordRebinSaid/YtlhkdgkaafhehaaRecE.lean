/-
  Totals and amounts between two depths, walked by the plain machine.
-/
import Derived.Test.YtlhkdgkaafhehaaRecD
namespace Go.Proofs.Ytlhkdgkaafhehaa
open Go.RowKit
set_option linter.unusedVariables false
set_option linter.unusedSimpArgs false

def gBet : List AD → Option RD
  | [.sl .i64 1 _ l, .sl .i64 1 _ a, .v (.int .i64 t), .v (.int .i64 b)] => some (rF (betF l a t b))
  | _ => none

theorem recordTotal_di : DFun Try.prog 26 gTotal := by
  have hE : EnvOK Try.prog [(40, gValid)] := EnvOK.cons recordValid_di EnvOK.nil
  refine DFun.of tauOK (fn := Try.f26) Try.func26 rfl (by kernel_rfl) rfl rfl ?_
  intro C ds r hg hl
  unfold gTotal at hg
  split at hg
  case h_2 => cases hg
  rename_i n l m a
  cases hg
  refine ⟨by simp, ?_⟩
  obtain ⟨hn, hm, hn', hm', _⟩ := hl
  obtain rfl : n = l.length := by omega
  obtain rfl : m = a.length := by omega
  clear hn hn'
  refine DW.seq ?_
  refine DW.region ?_
  refine DL.go0 tauOK hE rfl (GStep.assign rfl) rfl rfl ?_
  refine DL.nil ?_
  refine DW.sub (T' := [(0, _), (1, _)]) (Sub.cons rfl (Sub.cons rfl Sub.nil)) (Sub.refl _) ?_
  refine DW.seq ?_
  refine DW.seq ?_
  refine DW.region ?_
  refine DL.go0 tauOK hE rfl (GStep.move rfl) rfl rfl ?_
  refine DL.go0 tauOK hE rfl (GStep.move rfl) rfl rfl ?_
  refine DL.go0 tauOK hE rfl (G.call (v := .val _) (news := []) rfl (All2.cons (ArgOf.ro rfl rfl (by simp [flat_len])) (All2.cons (ArgOf.ro rfl rfl (by simp [flat_len])) All2.nil)) (rfl) rfl rfl) rfl rfl ?_
  refine DL.go0 tauOK hE rfl (GStep.not rfl) rfl rfl ?_
  refine DL.nil ?_
  refine DW.sub (T' := [(1, _), (11, _)]) (Sub.cons rfl (Sub.cons rfl Sub.nil)) (Sub.refl _) ?_
  refine DW.cond rfl (fun hb => ?_) (fun hb => ?_)
  · skip
    have e : totalI l a = -1 := by simp at hb; simp [totalI, hb]
    rw [e]
    refine DW.seq ?_
    refine DW.region ?_
    refine DL.go0 tauOK hE rfl (GStep.assign rfl) rfl rfl ?_
    refine DL.nil ?_
    refine DW.sub (T' := [(4, _)]) (Sub.cons rfl Sub.nil) (Sub.refl _) ?_
    refine DW.ret ?_
    exact ⟨_, rfl, RV.v rfl rfl⟩
  · skip
    have hb : recB l a = true := by simpa using hb
    have h3 := (recB_iff.1 hb).2.2
    have hbd := recB_bd hb
    refine DW.skip ?_
    refine DW.seq ?_
    refine DW.region ?_
    refine DL.go0 tauOK hE rfl (GStep.assign rfl) rfl rfl ?_
    refine DL.nil ?_
    refine DW.sub (T' := [(1, _), (5, _)]) (Sub.cons rfl (Sub.cons rfl Sub.nil)) (Sub.refl _) ?_
    refine DW.seq ?_
    refine DW.seq ?_
    refine DW.region ?_
    refine DL.go0 tauOK hE rfl (GStep.move rfl) rfl rfl ?_
    first | refine DL.go0 tauOK hE rfl (GStep.len rfl rfl rfl) rfl rfl ?_ | refine DL.go0 tauOK hE rfl (GStep.lenNil rfl rfl) rfl rfl ?_
    refine DL.go0 tauOK hE rfl (GStep.move rfl) rfl rfl ?_
    refine DL.nil ?_
    refine DW.sub (T' := [(5, _), (12, _), (13, _), (14, _)]) (Sub.cons rfl (Sub.cons rfl (Sub.cons rfl (Sub.cons rfl Sub.nil)))) (Sub.refl _) ?_
    refine DW.block ?_
    refine DW.loop (α := Nat) (fun k => [(5, .val (.int .i64 (a.take k).sum)), (12, .sl 1 0 a.length), (13, .val (.int .i64 a.length)), (14, .val (.int .i64 (k : Nat)))]) (fun k => [(1, .ro .i64 1 a)]) (fun k => k ≤ a.length) (fun k => a.length - k) 0 (by omega) (Sub.cons rfl (Sub.cons rfl (Sub.cons rfl (Sub.cons rfl Sub.nil)))) (Sub.cons rfl Sub.nil) ?_
    rintro k hk
    skip
    have hs := sum_bd a k hk h3
    refine DW.seq ?_
    refine DW.region ?_
    refine DL.go0 tauOK hE rfl (GStep.binI rfl rfl rfl) rfl rfl ?_
    refine DL.nil ?_
    refine DW.sub (T' := [(5, _), (12, _), (13, _), (14, _), (15, _)]) (Sub.cons rfl (Sub.cons rfl (Sub.cons rfl (Sub.cons rfl (Sub.cons rfl Sub.nil))))) (Sub.refl _) ?_
    refine DW.seq ?_
    refine DW.cond rfl (fun hlt => ?_) (fun hlt => ?_)
    · skip
      have hlt : k < a.length := by simpa using hlt
      have hs' := sum_bd a (k + 1) hlt h3
      have ht := take_sum a k hlt
      refine DW.skip ?_
      refine DW.seq ?_
      refine DW.block ?_
      refine DW.seq ?_
      refine DW.region ?_
      refine DL.go0 tauOK hE rfl (G.ia1 rfl rfl rfl rfl rfl rfl rfl (by omega)) rfl rfl ?_
      first | refine DL.go0 tauOK hE rfl (G.le1r rfl rfl rfl (by omega)) rfl rfl ?_ | refine DL.go0 tauOK hE rfl (G.le1w rfl rfl rfl (by omega)) rfl rfl ?_
      refine DL.go0 tauOK hE rfl (GStep.assign rfl) rfl rfl ?_
      refine DL.nil ?_
      refine DW.sub (T' := [(5, _), (7, _), (12, _), (13, _), (14, _)]) (Sub.cons rfl (Sub.cons rfl (Sub.cons rfl (Sub.cons rfl (Sub.cons rfl Sub.nil))))) (Sub.refl _) ?_
      refine DW.region ?_
      refine DL.go0 tauOK hE rfl (GStep.move rfl) rfl rfl ?_
      refine DL.go0 tauOK hE rfl (GStep.move rfl) rfl rfl ?_
      first | refine DL.go0 tauOK hE rfl (G.add rfl rfl (by omega)) rfl rfl ?_ | refine DL.go0 tauOK hE rfl (GStep.binI rfl rfl rfl) rfl rfl ?_
      refine DL.go0 tauOK hE rfl (GStep.assign rfl) rfl rfl ?_
      refine DL.nil ?_
      refine DW.sub (T' := [(5, _), (12, _), (13, _), (14, _)]) (Sub.cons rfl (Sub.cons rfl (Sub.cons rfl (Sub.cons rfl Sub.nil)))) (Sub.refl _) ?_
      refine DW.region ?_
      first | refine DL.go0 tauOK hE rfl (G.add rfl rfl (by omega)) rfl rfl ?_ | refine DL.go0 tauOK hE rfl (GStep.binI rfl rfl rfl) rfl rfl ?_
      refine DL.go0 tauOK hE rfl (GStep.move rfl) rfl rfl ?_
      refine DL.nil ?_
      rw [← ht]
      refine ⟨k + 1, hlt, by first | omega | (dsimp only; omega), ?_, ?_⟩
      · exact Sub.cons rfl (Sub.cons rfl (Sub.cons rfl (Sub.cons rfl Sub.nil)))
      · exact Sub.cons rfl Sub.nil
    · skip
      have hlt : k = a.length := by simp at hlt; omega
      subst hlt
      refine DW.exit ?_
      rw [List.take_length]
      rw [total_eq hb]
      refine DW.seq ?_
      refine DW.region ?_
      refine DL.go0 tauOK hE rfl (GStep.move rfl) rfl rfl ?_
      refine DL.go0 tauOK hE rfl (GStep.assign rfl) rfl rfl ?_
      refine DL.nil ?_
      refine DW.sub (T' := [(4, _)]) (Sub.cons rfl Sub.nil) (Sub.refl _) ?_
      refine DW.ret ?_
      exact ⟨_, rfl, RV.v rfl rfl⟩


theorem betF_no' {e a : List Int} {t b : Int} (h : (!recB e a || !spanB t b) = true) : betF e a t b = none := by
  unfold betF
  rw [if_neg]
  simp at h
  intro hh
  rcases h with h | h
  · rw [h] at hh; cases hh.1
  · rw [h] at hh; cases hh.2
theorem span_iff {t b : Int} : spanB t b = true ↔ 0 ≤ t ∧ t ≤ b ∧ b ≤ 30000 := by simp [spanB]
/-- the facts on one bin -/
theorem bin_facts {l a : List Int} {k : Nat} (h : recB l a = true) (hk : k < a.length) : (0 ≤ l.getD k 0 ∧ l.getD k 0 < l.getD (k + 1) 0 ∧ l.getD (k + 1) 0 ≤ 30000) ∧ (0 ≤ a.getD k 0 ∧ a.getD k 0 ≤ 10000) ∧ k + 1 < l.length := by
  obtain ⟨h1, h2, h3⟩ := recB_iff.1 h
  obtain ⟨hu, _, _⟩ := edgesB_iff.1 h1
  have u0 := hu k (by omega)
  have u1 := hu (k + 1) (by omega)
  have := u1.2 (by omega)
  rw [Nat.add_sub_cancel] at this
  exact ⟨⟨u0.1.1, this, u1.1.2⟩, h3 k hk, by omega⟩
theorem amt_bd {x y A B : Int} (h1 : 0 ≤ x) (h2 : x ≤ A) (h3 : 0 ≤ y) (h4 : y ≤ B) : 0 ≤ x * y ∧ x * y ≤ A * B :=
  ⟨Int.mul_nonneg h1 h3, Int.mul_le_mul h2 h4 h3 (Int.le_trans h1 h2)⟩

theorem recordBetween_di : DFun Try.prog 15 gBet := by
  have hE : EnvOK Try.prog [(40, gValid), (41, gIsSpan), (42, gOverlap), (28, gOf), (25, gAdd)] := EnvOK.cons recordValid_di (EnvOK.cons isSpan_di (EnvOK.cons overlap_di (EnvOK.cons fracOf_di (EnvOK.cons fracAdd_di EnvOK.nil))))
  refine DFun.of tauOK (fn := Try.f15) Try.func15 rfl (by kernel_rfl) rfl rfl ?_
  intro C ds r hg hl
  unfold gBet at hg
  split at hg
  case h_2 => cases hg
  rename_i n l m a t b
  cases hg
  refine ⟨by simp, ?_⟩
  obtain ⟨hn, hm, hn', hm', _⟩ := hl
  obtain rfl : n = l.length := by omega
  obtain rfl : m = a.length := by omega
  clear hn hn'
  refine DW.seq ?_
  refine DW.region ?_
  refine DL.go1 tauOK hE rfl (GStep.alloc2 rfl) rfl rfl rfl ?_
  refine DL.go0 tauOK hE rfl (GStep.assign rfl) rfl rfl ?_
  refine DL.nil ?_
  refine DW.sub (T' := [(0, _), (1, _), (2, _), (3, _), (8, _)]) (Sub.cons rfl (Sub.cons rfl (Sub.cons rfl (Sub.cons rfl (Sub.cons rfl Sub.nil))))) (Sub.refl _) ?_
  refine DW.seq ?_
  refine DW.cut 25 (!recB l a || !spanB t b) [0, 1, 2, 3, 8] ?_ ?_
  · cases hc1 : recB l a <;> cases hc2 : spanB t b <;> (
      (try have q_hc1 := of_decide_eq_true hc1); (try have q_hc1 := of_decide_eq_false hc1)
      (try have q_hc2 := of_decide_eq_true hc2); (try have q_hc2 := of_decide_eq_false hc2)
      refine DW.region ?_
      refine DL.go0 tauOK hE rfl (GStep.move rfl) rfl rfl ?_
      refine DL.go0 tauOK hE rfl (GStep.move rfl) rfl rfl ?_
      refine DL.go0 tauOK hE rfl (G.call (v := .val _) (news := []) rfl (All2.cons (ArgOf.ro rfl rfl (by simp [flat_len])) (All2.cons (ArgOf.ro rfl rfl (by simp [flat_len])) All2.nil)) (rfl) rfl rfl) rfl rfl ?_
      try rw [hc1]
      try rw [hc2]
      refine DL.go0 tauOK hE rfl (GStep.not rfl) rfl rfl ?_
      refine DL.go0 tauOK hE rfl (GStep.move rfl) rfl rfl ?_
      first | refine DL.skip rfl rfl rfl ?_ | refine DL.go0 tauOK hE rfl (GStep.move rfl) rfl rfl ?_
      first | refine DL.skip rfl rfl rfl ?_ | refine DL.go0 tauOK hE rfl (GStep.move rfl) rfl rfl ?_
      first | refine DL.skip rfl rfl rfl ?_ | refine DL.go0 tauOK hE rfl (G.call (v := .val _) (news := []) rfl (All2.cons (ArgOf.v rfl) (All2.cons (ArgOf.v rfl) All2.nil)) (rfl) rfl rfl) rfl rfl ?_
      try rw [hc1]
      try rw [hc2]
      first | refine DL.skip rfl rfl rfl ?_ | refine DL.go0 tauOK hE rfl (GStep.not rfl) rfl rfl ?_
      first | refine DL.go0 tauOK hE rfl (GStep.pickT rfl rfl) rfl rfl ?_ | refine DL.go0 tauOK hE rfl (GStep.pickF rfl rfl) rfl rfl ?_
      refine DL.nil ?_
      exact ⟨rfl, _, rfl, by simp [hc1, hc2], SubK.cons rfl (SubK.cons rfl (SubK.cons rfl (SubK.cons rfl (SubK.cons rfl (SubK.nil))))), Sub.refl _⟩)
  refine DW.sub (T' := [(0, _), (1, _), (2, _), (3, _), (8, _), (25, _)]) (Sub.cons rfl (Sub.cons rfl (Sub.cons rfl (Sub.cons rfl (Sub.cons rfl (Sub.cons rfl Sub.nil)))))) (Sub.refl _) ?_
  refine DW.cond rfl (fun hb => ?_) (fun hb => ?_)
  · skip
    rw [betF_no' hb]
    refine DW.seq ?_
    refine DW.region ?_
    refine DL.go0 tauOK hE rfl (G.b00 rfl) rfl rfl ?_
    refine DL.sb2 tauOK rfl rfl rfl rfl rfl rfl rfl ?_
    refine DL.go0 tauOK hE rfl (GStep.assign rfl) rfl rfl ?_
    refine DL.nil ?_
    refine DW.sub (T' := [(8, _), (9, _)]) (Sub.cons rfl (Sub.cons rfl Sub.nil)) (Sub.refl _) ?_
    refine DW.ret ?_
    exact RetD.cv (RV.cell rfl rfl rfl) rfl rfl
  · skip
    simp at hb
    obtain ⟨hb, hsp⟩ := hb
    obtain ⟨t1, t2, t3⟩ := span_iff.1 hsp
    have hbet : betF l a t b = bsum l a t b a.length := by unfold betF; rw [if_pos ⟨hb, hsp⟩]
    rw [hbet]
    refine DW.skip ?_
    refine DW.seq ?_
    refine DW.region ?_
    refine DL.go0 tauOK hE rfl (G.b1 rfl rfl) rfl rfl ?_
    refine DL.go1 tauOK hE rfl (GStep.alloc2 rfl) rfl rfl rfl ?_
    refine DL.sb2 tauOK rfl rfl rfl rfl rfl rfl rfl ?_
    refine DL.nil ?_
    refine DW.sub (T' := [(0, _), (1, _), (2, _), (3, _), (8, _), (10, _)]) (Sub.cons rfl (Sub.cons rfl (Sub.cons rfl (Sub.cons rfl (Sub.cons rfl (Sub.cons rfl Sub.nil)))))) (Sub.refl _) ?_
    refine DW.seq ?_
    refine DW.seq ?_
    refine DW.region ?_
    refine DL.go0 tauOK hE rfl (GStep.move rfl) rfl rfl ?_
    first | refine DL.go0 tauOK hE rfl (GStep.len rfl rfl rfl) rfl rfl ?_ | refine DL.go0 tauOK hE rfl (GStep.lenNil rfl rfl) rfl rfl ?_
    refine DL.go0 tauOK hE rfl (GStep.move rfl) rfl rfl ?_
    refine DL.nil ?_
    refine DW.sub (T' := [(0, _), (2, _), (3, _), (8, _), (10, _), (28, _), (29, _), (30, _)]) (Sub.cons rfl (Sub.cons rfl (Sub.cons rfl (Sub.cons rfl (Sub.cons rfl (Sub.cons rfl (Sub.cons rfl (Sub.cons rfl Sub.nil)))))))) (Sub.refl _) ?_
    refine DW.block ?_
    refine DW.loop (α := Nat × Int × Int) (fun (k, x, y) => [(0, .sl 0 0 l.length), (2, .val (.int .i64 t)), (3, .val (.int .i64 b)), (8, .ptr 8 0), (10, .ptr 10 0), (28, .sl 1 0 a.length), (29, .val (.int .i64 a.length)), (30, .val (.int .i64 (k : Nat)))]) (fun (k, x, y) => [(0, .ro .i64 1 l), (1, .ro .i64 1 a), (8, .box 27 [0, 0]), (10, .box 27 [x, y])]) (fun (k, x, y) => k ≤ a.length ∧ bsum l a t b k = some (x, y)) (fun (k, x, y) => a.length - k) (0, 0, 1) (⟨by omega, rfl⟩) (Sub.cons rfl (Sub.cons rfl (Sub.cons rfl (Sub.cons rfl (Sub.cons rfl (Sub.cons rfl (Sub.cons rfl (Sub.cons rfl Sub.nil)))))))) (Sub.cons rfl (Sub.cons rfl (Sub.cons rfl (Sub.cons rfl Sub.nil)))) ?_
    rintro ⟨k, x, y⟩ ⟨hk, hs⟩
    skip
    refine DW.seq ?_
    refine DW.region ?_
    refine DL.go0 tauOK hE rfl (GStep.binI rfl rfl rfl) rfl rfl ?_
    refine DL.nil ?_
    refine DW.sub (T' := [(0, _), (2, _), (3, _), (8, _), (10, _), (28, _), (29, _), (30, _), (31, _)]) (Sub.cons rfl (Sub.cons rfl (Sub.cons rfl (Sub.cons rfl (Sub.cons rfl (Sub.cons rfl (Sub.cons rfl (Sub.cons rfl (Sub.cons rfl Sub.nil))))))))) (Sub.refl _) ?_
    refine DW.seq ?_
    refine DW.cond rfl (fun hlt => ?_) (fun hlt => ?_)
    · skip
      have hlt : k < a.length := by simpa using hlt
      obtain ⟨⟨e1, e2, e3⟩, ⟨f1, f2⟩, hel⟩ := bin_facts hb hlt
      have hov := ovl_bd (t := t) (b := b) (Int.le_of_lt e2)
      have hmu := amt_bd f1 f2 hov.1 (show ovl t b (l.getD k 0) (l.getD (k + 1) 0) ≤ 30000 by omega)
      have hpart : partF l a t b k = ofF (a.getD k 0 * ovl t b (l.getD k 0) (l.getD (k + 1) 0)) (l.getD (k + 1) 0 - l.getD k 0) := rfl
      have hgo : gOverlap [.v (.agg #[.int .i64 (l.getD k 0), .int .i64 (l.getD (k + 1) 0)]), .v (.agg #[.int .i64 t, .int .i64 b])] = some (.one (.v (.int .i64 (ovl t b (l.getD k 0) (l.getD (k + 1) 0))))) := if_pos (by omega)
      refine DW.skip ?_
      refine DW.seq ?_
      refine DW.block ?_
      refine DW.seq ?_
      refine DW.region ?_
      refine DL.go0 tauOK hE rfl (GStep.move rfl) rfl rfl ?_
      refine DL.go0 tauOK hE rfl (G.ia1 rfl rfl rfl rfl rfl rfl rfl (by omega)) rfl rfl ?_
      first | refine DL.go0 tauOK hE rfl (G.le1r rfl rfl rfl (by omega)) rfl rfl ?_ | refine DL.go0 tauOK hE rfl (G.le1w rfl rfl rfl (by omega)) rfl rfl ?_
      refine DL.go0 tauOK hE rfl (GStep.assign rfl) rfl rfl ?_
      refine DL.go0 tauOK hE rfl (GStep.assign rfl) rfl rfl ?_
      refine DL.nil ?_
      refine DW.sub (T' := [(0, _), (2, _), (3, _), (8, _), (10, _), (11, _), (12, _), (28, _), (29, _), (30, _)]) (Sub.cons rfl (Sub.cons rfl (Sub.cons rfl (Sub.cons rfl (Sub.cons rfl (Sub.cons rfl (Sub.cons rfl (Sub.cons rfl (Sub.cons rfl (Sub.cons rfl Sub.nil)))))))))) (Sub.refl _) ?_
      refine DW.seq ?_
      refine DW.draw tauOK hE mixed 11 (by kernel_rfl) ?_
      refine DR.go0 rfl (GStep.move rfl) rfl rfl ?_
      refine DR.go0 rfl (GStep.move rfl) rfl rfl ?_
      refine DR.go0 rfl (G.ia1 rfl rfl rfl rfl rfl rfl rfl (by omega)) rfl rfl ?_
      first | refine DR.go0 rfl (G.le1r rfl rfl rfl (by omega)) rfl rfl ?_ | refine DR.go0 rfl (G.le1w rfl rfl rfl (by omega)) rfl rfl ?_
      refine DR.go0 rfl (GStep.move rfl) rfl rfl ?_
      refine DR.go0 rfl (GStep.move rfl) rfl rfl ?_
      first | refine DR.go0 rfl (G.add rfl rfl (by omega)) rfl rfl ?_ | refine DR.go0 rfl (GStep.binI rfl rfl rfl) rfl rfl ?_
      refine DR.go0 rfl (G.ia1 (i := k + 1) rfl rfl rfl rfl rfl rfl (by omega) (by omega)) rfl rfl ?_
      first | refine DR.go0 rfl (G.le1r rfl rfl rfl (by omega)) rfl rfl ?_ | refine DR.go0 rfl (G.le1w rfl rfl rfl (by omega)) rfl rfl ?_
      refine DR.go0 rfl (G.b01 rfl rfl rfl) rfl rfl ?_
      refine DR.go1 rfl (GStep.alloc2 rfl) rfl rfl rfl ?_
      refine DR.nil ?_
      refine DL.sb2 tauOK rfl rfl rfl rfl rfl rfl rfl ?_
      refine DL.nil ?_
      refine DW.sub (T' := [(0, _), (2, _), (3, _), (8, _), (10, _), (12, _), (13, _), (28, _), (29, _), (30, _)]) (Sub.cons rfl (Sub.cons rfl (Sub.cons rfl (Sub.cons rfl (Sub.cons rfl (Sub.cons rfl (Sub.cons rfl (Sub.cons rfl (Sub.cons rfl (Sub.cons rfl Sub.nil)))))))))) (Sub.refl _) ?_
      refine DW.seq ?_
      refine DW.draw tauOK hE mixed 17 (by kernel_rfl) ?_
      refine DR.go0 rfl (GStep.move rfl) rfl rfl ?_
      refine DR.go0 rfl (G.lb2 rfl rfl rfl) rfl rfl ?_
      refine DR.go0 rfl (GStep.move rfl) rfl rfl ?_
      refine DR.go0 rfl (GStep.move rfl) rfl rfl ?_
      refine DR.go0 rfl (G.b01 rfl rfl rfl) rfl rfl ?_
      refine DR.go0 rfl (G.call (v := .val _) (news := []) rfl (All2.cons (ArgOf.v rfl) (All2.cons (ArgOf.v rfl) All2.nil)) (hgo) rfl rfl) rfl rfl ?_
      refine DR.go0 rfl (G.mul rfl rfl (by omega)) rfl rfl ?_
      refine DR.go0 rfl (G.fa rfl rfl rfl (by decide)) rfl rfl ?_
      refine DR.go0 rfl (G.lbf1 rfl rfl rfl) rfl rfl ?_
      refine DR.go0 rfl (G.fa rfl rfl rfl (by decide)) rfl rfl ?_
      refine DR.go0 rfl (G.lbf0 rfl rfl rfl) rfl rfl ?_
      first | refine DR.go0 rfl (G.sub rfl rfl (by omega)) rfl rfl ?_ | refine DR.go0 rfl (GStep.binI rfl rfl rfl) rfl rfl ?_
      refine DR.go0 rfl (G.call (v := .tup [.v _, .v _]) (news := []) rfl (All2.cons (ArgOf.v rfl) (All2.cons (ArgOf.v rfl) All2.nil)) (rfl) rfl rfl) rfl rfl ?_
      refine DR.go0 rfl (GStep.move rfl) rfl rfl ?_
      refine DR.go0 rfl (GStep.extr rfl rfl) rfl rfl ?_
      refine DR.go0 rfl (GStep.extr rfl rfl) rfl rfl ?_
      refine DR.go1 rfl (GStep.alloc2 rfl) rfl rfl rfl ?_
      refine DR.nil ?_
      refine DL.sb2 tauOK rfl rfl rfl rfl rfl rfl rfl ?_
      refine DL.go0 tauOK hE rfl (GStep.assign rfl) rfl rfl ?_
      refine DL.nil ?_
      refine DW.sub (T' := [(0, _), (2, _), (3, _), (8, _), (10, _), (14, _), (15, _), (28, _), (29, _), (30, _)]) (Sub.cons rfl (Sub.cons rfl (Sub.cons rfl (Sub.cons rfl (Sub.cons rfl (Sub.cons rfl (Sub.cons rfl (Sub.cons rfl (Sub.cons rfl (Sub.cons rfl Sub.nil)))))))))) (Sub.refl _) ?_
      rw [← hpart]
      refine DW.seq ?_
      refine DW.seq ?_
      refine DW.region ?_
      refine DL.go0 tauOK hE rfl (GStep.move rfl) rfl rfl ?_
      refine DL.go0 tauOK hE rfl (GStep.not rfl) rfl rfl ?_
      refine DL.nil ?_
      refine DW.sub (T' := [(0, _), (2, _), (3, _), (8, _), (10, _), (14, _), (28, _), (29, _), (30, _), (62, _)]) (Sub.cons rfl (Sub.cons rfl (Sub.cons rfl (Sub.cons rfl (Sub.cons rfl (Sub.cons rfl (Sub.cons rfl (Sub.cons rfl (Sub.cons rfl (Sub.cons rfl Sub.nil)))))))))) (Sub.refl _) ?_
      refine DW.cond rfl (fun hq => ?_) (fun hq => ?_)
      · skip
        have e : bsum l a t b a.length = none := by
          refine bsum_none l a t b (k := k + 1) ?_ hlt
          rw [bsum_succ, hs]
          cases hp : partF l a t b k with
          | none => rfl
          | some z => rw [hp] at hq; simp [fOk] at hq
        rw [e]
        refine DW.seq ?_
        refine DW.region ?_
        refine DL.go0 tauOK hE rfl (G.b00 rfl) rfl rfl ?_
        refine DL.sb2 tauOK rfl rfl rfl rfl rfl rfl rfl ?_
        refine DL.go0 tauOK hE rfl (GStep.assign rfl) rfl rfl ?_
        refine DL.nil ?_
        refine DW.sub (T' := [(8, _), (9, _)]) (Sub.cons rfl (Sub.cons rfl Sub.nil)) (Sub.refl _) ?_
        refine DW.ret ?_
        exact RetD.cv (RV.cell rfl rfl rfl) rfl rfl
      · skip
        obtain ⟨z, hz⟩ : ∃ z, partF l a t b k = some z := by
          cases hp : partF l a t b k with
          | none => rw [hp] at hq; simp [fOk] at hq
          | some z => exact ⟨z, rfl⟩
        have hnext : bsum l a t b (k + 1) = addF (x, y) (fN (partF l a t b k), fD (partF l a t b k)) := by
          rw [bsum_succ, hs, hz]; rfl
        refine DW.skip ?_
        refine DW.seq ?_
        refine DW.region ?_
        refine DL.go0 tauOK hE rfl (G.lb2 rfl rfl rfl) rfl rfl ?_
        refine DL.go0 tauOK hE rfl (G.lb2 rfl rfl rfl) rfl rfl ?_
        refine DL.go0 tauOK hE rfl (G.call (v := .tup [.v _, .v _]) (news := []) rfl (All2.cons (ArgOf.v rfl) (All2.cons (ArgOf.v rfl) All2.nil)) (rfl) rfl rfl) rfl rfl ?_
        refine DL.go0 tauOK hE rfl (GStep.move rfl) rfl rfl ?_
        refine DL.go0 tauOK hE rfl (GStep.extr rfl rfl) rfl rfl ?_
        refine DL.go0 tauOK hE rfl (GStep.extr rfl rfl) rfl rfl ?_
        refine DL.sb2 tauOK rfl rfl rfl rfl rfl rfl rfl ?_
        refine DL.go0 tauOK hE rfl (GStep.assign rfl) rfl rfl ?_
        refine DL.nil ?_
        refine DW.sub (T' := [(0, _), (2, _), (3, _), (8, _), (10, _), (15, _), (28, _), (29, _), (30, _)]) (Sub.cons rfl (Sub.cons rfl (Sub.cons rfl (Sub.cons rfl (Sub.cons rfl (Sub.cons rfl (Sub.cons rfl (Sub.cons rfl (Sub.cons rfl Sub.nil))))))))) (Sub.refl _) ?_
        rw [← hnext]
        refine DW.seq ?_
        refine DW.region ?_
        refine DL.go0 tauOK hE rfl (GStep.move rfl) rfl rfl ?_
        refine DL.go0 tauOK hE rfl (GStep.not rfl) rfl rfl ?_
        refine DL.nil ?_
        refine DW.sub (T' := [(0, _), (2, _), (3, _), (8, _), (10, _), (28, _), (29, _), (30, _), (71, _)]) (Sub.cons rfl (Sub.cons rfl (Sub.cons rfl (Sub.cons rfl (Sub.cons rfl (Sub.cons rfl (Sub.cons rfl (Sub.cons rfl (Sub.cons rfl Sub.nil))))))))) (Sub.refl _) ?_
        refine DW.cond rfl (fun hq2 => ?_) (fun hq2 => ?_)
        · skip
          have e : bsum l a t b a.length = none := by
            refine bsum_none l a t b (k := k + 1) ?_ hlt
            cases hp : bsum l a t b (k + 1) with
            | none => rfl
            | some z => rw [hp] at hq2; simp [fOk] at hq2
          rw [e]
          refine DW.seq ?_
          refine DW.region ?_
          refine DL.go0 tauOK hE rfl (G.b00 rfl) rfl rfl ?_
          refine DL.sb2 tauOK rfl rfl rfl rfl rfl rfl rfl ?_
          refine DL.go0 tauOK hE rfl (GStep.assign rfl) rfl rfl ?_
          refine DL.nil ?_
          refine DW.sub (T' := [(8, _), (9, _)]) (Sub.cons rfl (Sub.cons rfl Sub.nil)) (Sub.refl _) ?_
          refine DW.ret ?_
          exact RetD.cv (RV.cell rfl rfl rfl) rfl rfl
        · skip
          refine DW.skip ?_
          refine DW.region ?_
          first | refine DL.go0 tauOK hE rfl (G.add rfl rfl (by omega)) rfl rfl ?_ | refine DL.go0 tauOK hE rfl (GStep.binI rfl rfl rfl) rfl rfl ?_
          refine DL.go0 tauOK hE rfl (GStep.move rfl) rfl rfl ?_
          refine DL.nil ?_
          have hsome : bsum l a t b (k + 1) = some (fN (bsum l a t b (k + 1)), fD (bsum l a t b (k + 1))) := by
            cases hp : bsum l a t b (k + 1) with
            | none => rw [hp] at hq2; simp [fOk] at hq2
            | some z => rfl
          refine ⟨(k + 1, _, _), ⟨hlt, hsome⟩, by first | omega | (dsimp only; omega), ?_, ?_⟩
          · exact Sub.cons rfl (Sub.cons rfl (Sub.cons rfl (Sub.cons rfl (Sub.cons rfl (Sub.cons rfl (Sub.cons rfl (Sub.cons rfl Sub.nil)))))))
          · exact Sub.cons rfl (Sub.cons rfl (Sub.cons rfl (Sub.cons rfl Sub.nil)))
    · skip
      have hlt : k = a.length := by simp at hlt; omega
      subst hlt
      refine DW.exit ?_
      rw [hs]
      refine DW.seq ?_
      refine DW.region ?_
      refine DL.go0 tauOK hE rfl (G.lb2 rfl rfl rfl) rfl rfl ?_
      refine DL.sb2 tauOK rfl rfl rfl rfl rfl rfl rfl ?_
      refine DL.go0 tauOK hE rfl (GStep.assign rfl) rfl rfl ?_
      refine DL.nil ?_
      refine DW.sub (T' := [(8, _), (9, _)]) (Sub.cons rfl (Sub.cons rfl Sub.nil)) (Sub.refl _) ?_
      refine DW.ret ?_
      exact RetD.cv (RV.cell rfl rfl rfl) rfl rfl

theorem recordBetween_ds : DFun Try.prog 16 gBet := by
  have hE : EnvOK Try.prog [(43, gValid), (44, gIsDepth), (45, gIn), (46, gWhole), (47, gOf), (48, gAdd)] := EnvOK.cons recordValid_ds (EnvOK.cons l11Depth_ds (EnvOK.cons l6In_ds (EnvOK.cons l11Whole_ds (EnvOK.cons fracOf_ds (EnvOK.cons fracAdd_ds EnvOK.nil)))))
  refine DFun.of tauOK (fn := Try.f16) Try.func16 rfl (by kernel_rfl) rfl rfl ?_
  intro C ds r hg hl
  unfold gBet at hg
  split at hg
  case h_2 => cases hg
  rename_i n l m a t b
  cases hg
  refine ⟨by simp, ?_⟩
  obtain ⟨hn, hm, hn', hm', _⟩ := hl
  obtain rfl : n = l.length := by omega
  obtain rfl : m = a.length := by omega
  clear hn hn'
  have hspan : spanB t b = (depB t && (decide (b ≥ t) && decide (b ≤ 30000))) := by rw [Bool.eq_iff_iff]; simp [depB, spanB]; omega
  refine DW.seq ?_
  refine DW.region ?_
  refine DL.go1 tauOK hE rfl (GStep.alloc2 rfl) rfl rfl rfl ?_
  refine DL.go0 tauOK hE rfl (GStep.assign rfl) rfl rfl ?_
  refine DL.nil ?_
  refine DW.sub (T' := [(0, _), (1, _), (2, _), (3, _), (8, _)]) (Sub.cons rfl (Sub.cons rfl (Sub.cons rfl (Sub.cons rfl (Sub.cons rfl Sub.nil))))) (Sub.refl _) ?_
  refine DW.seq ?_
  refine DW.cut 31 (!recB l a || !spanB t b) [0, 1, 2, 3, 8] ?_ ?_
  · cases hc1 : recB l a <;> cases hc2 : depB t <;> cases hc3 : (decide (b ≥ t) && decide (b ≤ 30000)) <;> (
      (try have q_hc1 := of_decide_eq_true hc1); (try have q_hc1 := of_decide_eq_false hc1)
      (try have q_hc2 := of_decide_eq_true hc2); (try have q_hc2 := of_decide_eq_false hc2)
      (try have q_hc3 := of_decide_eq_true hc3); (try have q_hc3 := of_decide_eq_false hc3)
      refine DW.region ?_
      refine DL.go0 tauOK hE rfl (GStep.move rfl) rfl rfl ?_
      refine DL.go0 tauOK hE rfl (GStep.move rfl) rfl rfl ?_
      refine DL.go0 tauOK hE rfl (G.call (v := .val _) (news := []) rfl (All2.cons (ArgOf.ro rfl rfl (by simp [flat_len])) (All2.cons (ArgOf.ro rfl rfl (by simp [flat_len])) All2.nil)) (rfl) rfl rfl) rfl rfl ?_
      try rw [hc1]
      try rw [hc2]
      try rw [hc3]
      refine DL.go0 tauOK hE rfl (GStep.not rfl) rfl rfl ?_
      refine DL.go0 tauOK hE rfl (GStep.move rfl) rfl rfl ?_
      first | refine DL.skip rfl rfl rfl ?_ | refine DL.go0 tauOK hE rfl (GStep.move rfl) rfl rfl ?_
      first | refine DL.skip rfl rfl rfl ?_ | refine DL.go0 tauOK hE rfl (G.call (v := .val _) (news := []) rfl (All2.cons (ArgOf.v rfl) All2.nil) (rfl) rfl rfl) rfl rfl ?_
      try rw [hc1]
      try rw [hc2]
      try rw [hc3]
      first | refine DL.skip rfl rfl rfl ?_ | refine DL.go0 tauOK hE rfl (GStep.not rfl) rfl rfl ?_
      first | refine DL.go0 tauOK hE rfl (GStep.pickT rfl rfl) rfl rfl ?_ | refine DL.go0 tauOK hE rfl (GStep.pickF rfl rfl) rfl rfl ?_
      refine DL.go0 tauOK hE rfl (GStep.move rfl) rfl rfl ?_
      first | refine DL.skip rfl rfl rfl ?_ | refine DL.go0 tauOK hE rfl (GStep.move rfl) rfl rfl ?_
      first | refine DL.skip rfl rfl rfl ?_ | refine DL.go0 tauOK hE rfl (GStep.move rfl) rfl rfl ?_
      first | refine DL.skip rfl rfl rfl ?_ | refine DL.go0 tauOK hE rfl (G.call (v := .val _) (news := []) rfl (All2.cons (ArgOf.v rfl) (All2.cons (ArgOf.v rfl) (All2.cons (ArgOf.v rfl) All2.nil))) (rfl) rfl rfl) rfl rfl ?_
      try rw [hc1]
      try rw [hc2]
      try rw [hc3]
      first | refine DL.skip rfl rfl rfl ?_ | refine DL.go0 tauOK hE rfl (GStep.not rfl) rfl rfl ?_
      first | refine DL.go0 tauOK hE rfl (GStep.pickT rfl rfl) rfl rfl ?_ | refine DL.go0 tauOK hE rfl (GStep.pickF rfl rfl) rfl rfl ?_
      refine DL.nil ?_
      exact ⟨rfl, _, rfl, by simp [hc1, hspan, hc2, hc3], SubK.cons rfl (SubK.cons rfl (SubK.cons rfl (SubK.cons rfl (SubK.cons rfl (SubK.nil))))), Sub.refl _⟩)
  refine DW.sub (T' := [(0, _), (1, _), (2, _), (3, _), (8, _), (31, _)]) (Sub.cons rfl (Sub.cons rfl (Sub.cons rfl (Sub.cons rfl (Sub.cons rfl (Sub.cons rfl Sub.nil)))))) (Sub.refl _) ?_
  refine DW.cond rfl (fun hb => ?_) (fun hb => ?_)
  · skip
    rw [betF_no' hb]
    refine DW.seq ?_
    refine DW.region ?_
    refine DL.go0 tauOK hE rfl (G.b00 rfl) rfl rfl ?_
    refine DL.sb2 tauOK rfl rfl rfl rfl rfl rfl rfl ?_
    refine DL.go0 tauOK hE rfl (GStep.assign rfl) rfl rfl ?_
    refine DL.nil ?_
    refine DW.sub (T' := [(8, _), (9, _)]) (Sub.cons rfl (Sub.cons rfl Sub.nil)) (Sub.refl _) ?_
    refine DW.ret ?_
    exact RetD.cv (RV.cell rfl rfl rfl) rfl rfl
  · skip
    simp at hb
    obtain ⟨hb, hsp⟩ := hb
    obtain ⟨t1, t2, t3⟩ := span_iff.1 hsp
    have hbet : betF l a t b = bsum l a t b a.length := by unfold betF; rw [if_pos ⟨hb, hsp⟩]
    rw [hbet]
    refine DW.skip ?_
    refine DW.seq ?_
    refine DW.region ?_
    refine DL.go0 tauOK hE rfl (G.call (v := .val _) (news := []) rfl (All2.cons (ArgOf.v rfl) All2.nil) (rfl) rfl rfl) rfl rfl ?_
    refine DL.go1 tauOK hE rfl (GStep.alloc2 rfl) rfl rfl rfl ?_
    refine DL.sb2 tauOK rfl rfl rfl rfl rfl rfl rfl ?_
    refine DL.nil ?_
    refine DW.sub (T' := [(0, _), (1, _), (2, _), (3, _), (8, _), (10, _)]) (Sub.cons rfl (Sub.cons rfl (Sub.cons rfl (Sub.cons rfl (Sub.cons rfl (Sub.cons rfl Sub.nil)))))) (Sub.refl _) ?_
    refine DW.seq ?_
    refine DW.seq ?_
    refine DW.region ?_
    refine DL.go0 tauOK hE rfl (GStep.assign rfl) rfl rfl ?_
    refine DL.nil ?_
    refine DW.sub (T' := [(0, _), (1, _), (2, _), (3, _), (8, _), (10, _), (11, _)]) (Sub.cons rfl (Sub.cons rfl (Sub.cons rfl (Sub.cons rfl (Sub.cons rfl (Sub.cons rfl (Sub.cons rfl Sub.nil))))))) (Sub.refl _) ?_
    refine DW.block ?_
    refine DW.loop (α := Nat × Int × Int) (fun (k, x, y) => [(0, .sl 0 0 l.length), (1, .sl 1 0 a.length), (2, .val (.int .i64 t)), (3, .val (.int .i64 b)), (8, .ptr 8 0), (10, .ptr 10 0), (11, .val (.int .i64 (k : Nat)))]) (fun (k, x, y) => [(0, .ro .i64 1 l), (1, .ro .i64 1 a), (8, .box 27 [0, 0]), (10, .box 27 [x, y])]) (fun (k, x, y) => k ≤ a.length ∧ bsum l a t b k = some (x, y)) (fun (k, x, y) => a.length - k) (0, 0, 1) (⟨by omega, rfl⟩) (Sub.cons rfl (Sub.cons rfl (Sub.cons rfl (Sub.cons rfl (Sub.cons rfl (Sub.cons rfl (Sub.cons rfl Sub.nil))))))) (Sub.cons rfl (Sub.cons rfl (Sub.cons rfl (Sub.cons rfl Sub.nil)))) ?_
    rintro ⟨k, x, y⟩ ⟨hk, hs⟩
    skip
    refine DW.seq ?_
    refine DW.seq ?_
    refine DW.region ?_
    refine DL.go0 tauOK hE rfl (GStep.move rfl) rfl rfl ?_
    refine DL.go0 tauOK hE rfl (GStep.move rfl) rfl rfl ?_
    first | refine DL.go0 tauOK hE rfl (GStep.len rfl rfl rfl) rfl rfl ?_ | refine DL.go0 tauOK hE rfl (GStep.lenNil rfl rfl) rfl rfl ?_
    refine DL.go0 tauOK hE rfl (GStep.binI rfl rfl rfl) rfl rfl ?_
    refine DL.nil ?_
    refine DW.sub (T' := [(0, _), (1, _), (2, _), (3, _), (8, _), (10, _), (11, _), (37, _)]) (Sub.cons rfl (Sub.cons rfl (Sub.cons rfl (Sub.cons rfl (Sub.cons rfl (Sub.cons rfl (Sub.cons rfl (Sub.cons rfl Sub.nil)))))))) (Sub.refl _) ?_
    refine DW.cond rfl (fun hlt => ?_) (fun hlt => ?_)
    · skip
      have hlt : k < a.length := by simpa using hlt
      obtain ⟨⟨e1, e2, e3⟩, ⟨f1, f2⟩, hel⟩ := bin_facts hb hlt
      have hov := ovl_bd (t := t) (b := b) (Int.le_of_lt e2)
      have hmu := amt_bd f1 f2 hov.1 (show ovl t b (l.getD k 0) (l.getD (k + 1) 0) ≤ 30000 by omega)
      have hpart : partF l a t b k = ofF (a.getD k 0 * max 0 (min b (l.getD (k + 1) 0) - max t (l.getD k 0))) (l.getD (k + 1) 0 - l.getD k 0) := rfl
      have hov2 : ovl t b (l.getD k 0) (l.getD (k + 1) 0) = max 0 (min b (l.getD (k + 1) 0) - max t (l.getD k 0)) := rfl
      rw [hov2] at hmu
      refine DW.skip ?_
      refine DW.seq ?_
      refine DW.block ?_
      refine DW.seq ?_
      refine DW.draw tauOK hE mixed 15 (by kernel_rfl) ?_
      refine DR.go0 rfl (GStep.move rfl) rfl rfl ?_
      refine DR.go0 rfl (GStep.move rfl) rfl rfl ?_
      refine DR.go0 rfl (GStep.move rfl) rfl rfl ?_
      first | refine DR.go0 rfl (G.add rfl rfl (by omega)) rfl rfl ?_ | refine DR.go0 rfl (GStep.binI rfl rfl rfl) rfl rfl ?_
      refine DR.go0 rfl (G.ia1 (i := k + 1) rfl rfl rfl rfl rfl rfl (by omega) (by omega)) rfl rfl ?_
      first | refine DR.go0 rfl (G.le1r rfl rfl rfl (by omega)) rfl rfl ?_ | refine DR.go0 rfl (G.le1w rfl rfl rfl (by omega)) rfl rfl ?_
      refine DR.go0 rfl (G.mini rfl rfl) rfl rfl ?_
      refine DR.go0 rfl (GStep.move rfl) rfl rfl ?_
      refine DR.go0 rfl (GStep.move rfl) rfl rfl ?_
      refine DR.go0 rfl (GStep.move rfl) rfl rfl ?_
      refine DR.go0 rfl (G.ia1 rfl rfl rfl rfl rfl rfl rfl (by omega)) rfl rfl ?_
      first | refine DR.go0 rfl (G.le1r rfl rfl rfl (by omega)) rfl rfl ?_ | refine DR.go0 rfl (G.le1w rfl rfl rfl (by omega)) rfl rfl ?_
      refine DR.go0 rfl (G.maxi rfl rfl) rfl rfl ?_
      first | refine DR.go0 rfl (G.sub rfl rfl (by omega)) rfl rfl ?_ | refine DR.go0 rfl (GStep.binI rfl rfl rfl) rfl rfl ?_
      refine DR.go0 rfl (GStep.assign rfl) rfl rfl ?_
      refine DR.nil ?_
      refine DL.nil ?_
      refine DW.sub (T' := [(0, _), (1, _), (2, _), (3, _), (8, _), (10, _), (11, _), (12, _)]) (Sub.cons rfl (Sub.cons rfl (Sub.cons rfl (Sub.cons rfl (Sub.cons rfl (Sub.cons rfl (Sub.cons rfl (Sub.cons rfl Sub.nil)))))))) (Sub.refl _) ?_
      refine DW.seq ?_
      refine DW.draw tauOK hE mixed 22 (by kernel_rfl) ?_
      refine DR.go0 rfl (GStep.move rfl) rfl rfl ?_
      refine DR.go0 rfl (GStep.move rfl) rfl rfl ?_
      refine DR.go0 rfl (G.ia1 rfl rfl rfl rfl rfl rfl rfl (by omega)) rfl rfl ?_
      first | refine DR.go0 rfl (G.le1r rfl rfl rfl (by omega)) rfl rfl ?_ | refine DR.go0 rfl (G.le1w rfl rfl rfl (by omega)) rfl rfl ?_
      refine DR.go0 rfl (GStep.move rfl) rfl rfl ?_
      refine DR.go0 rfl (G.maxi rfl rfl) rfl rfl ?_
      refine DR.go0 rfl (G.mul rfl rfl (by omega)) rfl rfl ?_
      refine DR.go0 rfl (GStep.move rfl) rfl rfl ?_
      refine DR.go0 rfl (GStep.move rfl) rfl rfl ?_
      first | refine DR.go0 rfl (G.add rfl rfl (by omega)) rfl rfl ?_ | refine DR.go0 rfl (GStep.binI rfl rfl rfl) rfl rfl ?_
      refine DR.go0 rfl (G.ia1 (i := k + 1) rfl rfl rfl rfl rfl rfl (by omega) (by omega)) rfl rfl ?_
      first | refine DR.go0 rfl (G.le1r rfl rfl rfl (by omega)) rfl rfl ?_ | refine DR.go0 rfl (G.le1w rfl rfl rfl (by omega)) rfl rfl ?_
      refine DR.go0 rfl (GStep.move rfl) rfl rfl ?_
      refine DR.go0 rfl (GStep.move rfl) rfl rfl ?_
      refine DR.go0 rfl (G.ia1 rfl rfl rfl rfl rfl rfl rfl (by omega)) rfl rfl ?_
      first | refine DR.go0 rfl (G.le1r rfl rfl rfl (by omega)) rfl rfl ?_ | refine DR.go0 rfl (G.le1w rfl rfl rfl (by omega)) rfl rfl ?_
      first | refine DR.go0 rfl (G.sub rfl rfl (by omega)) rfl rfl ?_ | refine DR.go0 rfl (GStep.binI rfl rfl rfl) rfl rfl ?_
      refine DR.go0 rfl (G.call (v := .tup [.v _, .v _]) (news := []) rfl (All2.cons (ArgOf.v rfl) (All2.cons (ArgOf.v rfl) All2.nil)) (rfl) rfl rfl) rfl rfl ?_
      refine DR.go0 rfl (GStep.move rfl) rfl rfl ?_
      refine DR.go0 rfl (GStep.extr rfl rfl) rfl rfl ?_
      refine DR.go0 rfl (GStep.extr rfl rfl) rfl rfl ?_
      refine DR.go1 rfl (GStep.alloc2 rfl) rfl rfl rfl ?_
      refine DR.nil ?_
      refine DL.sb2 tauOK rfl rfl rfl rfl rfl rfl rfl ?_
      refine DL.go0 tauOK hE rfl (GStep.assign rfl) rfl rfl ?_
      refine DL.nil ?_
      refine DW.sub (T' := [(0, _), (1, _), (2, _), (3, _), (8, _), (10, _), (11, _), (13, _), (14, _)]) (Sub.cons rfl (Sub.cons rfl (Sub.cons rfl (Sub.cons rfl (Sub.cons rfl (Sub.cons rfl (Sub.cons rfl (Sub.cons rfl (Sub.cons rfl Sub.nil))))))))) (Sub.refl _) ?_
      rw [← hpart]
      have hnext : bsum l a t b (k + 1) = (partF l a t b k).bind (fun z => addF (x, y) z) := by
        rw [bsum_succ, hs]; rfl
      refine DW.seq ?_
      refine DW.region ?_
      refine DL.go0 tauOK hE rfl (G.lb2 rfl rfl rfl) rfl rfl ?_
      refine DL.go0 tauOK hE rfl (G.lb2 rfl rfl rfl) rfl rfl ?_
      refine DL.go0 tauOK hE rfl (G.call (v := .tup [.v _, .v _]) (news := []) rfl (All2.cons (ArgOf.v rfl) (All2.cons (ArgOf.v rfl) All2.nil)) (rfl) rfl rfl) rfl rfl ?_
      refine DL.go0 tauOK hE rfl (GStep.move rfl) rfl rfl ?_
      refine DL.go0 tauOK hE rfl (GStep.extr rfl rfl) rfl rfl ?_
      refine DL.go0 tauOK hE rfl (GStep.extr rfl rfl) rfl rfl ?_
      refine DL.go1 tauOK hE rfl (GStep.alloc2 rfl) rfl rfl rfl ?_
      refine DL.sb2 tauOK rfl rfl rfl rfl rfl rfl rfl ?_
      refine DL.go0 tauOK hE rfl (GStep.assign rfl) rfl rfl ?_
      refine DL.nil ?_
      refine DW.sub (T' := [(0, _), (1, _), (2, _), (3, _), (8, _), (10, _), (11, _), (14, _), (15, _), (16, _)]) (Sub.cons rfl (Sub.cons rfl (Sub.cons rfl (Sub.cons rfl (Sub.cons rfl (Sub.cons rfl (Sub.cons rfl (Sub.cons rfl (Sub.cons rfl (Sub.cons rfl Sub.nil)))))))))) (Sub.refl _) ?_
      refine DW.seq ?_
      refine DW.cut 86 (!fOk (partF l a t b k) || !fOk (addF (x, y) (fN (partF l a t b k), fD (partF l a t b k)))) [0, 1, 2, 3, 8, 10, 11, 15] ?_ ?_
      · cases hc1 : fOk (partF l a t b k) <;> cases hc2 : fOk (addF (x, y) (fN (partF l a t b k), fD (partF l a t b k))) <;> (
          (try have q_hc1 := of_decide_eq_true hc1); (try have q_hc1 := of_decide_eq_false hc1)
          (try have q_hc2 := of_decide_eq_true hc2); (try have q_hc2 := of_decide_eq_false hc2)
          refine DW.region ?_
          refine DL.go0 tauOK hE rfl (GStep.move rfl) rfl rfl ?_
          refine DL.go0 tauOK hE rfl (GStep.not rfl) rfl rfl ?_
          refine DL.go0 tauOK hE rfl (GStep.move rfl) rfl rfl ?_
          first | refine DL.skip rfl rfl rfl ?_ | refine DL.go0 tauOK hE rfl (GStep.move rfl) rfl rfl ?_
          first | refine DL.skip rfl rfl rfl ?_ | refine DL.go0 tauOK hE rfl (GStep.not rfl) rfl rfl ?_
          first | refine DL.go0 tauOK hE rfl (GStep.pickT rfl rfl) rfl rfl ?_ | refine DL.go0 tauOK hE rfl (GStep.pickF rfl rfl) rfl rfl ?_
          refine DL.nil ?_
          exact ⟨rfl, _, rfl, by simp [hc1, hc2], SubK.cons rfl (SubK.cons rfl (SubK.cons rfl (SubK.cons rfl (SubK.cons rfl (SubK.cons rfl (SubK.cons rfl (SubK.cons rfl (SubK.nil)))))))), Sub.refl _⟩)
      refine DW.sub (T' := [(0, _), (1, _), (2, _), (3, _), (8, _), (10, _), (11, _), (15, _), (86, _)]) (Sub.cons rfl (Sub.cons rfl (Sub.cons rfl (Sub.cons rfl (Sub.cons rfl (Sub.cons rfl (Sub.cons rfl (Sub.cons rfl (Sub.cons rfl Sub.nil))))))))) (Sub.refl _) ?_
      refine DW.cond rfl (fun hq => ?_) (fun hq => ?_)
      · skip
        have e : bsum l a t b a.length = none := by
          refine bsum_none l a t b (k := k + 1) ?_ hlt
          rw [hnext]
          cases hp : partF l a t b k with
          | none => rfl
          | some z =>
            rw [hp] at hq
            cases ho : addF (x, y) z with
            | none => exact ho
            | some z' =>
              exfalso
              have : addF (x, y) (fN (some z), fD (some z)) = some z' := ho
              rw [this] at hq
              simp [fOk] at hq
        rw [e]
        refine DW.seq ?_
        refine DW.region ?_
        refine DL.go0 tauOK hE rfl (G.b00 rfl) rfl rfl ?_
        refine DL.sb2 tauOK rfl rfl rfl rfl rfl rfl rfl ?_
        refine DL.go0 tauOK hE rfl (GStep.assign rfl) rfl rfl ?_
        refine DL.nil ?_
        refine DW.sub (T' := [(8, _), (9, _)]) (Sub.cons rfl (Sub.cons rfl Sub.nil)) (Sub.refl _) ?_
        refine DW.ret ?_
        exact RetD.cv (RV.cell rfl rfl rfl) rfl rfl
      · skip
        simp at hq
        have hn2 : addF (x, y) (fN (partF l a t b k), fD (partF l a t b k)) = bsum l a t b (k + 1) := by
          rw [hnext]
          cases hp : partF l a t b k with
          | none => rw [hp] at hq; simp [fOk] at hq
          | some z => rfl
        rw [hn2] at hq
        have hsome : bsum l a t b (k + 1) = some (fN (bsum l a t b (k + 1)), fD (bsum l a t b (k + 1))) := by
          cases hp : bsum l a t b (k + 1) with
          | none => rw [hp] at hq; simp [fOk] at hq
          | some z => rfl
        rw [hn2]
        refine DW.skip ?_
        refine DW.region ?_
        refine DL.go0 tauOK hE rfl (G.lb2 rfl rfl rfl) rfl rfl ?_
        refine DL.sb2 tauOK rfl rfl rfl rfl rfl rfl rfl ?_
        refine DL.nil ?_
        refine DW.sub (T' := [(0, _), (1, _), (2, _), (3, _), (8, _), (10, _), (11, _)]) (Sub.cons rfl (Sub.cons rfl (Sub.cons rfl (Sub.cons rfl (Sub.cons rfl (Sub.cons rfl (Sub.cons rfl Sub.nil))))))) (Sub.refl _) ?_
        refine DW.region ?_
        refine DL.go0 tauOK hE rfl (GStep.move rfl) rfl rfl ?_
        first | refine DL.go0 tauOK hE rfl (G.add rfl rfl (by omega)) rfl rfl ?_ | refine DL.go0 tauOK hE rfl (GStep.binI rfl rfl rfl) rfl rfl ?_
        refine DL.go0 tauOK hE rfl (GStep.assign rfl) rfl rfl ?_
        refine DL.nil ?_
        refine ⟨(k + 1, _, _), ⟨hlt, hsome⟩, by first | omega | (dsimp only; omega), ?_, ?_⟩
        · exact Sub.cons rfl (Sub.cons rfl (Sub.cons rfl (Sub.cons rfl (Sub.cons rfl (Sub.cons rfl (Sub.cons rfl Sub.nil))))))
        · exact Sub.cons rfl (Sub.cons rfl (Sub.cons rfl (Sub.cons rfl Sub.nil)))
    · skip
      have hlt : k = a.length := by simp at hlt; omega
      subst hlt
      refine DW.exit ?_
      rw [hs]
      refine DW.seq ?_
      refine DW.region ?_
      refine DL.go0 tauOK hE rfl (G.lb2 rfl rfl rfl) rfl rfl ?_
      refine DL.sb2 tauOK rfl rfl rfl rfl rfl rfl rfl ?_
      refine DL.go0 tauOK hE rfl (GStep.assign rfl) rfl rfl ?_
      refine DL.nil ?_
      refine DW.sub (T' := [(8, _), (9, _)]) (Sub.cons rfl (Sub.cons rfl Sub.nil)) (Sub.refl _) ?_
      refine DW.ret ?_
      exact RetD.cv (RV.cell rfl rfl rfl) rfl rfl
end Go.Proofs.Ytlhkdgkaafhehaa
