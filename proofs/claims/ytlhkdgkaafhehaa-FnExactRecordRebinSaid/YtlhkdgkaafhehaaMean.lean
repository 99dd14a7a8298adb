/-
  Means and rebinned records, walked by the plain machine.
-/
import Derived.Test.YtlhkdgkaafhehaaRecE
import Derived.Test.YtlhkdgkaafhehaaPairs
namespace Go.Proofs.Ytlhkdgkaafhehaa
open Go.RowKit
set_option linter.unusedVariables false
set_option linter.unusedSimpArgs false
def meanF (l a : List Int) (t b : Int) : Fr := if t = b then none else (betF l a t b).bind fun s => divF s (b - t, 1)
def gMean : List AD → Option RD
  | [.sl .i64 1 _ l, .sl .i64 1 _ a, .v (.int .i64 t), .v (.int .i64 b)] => some (rF (meanF l a t b))
  | _ => none
theorem betF_span {l a : List Int} {t b : Int} {f : Int × Int} (h : betF l a t b = some f) : recB l a = true ∧ 0 ≤ t ∧ t ≤ b ∧ b ≤ 30000 := by
  unfold betF at h
  split at h
  · rename_i hc
    exact ⟨hc.1, span_iff.1 hc.2⟩
  · cases h
theorem meanF_no {l a : List Int} {t b : Int} (h : betF l a t b = none) : meanF l a t b = none := by
  unfold meanF; rw [h]; split <;> rfl
theorem meanF_same {l a : List Int} {t b : Int} (h : t = b) : meanF l a t b = none := if_pos h
theorem meanF_eq {l a : List Int} {t b : Int} {f : Int × Int} (h : betF l a t b = some f) (hne : t ≠ b) : meanF l a t b = divF f (b - t, 1) := by
  unfold meanF; rw [if_neg hne, h]; rfl
theorem recordMean_di : DFun Try.prog 21 gMean := by
  have hE : EnvOK Try.prog [(15, gBet), (51, gDiv), (46, gWhole)] := EnvOK.cons recordBetween_di (EnvOK.cons fracDiv_di (EnvOK.cons l11Whole_ds EnvOK.nil))
  refine DFun.of tauOK (fn := Try.f21) Try.func21 rfl (by kernel_rfl) rfl rfl ?_
  intro C ds r hg hl
  unfold gMean at hg
  split at hg
  case h_2 => cases hg
  rename_i n l m a t b
  cases hg
  refine ⟨by simp, ?_⟩
  obtain ⟨hn, hm, hn', hm', _⟩ := hl
  obtain rfl : n = l.length := by omega
  obtain rfl : m = a.length := by omega
  clear hn hn'
  refine DW.seq ?_
  refine DW.region ?_
  refine DL.go1 tauOK hE rfl (GStep.alloc2 rfl) rfl rfl rfl ?_
  refine DL.go0 tauOK hE rfl (GStep.assign rfl) rfl rfl ?_
  refine DL.nil ?_
  refine DW.sub (T' := [(0, _), (1, _), (2, _), (3, _), (8, _)]) (Sub.cons rfl (Sub.cons rfl (Sub.cons rfl (Sub.cons rfl (Sub.cons rfl Sub.nil))))) (Sub.refl _) ?_
  refine DW.seq ?_
  refine DW.region ?_
  refine DL.go0 tauOK hE rfl (GStep.move rfl) rfl rfl ?_
  refine DL.go0 tauOK hE rfl (GStep.move rfl) rfl rfl ?_
  refine DL.go0 tauOK hE rfl (GStep.move rfl) rfl rfl ?_
  refine DL.go0 tauOK hE rfl (GStep.move rfl) rfl rfl ?_
  refine DL.go0 tauOK hE rfl (G.call (v := .tup [.v _, .v _]) (news := []) rfl (All2.cons (ArgOf.ro rfl rfl (by simp [flat_len])) (All2.cons (ArgOf.ro rfl rfl (by simp [flat_len])) (All2.cons (ArgOf.v rfl) (All2.cons (ArgOf.v rfl) All2.nil)))) (rfl) rfl rfl) rfl rfl ?_
  refine DL.go0 tauOK hE rfl (GStep.move rfl) rfl rfl ?_
  refine DL.go0 tauOK hE rfl (GStep.extr rfl rfl) rfl rfl ?_
  refine DL.go0 tauOK hE rfl (GStep.extr rfl rfl) rfl rfl ?_
  refine DL.go1 tauOK hE rfl (GStep.alloc2 rfl) rfl rfl rfl ?_
  refine DL.sb2 tauOK rfl rfl rfl rfl rfl rfl rfl ?_
  refine DL.go0 tauOK hE rfl (GStep.assign rfl) rfl rfl ?_
  refine DL.nil ?_
  refine DW.sub (T' := [(2, _), (3, _), (8, _), (10, _), (11, _)]) (Sub.cons rfl (Sub.cons rfl (Sub.cons rfl (Sub.cons rfl (Sub.cons rfl Sub.nil))))) (Sub.refl _) ?_
  refine DW.seq ?_
  refine DW.seq ?_
  cases hf : betF l a t b
  · skip
    rw [meanF_no hf]
    refine DW.region ?_
    refine DL.go0 tauOK hE rfl (GStep.move rfl) rfl rfl ?_
    refine DL.go0 tauOK hE rfl (GStep.not rfl) rfl rfl ?_
    refine DL.go0 tauOK hE rfl (GStep.move rfl) rfl rfl ?_
    first | refine DL.skip rfl rfl rfl ?_ | refine DL.go0 tauOK hE rfl (GStep.move rfl) rfl rfl ?_
    first | refine DL.skip rfl rfl rfl ?_ | refine DL.go0 tauOK hE rfl (GStep.move rfl) rfl rfl ?_
    first | refine DL.skip rfl rfl rfl ?_ | refine DL.go0 tauOK hE rfl (GStep.binI rfl rfl rfl) rfl rfl ?_
    first | refine DL.go0 tauOK hE rfl (GStep.pickT rfl rfl) rfl rfl ?_ | refine DL.go0 tauOK hE rfl (GStep.pickF rfl rfl) rfl rfl ?_
    refine DL.nil ?_
    refine DW.sub (T' := [(2, _), (3, _), (8, _), (10, _), (26, _)]) (Sub.cons rfl (Sub.cons rfl (Sub.cons rfl (Sub.cons rfl (Sub.cons rfl Sub.nil))))) (Sub.refl _) ?_
    refine DW.condT rfl ?_
    refine DW.seq ?_
    refine DW.region ?_
    refine DL.go0 tauOK hE rfl (G.b00 rfl) rfl rfl ?_
    refine DL.sb2 tauOK rfl rfl rfl rfl rfl rfl rfl ?_
    refine DL.go0 tauOK hE rfl (GStep.assign rfl) rfl rfl ?_
    refine DL.nil ?_
    refine DW.sub (T' := [(8, _), (9, _)]) (Sub.cons rfl (Sub.cons rfl Sub.nil)) (Sub.refl _) ?_
    refine DW.ret ?_
    exact RetD.cv (RV.cell rfl rfl rfl) rfl rfl
  · skip
    rename_i f
    obtain ⟨f1, f2⟩ := f
    by_cases ht : t = b
    · rw [meanF_same ht]
      refine DW.region ?_
      refine DL.go0 tauOK hE rfl (GStep.move rfl) rfl rfl ?_
      refine DL.go0 tauOK hE rfl (GStep.not rfl) rfl rfl ?_
      refine DL.go0 tauOK hE rfl (GStep.move rfl) rfl rfl ?_
      first | refine DL.skip rfl rfl rfl ?_ | refine DL.go0 tauOK hE rfl (GStep.move rfl) rfl rfl ?_
      first | refine DL.skip rfl rfl rfl ?_ | refine DL.go0 tauOK hE rfl (GStep.move rfl) rfl rfl ?_
      first | refine DL.skip rfl rfl rfl ?_ | refine DL.go0 tauOK hE rfl (G.tr (GStep.binI rfl rfl rfl) (by simp [ht])) rfl rfl ?_
      first | refine DL.go0 tauOK hE rfl (GStep.pickT rfl rfl) rfl rfl ?_ | refine DL.go0 tauOK hE rfl (GStep.pickF rfl rfl) rfl rfl ?_
      refine DL.nil ?_
      refine DW.sub (T' := [(2, _), (3, _), (8, _), (10, _), (26, _)]) (Sub.cons rfl (Sub.cons rfl (Sub.cons rfl (Sub.cons rfl (Sub.cons rfl Sub.nil))))) (Sub.refl _) ?_
      refine DW.condT rfl ?_
      refine DW.seq ?_
      refine DW.region ?_
      refine DL.go0 tauOK hE rfl (G.b00 rfl) rfl rfl ?_
      refine DL.sb2 tauOK rfl rfl rfl rfl rfl rfl rfl ?_
      refine DL.go0 tauOK hE rfl (GStep.assign rfl) rfl rfl ?_
      refine DL.nil ?_
      refine DW.sub (T' := [(8, _), (9, _)]) (Sub.cons rfl (Sub.cons rfl Sub.nil)) (Sub.refl _) ?_
      refine DW.ret ?_
      exact RetD.cv (RV.cell rfl rfl rfl) rfl rfl
    · skip
      rw [meanF_eq hf ht]
      have hsp := betF_span hf
      refine DW.region ?_
      refine DL.go0 tauOK hE rfl (GStep.move rfl) rfl rfl ?_
      refine DL.go0 tauOK hE rfl (GStep.not rfl) rfl rfl ?_
      refine DL.go0 tauOK hE rfl (GStep.move rfl) rfl rfl ?_
      first | refine DL.skip rfl rfl rfl ?_ | refine DL.go0 tauOK hE rfl (GStep.move rfl) rfl rfl ?_
      first | refine DL.skip rfl rfl rfl ?_ | refine DL.go0 tauOK hE rfl (GStep.move rfl) rfl rfl ?_
      first | refine DL.skip rfl rfl rfl ?_ | refine DL.go0 tauOK hE rfl (G.fl (GStep.binI rfl rfl rfl) (by simp [ht])) rfl rfl ?_
      first | refine DL.go0 tauOK hE rfl (GStep.pickT rfl rfl) rfl rfl ?_ | refine DL.go0 tauOK hE rfl (GStep.pickF rfl rfl) rfl rfl ?_
      refine DL.nil ?_
      refine DW.sub (T' := [(2, _), (3, _), (8, _), (10, _), (26, _)]) (Sub.cons rfl (Sub.cons rfl (Sub.cons rfl (Sub.cons rfl (Sub.cons rfl Sub.nil))))) (Sub.refl _) ?_
      refine DW.condF rfl ?_
      refine DW.skip ?_
      refine DW.seq ?_
      refine DW.region ?_
      refine DL.go0 tauOK hE rfl (G.lb2 rfl rfl rfl) rfl rfl ?_
      refine DL.go0 tauOK hE rfl (GStep.move rfl) rfl rfl ?_
      refine DL.go0 tauOK hE rfl (GStep.move rfl) rfl rfl ?_
      first | refine DL.go0 tauOK hE rfl (G.sub rfl rfl (by omega)) rfl rfl ?_ | refine DL.go0 tauOK hE rfl (GStep.binI rfl rfl rfl) rfl rfl ?_
      refine DL.go0 tauOK hE rfl (G.b01 rfl rfl rfl) rfl rfl ?_
      refine DL.go0 tauOK hE rfl (G.call (v := .tup [.v _, .v _]) (news := []) rfl (All2.cons (ArgOf.v rfl) (All2.cons (ArgOf.v rfl) All2.nil)) (rfl) rfl rfl) rfl rfl ?_
      refine DL.go0 tauOK hE rfl (GStep.extr rfl rfl) rfl rfl ?_
      refine DL.go0 tauOK hE rfl (GStep.extr rfl rfl) rfl rfl ?_
      refine DL.sb2 tauOK rfl rfl rfl rfl rfl rfl rfl ?_
      refine DL.go0 tauOK hE rfl (GStep.assign rfl) rfl rfl ?_
      refine DL.nil ?_
      refine DW.sub (T' := [(8, _), (9, _)]) (Sub.cons rfl (Sub.cons rfl Sub.nil)) (Sub.refl _) ?_
      refine DW.ret ?_
      exact RetD.cv (RV.cell rfl rfl rfl) rfl rfl
theorem recordMean_ds : DFun Try.prog 19 gMean := by
  have hE : EnvOK Try.prog [(16, gBet), (50, gDiv), (46, gWhole)] := EnvOK.cons recordBetween_ds (EnvOK.cons fracDiv_ds (EnvOK.cons l11Whole_ds EnvOK.nil))
  refine DFun.of tauOK (fn := Try.f19) Try.func19 rfl (by kernel_rfl) rfl rfl ?_
  intro C ds r hg hl
  unfold gMean at hg
  split at hg
  case h_2 => cases hg
  rename_i n l m a t b
  cases hg
  refine ⟨by simp, ?_⟩
  obtain ⟨hn, hm, hn', hm', _⟩ := hl
  obtain rfl : n = l.length := by omega
  obtain rfl : m = a.length := by omega
  clear hn hn'
  refine DW.seq ?_
  refine DW.region ?_
  refine DL.go1 tauOK hE rfl (GStep.alloc2 rfl) rfl rfl rfl ?_
  refine DL.go0 tauOK hE rfl (GStep.assign rfl) rfl rfl ?_
  refine DL.nil ?_
  refine DW.sub (T' := [(0, _), (1, _), (2, _), (3, _), (8, _)]) (Sub.cons rfl (Sub.cons rfl (Sub.cons rfl (Sub.cons rfl (Sub.cons rfl Sub.nil))))) (Sub.refl _) ?_
  refine DW.seq ?_
  refine DW.region ?_
  refine DL.go0 tauOK hE rfl (GStep.move rfl) rfl rfl ?_
  refine DL.go0 tauOK hE rfl (GStep.move rfl) rfl rfl ?_
  refine DL.go0 tauOK hE rfl (GStep.move rfl) rfl rfl ?_
  refine DL.go0 tauOK hE rfl (GStep.move rfl) rfl rfl ?_
  refine DL.go0 tauOK hE rfl (G.call (v := .tup [.v _, .v _]) (news := []) rfl (All2.cons (ArgOf.ro rfl rfl (by simp [flat_len])) (All2.cons (ArgOf.ro rfl rfl (by simp [flat_len])) (All2.cons (ArgOf.v rfl) (All2.cons (ArgOf.v rfl) All2.nil)))) (rfl) rfl rfl) rfl rfl ?_
  refine DL.go0 tauOK hE rfl (GStep.move rfl) rfl rfl ?_
  refine DL.go0 tauOK hE rfl (GStep.extr rfl rfl) rfl rfl ?_
  refine DL.go0 tauOK hE rfl (GStep.extr rfl rfl) rfl rfl ?_
  refine DL.go1 tauOK hE rfl (GStep.alloc2 rfl) rfl rfl rfl ?_
  refine DL.sb2 tauOK rfl rfl rfl rfl rfl rfl rfl ?_
  refine DL.go0 tauOK hE rfl (GStep.assign rfl) rfl rfl ?_
  refine DL.nil ?_
  refine DW.sub (T' := [(2, _), (3, _), (8, _), (10, _), (11, _)]) (Sub.cons rfl (Sub.cons rfl (Sub.cons rfl (Sub.cons rfl (Sub.cons rfl Sub.nil))))) (Sub.refl _) ?_
  refine DW.seq ?_
  refine DW.seq ?_
  cases hf : betF l a t b
  · skip
    rw [meanF_no hf]
    refine DW.region ?_
    refine DL.go0 tauOK hE rfl (GStep.move rfl) rfl rfl ?_
    refine DL.go0 tauOK hE rfl (GStep.not rfl) rfl rfl ?_
    refine DL.go0 tauOK hE rfl (GStep.move rfl) rfl rfl ?_
    first | refine DL.skip rfl rfl rfl ?_ | refine DL.go0 tauOK hE rfl (GStep.move rfl) rfl rfl ?_
    first | refine DL.skip rfl rfl rfl ?_ | refine DL.go0 tauOK hE rfl (GStep.move rfl) rfl rfl ?_
    first | refine DL.skip rfl rfl rfl ?_ | refine DL.go0 tauOK hE rfl (GStep.binI rfl rfl rfl) rfl rfl ?_
    first | refine DL.go0 tauOK hE rfl (GStep.pickT rfl rfl) rfl rfl ?_ | refine DL.go0 tauOK hE rfl (GStep.pickF rfl rfl) rfl rfl ?_
    refine DL.nil ?_
    refine DW.sub (T' := [(2, _), (3, _), (8, _), (10, _), (26, _)]) (Sub.cons rfl (Sub.cons rfl (Sub.cons rfl (Sub.cons rfl (Sub.cons rfl Sub.nil))))) (Sub.refl _) ?_
    refine DW.condT rfl ?_
    refine DW.seq ?_
    refine DW.region ?_
    refine DL.go0 tauOK hE rfl (G.b00 rfl) rfl rfl ?_
    refine DL.sb2 tauOK rfl rfl rfl rfl rfl rfl rfl ?_
    refine DL.go0 tauOK hE rfl (GStep.assign rfl) rfl rfl ?_
    refine DL.nil ?_
    refine DW.sub (T' := [(8, _), (9, _)]) (Sub.cons rfl (Sub.cons rfl Sub.nil)) (Sub.refl _) ?_
    refine DW.ret ?_
    exact RetD.cv (RV.cell rfl rfl rfl) rfl rfl
  · skip
    rename_i f
    obtain ⟨f1, f2⟩ := f
    by_cases ht : t = b
    · rw [meanF_same ht]
      refine DW.region ?_
      refine DL.go0 tauOK hE rfl (GStep.move rfl) rfl rfl ?_
      refine DL.go0 tauOK hE rfl (GStep.not rfl) rfl rfl ?_
      refine DL.go0 tauOK hE rfl (GStep.move rfl) rfl rfl ?_
      first | refine DL.skip rfl rfl rfl ?_ | refine DL.go0 tauOK hE rfl (GStep.move rfl) rfl rfl ?_
      first | refine DL.skip rfl rfl rfl ?_ | refine DL.go0 tauOK hE rfl (GStep.move rfl) rfl rfl ?_
      first | refine DL.skip rfl rfl rfl ?_ | refine DL.go0 tauOK hE rfl (G.tr (GStep.binI rfl rfl rfl) (by simp [ht])) rfl rfl ?_
      first | refine DL.go0 tauOK hE rfl (GStep.pickT rfl rfl) rfl rfl ?_ | refine DL.go0 tauOK hE rfl (GStep.pickF rfl rfl) rfl rfl ?_
      refine DL.nil ?_
      refine DW.sub (T' := [(2, _), (3, _), (8, _), (10, _), (26, _)]) (Sub.cons rfl (Sub.cons rfl (Sub.cons rfl (Sub.cons rfl (Sub.cons rfl Sub.nil))))) (Sub.refl _) ?_
      refine DW.condT rfl ?_
      refine DW.seq ?_
      refine DW.region ?_
      refine DL.go0 tauOK hE rfl (G.b00 rfl) rfl rfl ?_
      refine DL.sb2 tauOK rfl rfl rfl rfl rfl rfl rfl ?_
      refine DL.go0 tauOK hE rfl (GStep.assign rfl) rfl rfl ?_
      refine DL.nil ?_
      refine DW.sub (T' := [(8, _), (9, _)]) (Sub.cons rfl (Sub.cons rfl Sub.nil)) (Sub.refl _) ?_
      refine DW.ret ?_
      exact RetD.cv (RV.cell rfl rfl rfl) rfl rfl
    · skip
      rw [meanF_eq hf ht]
      have hsp := betF_span hf
      refine DW.region ?_
      refine DL.go0 tauOK hE rfl (GStep.move rfl) rfl rfl ?_
      refine DL.go0 tauOK hE rfl (GStep.not rfl) rfl rfl ?_
      refine DL.go0 tauOK hE rfl (GStep.move rfl) rfl rfl ?_
      first | refine DL.skip rfl rfl rfl ?_ | refine DL.go0 tauOK hE rfl (GStep.move rfl) rfl rfl ?_
      first | refine DL.skip rfl rfl rfl ?_ | refine DL.go0 tauOK hE rfl (GStep.move rfl) rfl rfl ?_
      first | refine DL.skip rfl rfl rfl ?_ | refine DL.go0 tauOK hE rfl (G.fl (GStep.binI rfl rfl rfl) (by simp [ht])) rfl rfl ?_
      first | refine DL.go0 tauOK hE rfl (GStep.pickT rfl rfl) rfl rfl ?_ | refine DL.go0 tauOK hE rfl (GStep.pickF rfl rfl) rfl rfl ?_
      refine DL.nil ?_
      refine DW.sub (T' := [(2, _), (3, _), (8, _), (10, _), (26, _)]) (Sub.cons rfl (Sub.cons rfl (Sub.cons rfl (Sub.cons rfl (Sub.cons rfl Sub.nil))))) (Sub.refl _) ?_
      refine DW.condF rfl ?_
      refine DW.skip ?_
      refine DW.seq ?_
      refine DW.draw tauOK hE mixed 8 (by kernel_rfl) ?_
      refine DR.go0 rfl (G.lb2 rfl rfl rfl) rfl rfl ?_
      refine DR.go0 rfl (GStep.move rfl) rfl rfl ?_
      refine DR.go0 rfl (GStep.move rfl) rfl rfl ?_
      first | refine DR.go0 rfl (G.sub rfl rfl (by omega)) rfl rfl ?_ | refine DR.go0 rfl (GStep.binI rfl rfl rfl) rfl rfl ?_
      refine DR.go0 rfl (G.call (v := .val _) (news := []) rfl (All2.cons (ArgOf.v rfl) All2.nil) (rfl) rfl rfl) rfl rfl ?_
      refine DR.go0 rfl (G.call (v := .tup [.v _, .v _]) (news := []) rfl (All2.cons (ArgOf.v rfl) (All2.cons (ArgOf.v rfl) All2.nil)) (rfl) rfl rfl) rfl rfl ?_
      refine DR.go0 rfl (GStep.extr rfl rfl) rfl rfl ?_
      refine DR.go0 rfl (GStep.extr rfl rfl) rfl rfl ?_
      refine DR.nil ?_
      refine DL.sb2 tauOK rfl rfl rfl rfl rfl rfl rfl ?_
      refine DL.go0 tauOK hE rfl (GStep.assign rfl) rfl rfl ?_
      refine DL.nil ?_
      refine DW.sub (T' := [(8, _), (9, _)]) (Sub.cons rfl (Sub.cons rfl Sub.nil)) (Sub.refl _) ?_
      refine DW.ret ?_
      exact RetD.cv (RV.cell rfl rfl rfl) rfl rfl
/-! ## Rebinned records -/
def rebL (l a o : List Int) : Nat → Option (List (Int × Int))
  | 0 => some []
  | k + 1 => (rebL l a o k).bind fun r => (betF l a (o.getD k 0) (o.getD (k + 1) 0)).map fun x => r ++ [x]
def rebF (l a o : List Int) : Option (List (Int × Int)) := if recB l a = true ∧ edgesB o = true then rebL l a o (o.length - 1) else none
def rebV (l a o : List Int) : List (Int × Int) := (rebF l a o).getD []
def gReb : List AD → Option RD
  | [.sl .i64 1 _ l, .sl .i64 1 _ a, .sl .i64 1 _ o] => some (.tup [.row 27 2 (rebV l a o).length (flat (rebV l a o)), .v (.bool (rebF l a o).isSome)])
  | _ => none
theorem rebL_none {l a o : List Int} {k n : Nat} (h : rebL l a o k = none) (hk : k ≤ n) : rebL l a o n = none := by
  induction n with
  | zero => obtain rfl : k = 0 := by omega
            exact h
  | succ n ih =>
    by_cases e1 : k = n + 1
    · subst e1; exact h
    · rw [rebL, ih (by omega)]; rfl
theorem rebL_len {l a o : List Int} : ∀ {k : Nat} {r : List (Int × Int)}, rebL l a o k = some r → r.length = k
  | 0, r, h => by simp [rebL] at h; subst h; rfl
  | k + 1, r, h => by
    rw [rebL] at h
    obtain ⟨r', h1, h2⟩ := Option.bind_eq_some_iff.1 h
    obtain ⟨x, h3, rfl⟩ := Option.map_eq_some_iff.1 h2
    simp [rebL_len h1]
theorem rebL_succ {l a o : List Int} {k : Nat} {r : List (Int × Int)} {x : Int × Int} (h : rebL l a o k = some r) (hx : betF l a (o.getD k 0) (o.getD (k + 1) 0) = some x) : rebL l a o (k + 1) = some (r ++ [x]) := by rw [rebL, h, hx]; rfl
theorem rebL_stop {l a o : List Int} {k : Nat} (hx : betF l a (o.getD k 0) (o.getD (k + 1) 0) = none) : rebL l a o (k + 1) = none := by
  rw [rebL, hx]
  cases rebL l a o k <;> rfl
theorem rebF_no {l a o : List Int} (h : ¬ (recB l a = true ∧ edgesB o = true)) : rebF l a o = none := if_neg h
theorem rebF_stop {l a o : List Int} {k : Nat} (hk : k + 1 < o.length) (hx : betF l a (o.getD k 0) (o.getD (k + 1) 0) = none) : rebF l a o = none := by
  unfold rebF
  rw [rebL_none (rebL_stop hx) (show k + 1 ≤ o.length - 1 by omega)]
  split <;> rfl
theorem rebF_end {l a o : List Int} {r : List (Int × Int)} {k : Nat} (ho : edgesB o = true) (hk : k + 1 = o.length) (h : rebL l a o k = some r) : rebF l a o = some r := by
  have hb := edgesB_iff.1 ho
  obtain ⟨j, rfl⟩ : ∃ j, k = j + 1 := ⟨k - 1, by omega⟩
  have hr : recB l a = true := by
    rw [rebL] at h
    obtain ⟨r', h1, h2⟩ := Option.bind_eq_some_iff.1 h
    obtain ⟨x, h3, _⟩ := Option.map_eq_some_iff.1 h2
    exact (betF_span h3).1
  unfold rebF
  rw [if_pos ⟨hr, ho⟩, show o.length - 1 = j + 1 from by omega, h]
theorem rebV_no {l a o : List Int} (h : rebF l a o = none) : rebV l a o = [] := by unfold rebV; rw [h]; rfl
theorem rebV_some {l a o : List Int} {r : List (Int × Int)} (h : rebF l a o = some r) : rebV l a o = r := by unfold rebV; rw [h]; rfl
theorem recordRebin_di : DFun Try.prog 30 gReb := by
  have hE : EnvOK Try.prog [(40, gValid), (53, gEdges), (15, gBet)] := EnvOK.cons recordValid_di (EnvOK.cons edges_di (EnvOK.cons recordBetween_di EnvOK.nil))
  refine DFun.of tauOK (fn := Try.f30) Try.func30 rfl (by kernel_rfl) rfl rfl ?_
  intro C ds r hg hl
  unfold gReb at hg
  split at hg
  case h_2 => cases hg
  rename_i n l m a q o
  cases hg
  refine ⟨by simp, ?_⟩
  obtain ⟨hn, hm, hn', hm', hn2, hm2, _⟩ := hl
  obtain rfl : n = l.length := by omega
  obtain rfl : m = a.length := by omega
  obtain rfl : q = o.length := by omega
  clear hn hn' hn2
  refine DW.seq ?_
  refine DW.region ?_
  refine DL.go0 tauOK hE rfl (GStep.assign rfl) rfl rfl ?_
  refine DL.go0 tauOK hE rfl (GStep.assign rfl) rfl rfl ?_
  refine DL.nil ?_
  refine DW.sub (T' := [(0, _), (1, _), (2, _)]) (Sub.cons rfl (Sub.cons rfl (Sub.cons rfl Sub.nil))) (Sub.refl _) ?_
  refine DW.seq ?_
  refine DW.cut 20 (!recB l a || !edgesB o) [0, 1, 2] ?_ ?_
  · cases hc1 : recB l a <;> cases hc2 : edgesB o <;> (
      (try have q_hc1 := of_decide_eq_true hc1); (try have q_hc1 := of_decide_eq_false hc1)
      (try have q_hc2 := of_decide_eq_true hc2); (try have q_hc2 := of_decide_eq_false hc2)
      refine DW.region ?_
      refine DL.go0 tauOK hE rfl (GStep.move rfl) rfl rfl ?_
      refine DL.go0 tauOK hE rfl (GStep.move rfl) rfl rfl ?_
      refine DL.go0 tauOK hE rfl (G.call (v := .val _) (news := []) rfl (All2.cons (ArgOf.ro rfl rfl (by simp [flat_len])) (All2.cons (ArgOf.ro rfl rfl (by simp [flat_len])) All2.nil)) (rfl) rfl rfl) rfl rfl ?_
      try rw [hc1]
      try rw [hc2]
      refine DL.go0 tauOK hE rfl (GStep.not rfl) rfl rfl ?_
      refine DL.go0 tauOK hE rfl (GStep.move rfl) rfl rfl ?_
      first | refine DL.skip rfl rfl rfl ?_ | refine DL.go0 tauOK hE rfl (GStep.move rfl) rfl rfl ?_
      first | refine DL.skip rfl rfl rfl ?_ | refine DL.go0 tauOK hE rfl (G.call (v := .val _) (news := []) rfl (All2.cons (ArgOf.ro rfl rfl (by simp [flat_len])) All2.nil) (rfl) rfl rfl) rfl rfl ?_
      try rw [hc1]
      try rw [hc2]
      first | refine DL.skip rfl rfl rfl ?_ | refine DL.go0 tauOK hE rfl (GStep.not rfl) rfl rfl ?_
      first | refine DL.go0 tauOK hE rfl (GStep.pickT rfl rfl) rfl rfl ?_ | refine DL.go0 tauOK hE rfl (GStep.pickF rfl rfl) rfl rfl ?_
      refine DL.nil ?_
      exact ⟨rfl, _, rfl, by simp [hc1, hc2], SubK.cons rfl (SubK.cons rfl (SubK.cons rfl (SubK.nil))), Sub.refl _⟩)
  refine DW.sub (T' := [(0, _), (1, _), (2, _), (20, _)]) (Sub.cons rfl (Sub.cons rfl (Sub.cons rfl (Sub.cons rfl Sub.nil)))) (Sub.refl _) ?_
  refine DW.cond rfl (fun hb => ?_) (fun hb => ?_)
  · skip
    have e : rebF l a o = none := rebF_no (fun h => by simp [h.1, h.2] at hb)
    rw [rebV_no e, e]
    refine DW.seq ?_
    refine DW.region ?_
    refine DL.go0 tauOK hE rfl (GStep.assign rfl) rfl rfl ?_
    refine DL.go0 tauOK hE rfl (GStep.assign rfl) rfl rfl ?_
    refine DL.nil ?_
    refine DW.sub (T' := [(6, _), (7, _)]) (Sub.cons rfl (Sub.cons rfl Sub.nil)) (Sub.refl _) ?_
    refine DW.ret ?_
    exact RetD.nv rfl (by omega) rfl rfl
  · skip
    simp at hb
    obtain ⟨hr, ho⟩ := hb
    have hob := edgesB_iff.1 ho
    refine DW.skip ?_
    refine DW.seq ?_
    refine DW.region ?_
    refine DL.go0 tauOK hE rfl (GStep.assign rfl) rfl rfl ?_
    refine DL.nil ?_
    refine DW.sub (T' := [(0, _), (1, _), (2, _), (8, _)]) (Sub.cons rfl (Sub.cons rfl (Sub.cons rfl (Sub.cons rfl Sub.nil)))) (Sub.refl _) ?_
    refine DW.seq ?_
    refine DW.seq ?_
    refine DW.region ?_
    refine DL.go0 tauOK hE rfl (GStep.assign rfl) rfl rfl ?_
    refine DL.nil ?_
    refine DW.sub (T' := [(0, _), (1, _), (2, _), (8, _), (9, _)]) (Sub.cons rfl (Sub.cons rfl (Sub.cons rfl (Sub.cons rfl (Sub.cons rfl Sub.nil))))) (Sub.refl _) ?_
    refine DW.nil 8 508 27 2 (by omega) rfl rfl ?_
    refine DW.block ?_
    refine DW.loop (α := Nat × List (Int × Int)) (fun (k, r) => [(0, .sl 0 0 l.length), (1, .sl 1 0 a.length), (2, .sl 2 0 o.length), (8, .sl 508 0 k), (9, .val (.int .i64 ((k : Nat) + 1)))]) (fun (k, r) => [(0, .ro .i64 1 l), (1, .ro .i64 1 a), (2, .ro .i64 1 o), (508, .row 27 2 (flat r))]) (fun (k, r) => k + 1 ≤ o.length ∧ rebL l a o k = some r ∧ r.length = k) (fun (k, r) => o.length - k) (0, []) (⟨by omega, rfl, rfl⟩) (Sub.cons rfl (Sub.cons rfl (Sub.cons rfl (Sub.cons rfl (Sub.cons rfl Sub.nil))))) (Sub.cons rfl (Sub.cons rfl (Sub.cons rfl (Sub.cons rfl Sub.nil)))) ?_
    rintro ⟨k, r⟩ ⟨hk, hs, hrl⟩
    skip
    dsimp only
    refine DW.seq ?_
    refine DW.seq ?_
    refine DW.region ?_
    refine DL.go0 tauOK hE rfl (GStep.move rfl) rfl rfl ?_
    refine DL.go0 tauOK hE rfl (GStep.move rfl) rfl rfl ?_
    first | refine DL.go0 tauOK hE rfl (GStep.len rfl rfl rfl) rfl rfl ?_ | refine DL.go0 tauOK hE rfl (GStep.lenNil rfl rfl) rfl rfl ?_
    refine DL.go0 tauOK hE rfl (GStep.binI rfl rfl rfl) rfl rfl ?_
    refine DL.nil ?_
    refine DW.sub (T' := [(0, _), (1, _), (2, _), (8, _), (9, _), (24, _)]) (Sub.cons rfl (Sub.cons rfl (Sub.cons rfl (Sub.cons rfl (Sub.cons rfl (Sub.cons rfl Sub.nil)))))) (Sub.refl _) ?_
    refine DW.cond rfl (fun hlt => ?_) (fun hlt => ?_)
    · skip
      have hlt : k + 1 < o.length := by simp at hlt; omega
      refine DW.skip ?_
      refine DW.seq ?_
      refine DW.block ?_
      refine DW.seq ?_
      refine DW.draw tauOK hE mixed 16 (by kernel_rfl) ?_
      refine DR.go0 rfl (GStep.move rfl) rfl rfl ?_
      refine DR.go0 rfl (GStep.move rfl) rfl rfl ?_
      refine DR.go0 rfl (GStep.move rfl) rfl rfl ?_
      refine DR.go0 rfl (GStep.move rfl) rfl rfl ?_
      first | refine DR.go0 rfl (G.sub rfl rfl (by omega)) rfl rfl ?_ | refine DR.go0 rfl (GStep.binI rfl rfl rfl) rfl rfl ?_
      refine DR.go0 rfl (G.ia1 (i := k) rfl rfl rfl rfl rfl rfl (by omega) (by omega)) rfl rfl ?_
      first | refine DR.go0 rfl (G.le1r rfl rfl rfl (by omega)) rfl rfl ?_ | refine DR.go0 rfl (G.le1w rfl rfl rfl (by omega)) rfl rfl ?_
      refine DR.go0 rfl (GStep.move rfl) rfl rfl ?_
      refine DR.go0 rfl (GStep.move rfl) rfl rfl ?_
      refine DR.go0 rfl (G.ia1 (i := k + 1) rfl rfl rfl rfl rfl rfl (by omega) (by omega)) rfl rfl ?_
      first | refine DR.go0 rfl (G.le1r rfl rfl rfl (by omega)) rfl rfl ?_ | refine DR.go0 rfl (G.le1w rfl rfl rfl (by omega)) rfl rfl ?_
      refine DR.go0 rfl (G.call (v := .tup [.v _, .v _]) (news := []) rfl (All2.cons (ArgOf.ro rfl rfl (by simp [flat_len])) (All2.cons (ArgOf.ro rfl rfl (by simp [flat_len])) (All2.cons (ArgOf.v rfl) (All2.cons (ArgOf.v rfl) All2.nil)))) (rfl) rfl rfl) rfl rfl ?_
      refine DR.go0 rfl (GStep.move rfl) rfl rfl ?_
      refine DR.go0 rfl (GStep.extr rfl rfl) rfl rfl ?_
      refine DR.go0 rfl (GStep.extr rfl rfl) rfl rfl ?_
      refine DR.go1 rfl (GStep.alloc2 rfl) rfl rfl rfl ?_
      refine DR.nil ?_
      refine DL.sb2 tauOK rfl rfl rfl rfl rfl rfl rfl ?_
      refine DL.go0 tauOK hE rfl (GStep.assign rfl) rfl rfl ?_
      refine DL.nil ?_
      refine DW.sub (T' := [(0, _), (1, _), (2, _), (8, _), (9, _), (10, _), (11, _)]) (Sub.cons rfl (Sub.cons rfl (Sub.cons rfl (Sub.cons rfl (Sub.cons rfl (Sub.cons rfl (Sub.cons rfl Sub.nil))))))) (Sub.refl _) ?_
      cases hf : betF l a (o.getD k 0) (o.getD (k + 1) 0)
      · skip
        have e := rebF_stop hlt hf
        rw [rebV_no e, e]
        refine DW.seq ?_
        refine DW.seq ?_
        refine DW.region ?_
        refine DL.go0 tauOK hE rfl (GStep.move rfl) rfl rfl ?_
        refine DL.go0 tauOK hE rfl (GStep.not rfl) rfl rfl ?_
        refine DL.nil ?_
        refine DW.sub (T' := [(0, _), (1, _), (2, _), (8, _), (9, _), (10, _), (43, _)]) (Sub.cons rfl (Sub.cons rfl (Sub.cons rfl (Sub.cons rfl (Sub.cons rfl (Sub.cons rfl (Sub.cons rfl Sub.nil))))))) (Sub.refl _) ?_
        refine DW.condT rfl ?_
        refine DW.seq ?_
        refine DW.region ?_
        refine DL.go0 tauOK hE rfl (GStep.assign rfl) rfl rfl ?_
        refine DL.go0 tauOK hE rfl (GStep.assign rfl) rfl rfl ?_
        refine DL.nil ?_
        refine DW.sub (T' := [(6, _), (7, _)]) (Sub.cons rfl (Sub.cons rfl Sub.nil)) (Sub.refl _) ?_
        refine DW.ret ?_
        exact RetD.nv rfl (by omega) rfl rfl
      · skip
        rename_i f
        obtain ⟨f1, f2⟩ := f
        refine DW.seq ?_
        refine DW.seq ?_
        refine DW.region ?_
        refine DL.go0 tauOK hE rfl (GStep.move rfl) rfl rfl ?_
        refine DL.go0 tauOK hE rfl (GStep.not rfl) rfl rfl ?_
        refine DL.nil ?_
        refine DW.sub (T' := [(0, _), (1, _), (2, _), (8, _), (9, _), (10, _), (43, _)]) (Sub.cons rfl (Sub.cons rfl (Sub.cons rfl (Sub.cons rfl (Sub.cons rfl (Sub.cons rfl (Sub.cons rfl Sub.nil))))))) (Sub.refl _) ?_
        refine DW.condF rfl ?_
        refine DW.skip ?_
        refine DW.region ?_
        refine DL.go0 tauOK hE rfl (GStep.move rfl) rfl rfl ?_
        refine DL.go0 tauOK hE rfl (G.lb2 rfl rfl rfl) rfl rfl ?_
        refine DL.go1 tauOK hE rfl (G.bs1p rfl rfl rfl) rfl rfl rfl ?_
        refine DL.app2 tauOK [(0, _), (1, _), (2, _), (9, _)] rfl rfl rfl rfl rfl rfl rfl rfl (hrl) rfl rfl rfl (by omega) (Sub.cons rfl (Sub.cons rfl (Sub.cons rfl (Sub.cons rfl Sub.nil)))) rfl ?_
        refine DL.go0 tauOK hE rfl (GStep.assign rfl) rfl rfl ?_
        refine DL.nil ?_
        refine DW.sub (T' := [(0, _), (1, _), (2, _), (8, _), (9, _)]) (Sub.cons rfl (Sub.cons rfl (Sub.cons rfl (Sub.cons rfl (Sub.cons rfl Sub.nil))))) (Sub.refl _) ?_
        refine DW.region ?_
        refine DL.go0 tauOK hE rfl (GStep.move rfl) rfl rfl ?_
        first | refine DL.go0 tauOK hE rfl (G.add rfl rfl (by omega)) rfl rfl ?_ | refine DL.go0 tauOK hE rfl (GStep.binI rfl rfl rfl) rfl rfl ?_
        refine DL.go0 tauOK hE rfl (GStep.assign rfl) rfl rfl ?_
        refine DL.nil ?_
        refine ⟨(k + 1, r ++ [(f1, f2)]), ⟨hlt, rebL_succ hs hf, by simp [hrl]⟩, by first | omega | (dsimp only; omega), ?_, ?_⟩
        · exact Sub.cons rfl (Sub.cons rfl (Sub.cons rfl (Sub.cons rfl (Sub.cons rfl Sub.nil))))
        · exact Sub.cons rfl (Sub.cons rfl (Sub.cons rfl (Sub.cons rfl Sub.nil)))
    · skip
      have hlt : k + 1 = o.length := by simp at hlt; omega
      refine DW.exit ?_
      subst hrl
      have e := rebF_end ho hlt hs
      rw [rebV_some e, e]
      refine DW.seq ?_
      refine DW.region ?_
      refine DL.go0 tauOK hE rfl (GStep.move rfl) rfl rfl ?_
      refine DL.go0 tauOK hE rfl (GStep.assign rfl) rfl rfl ?_
      refine DL.go0 tauOK hE rfl (GStep.assign rfl) rfl rfl ?_
      refine DL.nil ?_
      refine DW.sub (T' := [(6, _), (7, _)]) (Sub.cons rfl (Sub.cons rfl Sub.nil)) (Sub.refl _) ?_
      refine DW.ret ?_
      exact RetD.sv rfl rfl (by simp [flat_len]) (by omega) rfl rfl
theorem recordRebin_ds : DFun Try.prog 31 gReb := by
  have hE : EnvOK Try.prog [(54, gEdges), (16, gBet)] := EnvOK.cons edges_ds (EnvOK.cons recordBetween_ds EnvOK.nil)
  refine DFun.of tauOK (fn := Try.f31) Try.func31 rfl (by kernel_rfl) rfl rfl ?_
  intro C ds r hg hl
  unfold gReb at hg
  split at hg
  case h_2 => cases hg
  rename_i n l m a q o
  cases hg
  refine ⟨by simp, ?_⟩
  obtain ⟨hn, hm, hn', hm', hn2, hm2, _⟩ := hl
  obtain rfl : n = l.length := by omega
  obtain rfl : m = a.length := by omega
  obtain rfl : q = o.length := by omega
  clear hn hn' hn2
  refine DW.seq ?_
  refine DW.region ?_
  refine DL.go0 tauOK hE rfl (GStep.assign rfl) rfl rfl ?_
  refine DL.go0 tauOK hE rfl (GStep.assign rfl) rfl rfl ?_
  refine DL.nil ?_
  refine DW.sub (T' := [(0, _), (1, _), (2, _)]) (Sub.cons rfl (Sub.cons rfl (Sub.cons rfl Sub.nil))) (Sub.refl _) ?_
  refine DW.seq ?_
  refine DW.region ?_
  refine DL.go1 tauOK hE rfl (G.bs0p rfl rfl) rfl rfl rfl ?_
  refine DL.go0 tauOK hE rfl (GStep.assign rfl) rfl rfl ?_
  refine DL.nil ?_
  refine DW.sub (T' := [(0, _), (1, _), (2, _), (8, _)]) (Sub.cons rfl (Sub.cons rfl (Sub.cons rfl (Sub.cons rfl Sub.nil)))) (Sub.refl _) ?_
  refine DW.seq ?_
  refine DW.seq ?_
  refine DW.region ?_
  refine DL.go0 tauOK hE rfl (GStep.move rfl) rfl rfl ?_
  refine DL.go0 tauOK hE rfl (G.call (v := .val _) (news := []) rfl (All2.cons (ArgOf.ro rfl rfl (by simp [flat_len])) All2.nil) (rfl) rfl rfl) rfl rfl ?_
  refine DL.go0 tauOK hE rfl (GStep.not rfl) rfl rfl ?_
  refine DL.nil ?_
  refine DW.sub (T' := [(0, _), (1, _), (2, _), (8, _), (15, _)]) (Sub.cons rfl (Sub.cons rfl (Sub.cons rfl (Sub.cons rfl (Sub.cons rfl Sub.nil))))) (Sub.refl _) ?_
  refine DW.cond rfl (fun hb => ?_) (fun hb => ?_)
  · skip
    have e : rebF l a o = none := rebF_no (fun h => by simp [h.2] at hb)
    rw [rebV_no e, e]
    refine DW.seq ?_
    refine DW.region ?_
    refine DL.go0 tauOK hE rfl (GStep.move rfl) rfl rfl ?_
    refine DL.go0 tauOK hE rfl (GStep.assign rfl) rfl rfl ?_
    refine DL.go0 tauOK hE rfl (GStep.assign rfl) rfl rfl ?_
    refine DL.nil ?_
    refine DW.sub (T' := [(6, _), (7, _)]) (Sub.cons rfl (Sub.cons rfl Sub.nil)) (Sub.refl _) ?_
    refine DW.ret ?_
    exact RetD.sv rfl rfl rfl (by omega) rfl rfl
  · skip
    have ho : edgesB o = true := by simpa using hb
    have hob := edgesB_iff.1 ho
    refine DW.skip ?_
    refine DW.seq ?_
    refine DW.seq ?_
    refine DW.region ?_
    refine DL.go0 tauOK hE rfl (GStep.assign rfl) rfl rfl ?_
    refine DL.nil ?_
    refine DW.sub (T' := [(0, _), (1, _), (2, _), (8, _), (9, _)]) (Sub.cons rfl (Sub.cons rfl (Sub.cons rfl (Sub.cons rfl (Sub.cons rfl Sub.nil))))) (Sub.refl _) ?_
    refine DW.block ?_
    refine DW.loop (α := Nat × List (Int × Int)) (fun (k, r) => [(0, .sl 0 0 l.length), (1, .sl 1 0 a.length), (2, .sl 2 0 o.length), (8, .sl 12 0 k), (9, .val (.int .i64 ((k : Nat) + 1)))]) (fun (k, r) => [(0, .ro .i64 1 l), (1, .ro .i64 1 a), (2, .ro .i64 1 o), (12, .row 27 2 (flat r))]) (fun (k, r) => k + 1 ≤ o.length ∧ rebL l a o k = some r ∧ r.length = k) (fun (k, r) => o.length - k) (0, []) (⟨by omega, rfl, rfl⟩) (Sub.cons rfl (Sub.cons rfl (Sub.cons rfl (Sub.cons rfl (Sub.cons rfl Sub.nil))))) (Sub.cons rfl (Sub.cons rfl (Sub.cons rfl (Sub.cons rfl Sub.nil)))) ?_
    rintro ⟨k, r⟩ ⟨hk, hs, hrl⟩
    skip
    dsimp only
    refine DW.seq ?_
    refine DW.seq ?_
    refine DW.region ?_
    refine DL.go0 tauOK hE rfl (GStep.move rfl) rfl rfl ?_
    refine DL.go0 tauOK hE rfl (GStep.move rfl) rfl rfl ?_
    first | refine DL.go0 tauOK hE rfl (GStep.len rfl rfl rfl) rfl rfl ?_ | refine DL.go0 tauOK hE rfl (GStep.lenNil rfl rfl) rfl rfl ?_
    refine DL.go0 tauOK hE rfl (GStep.binI rfl rfl rfl) rfl rfl ?_
    refine DL.nil ?_
    refine DW.sub (T' := [(0, _), (1, _), (2, _), (8, _), (9, _), (20, _)]) (Sub.cons rfl (Sub.cons rfl (Sub.cons rfl (Sub.cons rfl (Sub.cons rfl (Sub.cons rfl Sub.nil)))))) (Sub.refl _) ?_
    refine DW.cond rfl (fun hlt => ?_) (fun hlt => ?_)
    · skip
      have hlt : k + 1 < o.length := by simp at hlt; omega
      refine DW.skip ?_
      refine DW.seq ?_
      refine DW.block ?_
      refine DW.seq ?_
      refine DW.draw tauOK hE mixed 16 (by kernel_rfl) ?_
      refine DR.go0 rfl (GStep.move rfl) rfl rfl ?_
      refine DR.go0 rfl (GStep.move rfl) rfl rfl ?_
      refine DR.go0 rfl (GStep.move rfl) rfl rfl ?_
      refine DR.go0 rfl (GStep.move rfl) rfl rfl ?_
      first | refine DR.go0 rfl (G.sub rfl rfl (by omega)) rfl rfl ?_ | refine DR.go0 rfl (GStep.binI rfl rfl rfl) rfl rfl ?_
      refine DR.go0 rfl (G.ia1 (i := k) rfl rfl rfl rfl rfl rfl (by omega) (by omega)) rfl rfl ?_
      first | refine DR.go0 rfl (G.le1r rfl rfl rfl (by omega)) rfl rfl ?_ | refine DR.go0 rfl (G.le1w rfl rfl rfl (by omega)) rfl rfl ?_
      refine DR.go0 rfl (GStep.move rfl) rfl rfl ?_
      refine DR.go0 rfl (GStep.move rfl) rfl rfl ?_
      refine DR.go0 rfl (G.ia1 (i := k + 1) rfl rfl rfl rfl rfl rfl (by omega) (by omega)) rfl rfl ?_
      first | refine DR.go0 rfl (G.le1r rfl rfl rfl (by omega)) rfl rfl ?_ | refine DR.go0 rfl (G.le1w rfl rfl rfl (by omega)) rfl rfl ?_
      refine DR.go0 rfl (G.call (v := .tup [.v _, .v _]) (news := []) rfl (All2.cons (ArgOf.ro rfl rfl (by simp [flat_len])) (All2.cons (ArgOf.ro rfl rfl (by simp [flat_len])) (All2.cons (ArgOf.v rfl) (All2.cons (ArgOf.v rfl) All2.nil)))) (rfl) rfl rfl) rfl rfl ?_
      refine DR.go0 rfl (GStep.move rfl) rfl rfl ?_
      refine DR.go0 rfl (GStep.extr rfl rfl) rfl rfl ?_
      refine DR.go0 rfl (GStep.extr rfl rfl) rfl rfl ?_
      refine DR.go1 rfl (GStep.alloc2 rfl) rfl rfl rfl ?_
      refine DR.nil ?_
      refine DL.sb2 tauOK rfl rfl rfl rfl rfl rfl rfl ?_
      refine DL.go0 tauOK hE rfl (GStep.assign rfl) rfl rfl ?_
      refine DL.nil ?_
      refine DW.sub (T' := [(0, _), (1, _), (2, _), (8, _), (9, _), (10, _), (11, _)]) (Sub.cons rfl (Sub.cons rfl (Sub.cons rfl (Sub.cons rfl (Sub.cons rfl (Sub.cons rfl (Sub.cons rfl Sub.nil))))))) (Sub.refl _) ?_
      cases hf : betF l a (o.getD k 0) (o.getD (k + 1) 0)
      · skip
        have e := rebF_stop hlt hf
        rw [rebV_no e, e]
        refine DW.seq ?_
        refine DW.seq ?_
        refine DW.region ?_
        refine DL.go0 tauOK hE rfl (GStep.move rfl) rfl rfl ?_
        refine DL.go0 tauOK hE rfl (GStep.not rfl) rfl rfl ?_
        refine DL.nil ?_
        refine DW.sub (T' := [(0, _), (1, _), (2, _), (8, _), (9, _), (10, _), (39, _)]) (Sub.cons rfl (Sub.cons rfl (Sub.cons rfl (Sub.cons rfl (Sub.cons rfl (Sub.cons rfl (Sub.cons rfl Sub.nil))))))) (Sub.refl _) ?_
        refine DW.condT rfl ?_
        refine DW.seq ?_
        refine DW.region ?_
        refine DL.go1 tauOK hE rfl (G.bs0p rfl rfl) rfl rfl rfl ?_
        refine DL.go0 tauOK hE rfl (GStep.assign rfl) rfl rfl ?_
        refine DL.go0 tauOK hE rfl (GStep.assign rfl) rfl rfl ?_
        refine DL.nil ?_
        refine DW.sub (T' := [(6, _), (7, _)]) (Sub.cons rfl (Sub.cons rfl Sub.nil)) (Sub.refl _) ?_
        refine DW.ret ?_
        exact RetD.sv rfl rfl rfl (by omega) rfl rfl
      · skip
        rename_i f
        obtain ⟨f1, f2⟩ := f
        refine DW.seq ?_
        refine DW.seq ?_
        refine DW.region ?_
        refine DL.go0 tauOK hE rfl (GStep.move rfl) rfl rfl ?_
        refine DL.go0 tauOK hE rfl (GStep.not rfl) rfl rfl ?_
        refine DL.nil ?_
        refine DW.sub (T' := [(0, _), (1, _), (2, _), (8, _), (9, _), (10, _), (39, _)]) (Sub.cons rfl (Sub.cons rfl (Sub.cons rfl (Sub.cons rfl (Sub.cons rfl (Sub.cons rfl (Sub.cons rfl Sub.nil))))))) (Sub.refl _) ?_
        refine DW.condF rfl ?_
        refine DW.skip ?_
        refine DW.region ?_
        refine DL.go0 tauOK hE rfl (GStep.move rfl) rfl rfl ?_
        refine DL.go0 tauOK hE rfl (G.lb2 rfl rfl rfl) rfl rfl ?_
        refine DL.go1 tauOK hE rfl (G.bs1p rfl rfl rfl) rfl rfl rfl ?_
        refine DL.app2 tauOK [(0, _), (1, _), (2, _), (9, _)] rfl rfl rfl rfl rfl rfl rfl rfl (hrl) rfl rfl rfl (by omega) (Sub.cons rfl (Sub.cons rfl (Sub.cons rfl (Sub.cons rfl Sub.nil)))) rfl ?_
        refine DL.go0 tauOK hE rfl (GStep.assign rfl) rfl rfl ?_
        refine DL.nil ?_
        refine DW.sub (T' := [(0, _), (1, _), (2, _), (8, _), (9, _)]) (Sub.cons rfl (Sub.cons rfl (Sub.cons rfl (Sub.cons rfl (Sub.cons rfl Sub.nil))))) (Sub.refl _) ?_
        refine DW.region ?_
        refine DL.go0 tauOK hE rfl (GStep.move rfl) rfl rfl ?_
        first | refine DL.go0 tauOK hE rfl (G.add rfl rfl (by omega)) rfl rfl ?_ | refine DL.go0 tauOK hE rfl (GStep.binI rfl rfl rfl) rfl rfl ?_
        refine DL.go0 tauOK hE rfl (GStep.assign rfl) rfl rfl ?_
        refine DL.nil ?_
        refine ⟨(k + 1, r ++ [(f1, f2)]), ⟨hlt, rebL_succ hs hf, by simp [hrl]⟩, by first | omega | (dsimp only; omega), ?_, ?_⟩
        · exact Sub.cons rfl (Sub.cons rfl (Sub.cons rfl (Sub.cons rfl (Sub.cons rfl Sub.nil))))
        · exact Sub.cons rfl (Sub.cons rfl (Sub.cons rfl (Sub.cons rfl Sub.nil)))
    · skip
      have hlt : k + 1 = o.length := by simp at hlt; omega
      refine DW.exit ?_
      subst hrl
      have e := rebF_end ho hlt hs
      rw [rebV_some e, e]
      refine DW.seq ?_
      refine DW.region ?_
      refine DL.go0 tauOK hE rfl (GStep.move rfl) rfl rfl ?_
      refine DL.go0 tauOK hE rfl (GStep.assign rfl) rfl rfl ?_
      refine DL.go0 tauOK hE rfl (GStep.assign rfl) rfl rfl ?_
      refine DL.nil ?_
      refine DW.sub (T' := [(6, _), (7, _)]) (Sub.cons rfl (Sub.cons rfl Sub.nil)) (Sub.refl _) ?_
      refine DW.ret ?_
      exact RetD.sv rfl rfl (by simp [flat_len]) (by omega) rfl rfl
end Go.Proofs.Ytlhkdgkaafhehaa
