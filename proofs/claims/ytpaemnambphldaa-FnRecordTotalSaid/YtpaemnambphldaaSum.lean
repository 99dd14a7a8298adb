/-
  The statements' own sum of a list.
-/
import Derived.Test.YtpaemnambphldaaLawH
namespace Go.Proofs.Ytpaemnambphldaa
open Go.RowKit
set_option linter.unusedVariables false
set_option linter.unusedSimpArgs false

def amtB (l : List Int) : Bool := decide (l.length ≤ 1048576) && l.all fun z => decide (0 ≤ z) && decide (z ≤ 1000000)
theorem amtB_iff {l : List Int} : amtB l = true ↔ l.length ≤ 1048576 ∧ ∀ z ∈ l, 0 ≤ z ∧ z ≤ 1000000 := by simp [amtB]
def gSum : List AD → Option RD
  | [.sl .i64 1 _ l] => if amtB l = true then some (.one (.v (.int .i64 l.sum))) else none
  | _ => none
theorem sum_take_bd {l : List Int} (h : ∀ z ∈ l, 0 ≤ z ∧ z ≤ 1000000) : ∀ k, 0 ≤ (l.take k).sum ∧ (l.take k).sum ≤ 1000000 * l.length := by
  induction l with
  | nil => intro k; simp
  | cons x l ih =>
    intro k
    cases k with
    | zero => simp; omega
    | succ k =>
      have h1 := h x (by simp)
      have h2 := ih (fun z hz => h z (List.mem_cons_of_mem _ hz)) k
      simp only [List.take_succ_cons, List.sum_cons, List.length_cons]
      omega
theorem sum_take_succ {l : List Int} {k : Nat} (h : k < l.length) : (l.take (k + 1)).sum = (l.take k).sum + l.getD k 0 := by
  have e : l.getD k 0 = l[k] := by simp [List.getD_eq_getElem?_getD, List.getElem?_eq_getElem h]
  rw [List.take_succ_eq_append_getElem h, List.sum_append, e]
  simp only [List.sum_cons, List.sum_nil, Int.add_zero]
theorem mem_getD {l : List Int} {k : Nat} (h : k < l.length) : l.getD k 0 ∈ l := by
  simp [List.getD_eq_getElem?_getD, List.getElem?_eq_getElem h]
theorem sumOf_dl : DFun Try.prog 28 gSum := by
  have hE : EnvOK Try.prog [] := EnvOK.nil
  refine DFun.of tauOK (fn := Try.f28) Try.func28 rfl (by kernel_rfl) rfl rfl ?_
  intro C ds r hg hl
  unfold gSum at hg
  split at hg
  case h_2 => cases hg
  rename_i n l
  split at hg
  case isFalse => cases hg
  rename_i hsm
  cases hg
  refine ⟨by simp, ?_⟩
  obtain ⟨hlen, hall⟩ := amtB_iff.1 hsm
  obtain ⟨hn, hm, _⟩ := hl
  obtain rfl : n = l.length := by omega
  clear hn
  refine DW.seq ?_
  refine DW.region ?_
  refine DL.go0 tauOK hE rfl (GStep.assign rfl) rfl rfl ?_
  refine DL.nil ?_
  refine DW.sub (T' := [(0, _)]) (Sub.cons rfl Sub.nil) (Sub.refl _) ?_
  refine DW.seq ?_
  refine DW.region ?_
  refine DL.go0 tauOK hE rfl (GStep.assign rfl) rfl rfl ?_
  refine DL.nil ?_
  refine DW.sub (T' := [(0, _), (3, _)]) (Sub.cons rfl (Sub.cons rfl Sub.nil)) (Sub.refl _) ?_
  refine DW.seq ?_
  refine DW.seq ?_
  refine DW.region ?_
  refine DL.go0 tauOK hE rfl (GStep.assign rfl) rfl rfl ?_
  refine DL.nil ?_
  refine DW.sub (T' := [(0, _), (3, _), (4, _)]) (Sub.cons rfl (Sub.cons rfl (Sub.cons rfl Sub.nil))) (Sub.refl _) ?_
  refine DW.block ?_
  refine DW.loop (α := Nat × Int) (fun (k, s) => [(0, .sl 0 0 l.length), (3, .val (.int .i64 s)), (4, .val (.int .i64 (k : Nat)))]) (fun (k, s) => [(0, .ro .i64 1 l)]) (fun (k, s) => k ≤ l.length ∧ s = (l.take k).sum) (fun (k, s) => l.length - k) (0, 0) (⟨by omega, by simp⟩) (Sub.cons rfl (Sub.cons rfl (Sub.cons rfl Sub.nil))) (Sub.cons rfl Sub.nil) ?_
  rintro ⟨k, s⟩ ⟨hk, hs⟩
  skip
  refine DW.seq ?_
  refine DW.seq ?_
  refine DW.region ?_
  refine DL.go0 tauOK hE rfl (GStep.move rfl) rfl rfl ?_
  refine DL.go0 tauOK hE rfl (GStep.move rfl) rfl rfl ?_
  first | refine DL.go0 tauOK hE rfl (GStep.len rfl rfl rfl) rfl rfl ?_ | refine DL.go0 tauOK hE rfl (GStep.lenNil rfl rfl) rfl rfl ?_
  refine DL.go0 tauOK hE rfl (GStep.binI rfl rfl rfl) rfl rfl ?_
  refine DL.nil ?_
  refine DW.sub (T' := [(0, _), (3, _), (4, _), (8, _)]) (Sub.cons rfl (Sub.cons rfl (Sub.cons rfl (Sub.cons rfl Sub.nil)))) (Sub.refl _) ?_
  refine DW.cond rfl (fun hlt => ?_) (fun hlt => ?_)
  · skip
    have hlt : k < l.length := by simpa using hlt
    have h1 := sum_take_bd hall k
    have h2 := hall _ (mem_getD hlt)
    refine DW.skip ?_
    refine DW.seq ?_
    refine DW.block ?_
    refine DW.region ?_
    refine DL.go0 tauOK hE rfl (GStep.move rfl) rfl rfl ?_
    refine DL.go0 tauOK hE rfl (GStep.move rfl) rfl rfl ?_
    refine DL.go0 tauOK hE rfl (GStep.move rfl) rfl rfl ?_
    refine DL.go0 tauOK hE rfl (G.ia1 rfl rfl rfl rfl rfl rfl rfl (by omega)) rfl rfl ?_
    first | refine DL.go0 tauOK hE rfl (G.le1r rfl rfl rfl (by omega)) rfl rfl ?_ | refine DL.go0 tauOK hE rfl (G.le1w rfl rfl rfl (by omega)) rfl rfl ?_
    first | refine DL.go0 tauOK hE rfl (G.add rfl rfl (by omega)) rfl rfl ?_ | refine DL.go0 tauOK hE rfl (GStep.binI rfl rfl rfl) rfl rfl ?_
    refine DL.go0 tauOK hE rfl (GStep.assign rfl) rfl rfl ?_
    refine DL.nil ?_
    refine DW.sub (T' := [(0, _), (3, _), (4, _)]) (Sub.cons rfl (Sub.cons rfl (Sub.cons rfl Sub.nil))) (Sub.refl _) ?_
    refine DW.region ?_
    refine DL.go0 tauOK hE rfl (GStep.move rfl) rfl rfl ?_
    first | refine DL.go0 tauOK hE rfl (G.add rfl rfl (by omega)) rfl rfl ?_ | refine DL.go0 tauOK hE rfl (GStep.binI rfl rfl rfl) rfl rfl ?_
    refine DL.go0 tauOK hE rfl (GStep.assign rfl) rfl rfl ?_
    refine DL.nil ?_
    refine ⟨(k + 1, s + l.getD k 0), ⟨hlt, by rw [sum_take_succ hlt, ← hs]⟩, by first | omega | (dsimp only; omega), ?_, ?_⟩
    · exact Sub.cons rfl (Sub.cons rfl (Sub.cons rfl Sub.nil))
    · exact Sub.cons rfl Sub.nil
  · skip
    have hlt : k = l.length := by simp at hlt; omega
    subst hlt
    refine DW.exit ?_
    have e : s = l.sum := by rw [hs, List.take_length]
    rw [← e]
    refine DW.seq ?_
    refine DW.region ?_
    refine DL.go0 tauOK hE rfl (GStep.move rfl) rfl rfl ?_
    refine DL.go0 tauOK hE rfl (GStep.assign rfl) rfl rfl ?_
    refine DL.nil ?_
    refine DW.sub (T' := [(2, _)]) (Sub.cons rfl Sub.nil) (Sub.refl _) ?_
    refine DW.ret ?_
    exact RetD.v1 rfl rfl
end Go.Proofs.Ytpaemnambphldaa
