/-
  The statements' own marking of rows: a row is overwritten by numbers in order; a row is held against them.
-/
import Derived.Test.YtlhkdgkaafhehaaDenA
import Derived.Test.YtlhkdgkaafhehaaLawH
namespace Go.Proofs.Ytlhkdgkaafhehaa
open Go.RowKit
set_option linter.unusedVariables false
set_option linter.unusedSimpArgs false

def seqF (k : Int) (n : Nat) : List Int := (List.range n).map fun i => k + (i : Nat)
theorem seqF_len (k : Int) (n : Nat) : (seqF k n).length = n := by simp [seqF]
theorem seqF_at (k : Int) {n i : Nat} (h : i < n) : (seqF k n).getD i 0 = k + i := by simp [seqF, List.getD_eq_getElem?_getD, h]
theorem seqF_take (k : Int) (n i : Nat) (h : i ≤ n) : (seqF k n).take i = seqF k i := by
  apply List.ext_getElem
  · simp [seqF]; omega
  · intro j h1 h2; simp [seqF]
theorem seqF_set (k : Int) (xs : List Int) {i : Nat} (h : i < xs.length) : (seqF k i ++ xs.drop i).set i (k + i) = seqF k (i + 1) ++ xs.drop (i + 1) := by
  rw [List.set_append, if_neg (by simp [seqF_len]), seqF_len, Nat.sub_self, List.drop_eq_getElem_cons h, List.set_cons_zero]
  have : seqF k (i + 1) = seqF k i ++ [k + i] := by simp [seqF, List.range_succ]
  rw [this]; simp
def gMark : List Int → List Value → Option (Value × List Int)
  | xs, [.int .i64 k] => if 0 ≤ k ∧ k + xs.length ≤ 1000000000 then some (.int .i64 (k + xs.length), seqF k xs.length) else none
  | _, _ => none
theorem gMark_eq (xs : List Int) (k : Int) (h : 0 ≤ k) (h' : k + xs.length ≤ 1000000000) : gMark xs [.int .i64 k] = some (.int .i64 (k + xs.length), seqF k xs.length) := if_pos ⟨h, h'⟩
def gHeld : List AD → Option RD
  | [.sl .i64 1 _ l, .v (.int .i64 k)] => if 0 ≤ k ∧ k + l.length ≤ 1000000000 ∧ l = seqF k l.length then some (.one (.v (.int .i64 (k + l.length)))) else none
  | _ => none
theorem gHeld_eq (k : Int) (n : Nat) (h : 0 ≤ k) (h' : k + n ≤ 1000000000) : gHeld [.sl .i64 1 n (seqF k n), .v (.int .i64 k)] = some (.one (.v (.int .i64 (k + n)))) := by
  show (if 0 ≤ k ∧ k + ((seqF k n).length : Int) ≤ 1000000000 ∧ seqF k n = seqF k (seqF k n).length then some (RD.one (.v (.int .i64 (k + ((seqF k n).length : Int))))) else none) = _
  rw [seqF_len, if_pos ⟨h, h', rfl⟩]
theorem markIntS_dm : DMut Try.prog 34 1 gMark := by
  have hE : EnvOK Try.prog [] := EnvOK.nil
  refine DMut.of tauOK (fn := Try.f34) Try.func34 rfl (by kernel_rfl) rfl rfl ?_
  intro C A cap n e xs vs y xs' hg hl hsz hn
  unfold gMark at hg
  split at hg
  case h_2 => cases hg
  rename_i k
  split at hg
  case isFalse => cases hg
  rename_i hb
  obtain ⟨hb1, hb2⟩ := hb
  cases hg
  refine ⟨by simp, seqF_len _ _, ?_⟩
  obtain rfl : n = xs.length := by omega
  clear hl
  refine DW.seq ?_
  refine DW.region ?_
  refine DL.go0 tauOK hE rfl (GStep.assign rfl) rfl rfl ?_
  refine DL.nil ?_
  refine DW.sub (T' := [(0, _), (1, _)]) (Sub.cons rfl (Sub.cons rfl Sub.nil)) (Sub.refl _) ?_
  refine DW.seq ?_
  refine DW.seq ?_
  refine DW.region ?_
  refine DL.go0 tauOK hE rfl (GStep.assign rfl) rfl rfl ?_
  refine DL.nil ?_
  refine DW.sub (T' := [(0, _), (1, _), (5, _)]) (Sub.cons rfl (Sub.cons rfl (Sub.cons rfl Sub.nil))) (Sub.refl _) ?_
  have e0 : xs = seqF k 0 ++ xs.drop 0 := by simp [seqF]
  refine DW.block ?_
  refine DW.loop (α := Nat × Int) (fun (i, v) => [(0, .sl 0 0 xs.length), (1, .val (.int .i64 v)), (5, .val (.int .i64 (i : Nat)))]) (fun (i, v) => [(0, .prow A cap e 1 (seqF k i ++ xs.drop i))]) (fun (i, v) => i ≤ xs.length ∧ v = k + (i : Nat)) (fun (i, v) => xs.length - i) (0, k) (⟨by omega, by simp⟩) (Sub.cons rfl (Sub.cons rfl (Sub.cons rfl Sub.nil))) (Sub.cons rfl Sub.nil) ?_
  rintro ⟨i, v⟩ ⟨hi, hv⟩
  skip
  refine DW.seq ?_
  refine DW.seq ?_
  refine DW.region ?_
  refine DL.go0 tauOK hE rfl (GStep.move rfl) rfl rfl ?_
  refine DL.go0 tauOK hE rfl (GStep.move rfl) rfl rfl ?_
  first | refine DL.go0 tauOK hE rfl (GStep.len rfl rfl rfl) rfl rfl ?_ | refine DL.go0 tauOK hE rfl (GStep.lenNil rfl rfl) rfl rfl ?_
  refine DL.go0 tauOK hE rfl (GStep.binI rfl rfl rfl) rfl rfl ?_
  refine DL.nil ?_
  refine DW.sub (T' := [(0, _), (1, _), (5, _), (9, _)]) (Sub.cons rfl (Sub.cons rfl (Sub.cons rfl (Sub.cons rfl Sub.nil)))) (Sub.refl _) ?_
  refine DW.cond rfl (fun hlt => ?_) (fun hlt => ?_)
  · skip
    have hlt : i < xs.length := by simpa using hlt
    have hset : (seqF k i ++ xs.drop i).set i v = seqF k (i + 1) ++ xs.drop (i + 1) := by rw [hv]; exact seqF_set k xs hlt
    refine DW.skip ?_
    refine DW.seq ?_
    refine DW.block ?_
    refine DW.seq ?_
    refine DW.region ?_
    refine DL.go0 tauOK hE rfl (GStep.move rfl) rfl rfl ?_
    refine DL.go0 tauOK hE rfl (GStep.move rfl) rfl rfl ?_
    refine DL.go0 tauOK hE rfl (GStep.move rfl) rfl rfl ?_
    refine DL.go0 tauOK hE rfl (G.ia1 rfl rfl rfl rfl rfl rfl rfl (by omega)) rfl rfl ?_
    first | refine DL.se1 tauOK rfl rfl rfl rfl rfl rfl rfl (by simp [seqF_len]; omega) ?_ | refine DL.sp1 tauOK rfl rfl rfl rfl rfl rfl rfl (by simp [seqF_len]; omega) ?_
    refine DL.nil ?_
    refine DW.sub (T' := [(0, _), (1, _), (5, _)]) (Sub.cons rfl (Sub.cons rfl (Sub.cons rfl Sub.nil))) (Sub.refl _) ?_
    rw [hset]
    refine DW.region ?_
    refine DL.go0 tauOK hE rfl (GStep.move rfl) rfl rfl ?_
    first | refine DL.go0 tauOK hE rfl (G.add rfl rfl (by omega)) rfl rfl ?_ | refine DL.go0 tauOK hE rfl (GStep.binI rfl rfl rfl) rfl rfl ?_
    refine DL.go0 tauOK hE rfl (GStep.assign rfl) rfl rfl ?_
    refine DL.nil ?_
    refine DW.sub (T' := [(0, _), (1, _), (5, _)]) (Sub.cons rfl (Sub.cons rfl (Sub.cons rfl Sub.nil))) (Sub.refl _) ?_
    refine DW.region ?_
    refine DL.go0 tauOK hE rfl (GStep.move rfl) rfl rfl ?_
    first | refine DL.go0 tauOK hE rfl (G.add rfl rfl (by omega)) rfl rfl ?_ | refine DL.go0 tauOK hE rfl (GStep.binI rfl rfl rfl) rfl rfl ?_
    refine DL.go0 tauOK hE rfl (GStep.assign rfl) rfl rfl ?_
    refine DL.nil ?_
    refine ⟨(i + 1, v + 1), ⟨hlt, by omega⟩, by first | omega | (dsimp only; omega), ?_, ?_⟩
    · exact Sub.cons rfl (Sub.cons rfl (Sub.cons rfl Sub.nil))
    · exact Sub.cons rfl Sub.nil
  · skip
    have hlt : i = xs.length := by simp at hlt; omega
    subst hlt
    refine DW.exit ?_
    have e1 : seqF k xs.length ++ xs.drop xs.length = seqF k xs.length := by simp
    dsimp only
    rw [e1, hv]
    refine DW.seq ?_
    refine DW.region ?_
    refine DL.go0 tauOK hE rfl (GStep.move rfl) rfl rfl ?_
    refine DL.go0 tauOK hE rfl (GStep.assign rfl) rfl rfl ?_
    refine DL.nil ?_
    refine DW.sub (T' := [(4, _)]) (Sub.cons rfl Sub.nil) (Sub.refl _) ?_
    refine DW.ret ?_
    exact ⟨rfl, RetD.v1 rfl rfl⟩
end Go.Proofs.Ytlhkdgkaafhehaa
