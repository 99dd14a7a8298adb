/-
  The statements' own marking of rows: a row is overwritten by numbers in order; a row is held against them.
-/
import Derived.Test.YtionljjdfgeggaaDenA
import Derived.Test.YtionljjdfgeggaaLawH
namespace Go.Proofs.Ytionljjdfgeggaa
open Go.RowKit
set_option linter.unusedVariables false
set_option linter.unusedSimpArgs false

def seqF (k : Int) (n : Nat) : List Int := (List.range n).map fun i => k + (i : Nat)
theorem seqF_len (k : Int) (n : Nat) : (seqF k n).length = n := by simp [seqF]
theorem seqF_at (k : Int) {n i : Nat} (h : i < n) : (seqF k n).getD i 0 = k + i := by simp [seqF, List.getD_eq_getElem?_getD, h]
theorem seqF_take (k : Int) (n i : Nat) (h : i ≤ n) : (seqF k n).take i = seqF k i := by
  apply List.ext_getElem
  · simp [seqF]; omega
  · intro j h1 h2; simp [seqF]
theorem seqF_set (k : Int) (xs : List Int) {i : Nat} (h : i < xs.length) : (seqF k i ++ xs.drop i).set i (k + i) = seqF k (i + 1) ++ xs.drop (i + 1) := by
  rw [List.set_append, if_neg (by simp [seqF_len]), seqF_len, Nat.sub_self, List.drop_eq_getElem_cons h, List.set_cons_zero]
  have : seqF k (i + 1) = seqF k i ++ [k + i] := by simp [seqF, List.range_succ]
  rw [this]; simp
def gMark : List Int → List Value → Option (Value × List Int)
  | xs, [.int .i64 k] => if 0 ≤ k ∧ k + xs.length ≤ 1000000000 then some (.int .i64 (k + xs.length), seqF k xs.length) else none
  | _, _ => none
theorem gMark_eq (xs : List Int) (k : Int) (h : 0 ≤ k) (h' : k + xs.length ≤ 1000000000) : gMark xs [.int .i64 k] = some (.int .i64 (k + xs.length), seqF k xs.length) := if_pos ⟨h, h'⟩
def gHeld : List AD → Option RD
  | [.sl .i64 1 _ l, .v (.int .i64 k)] => if 0 ≤ k ∧ k + l.length ≤ 1000000000 ∧ l = seqF k l.length then some (.one (.v (.int .i64 (k + l.length)))) else none
  | _ => none
theorem gHeld_eq (k : Int) (n : Nat) (h : 0 ≤ k) (h' : k + n ≤ 1000000000) : gHeld [.sl .i64 1 n (seqF k n), .v (.int .i64 k)] = some (.one (.v (.int .i64 (k + n)))) := by
  show (if 0 ≤ k ∧ k + ((seqF k n).length : Int) ≤ 1000000000 ∧ seqF k n = seqF k (seqF k n).length then some (RD.one (.v (.int .i64 (k + ((seqF k n).length : Int))))) else none) = _
  rw [seqF_len, if_pos ⟨h, h', rfl⟩]
end Go.Proofs.Ytionljjdfgeggaa
