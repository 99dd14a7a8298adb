/-
  The draws of records for the statements: from the bytes of a code to new slices.
-/
import Derived.Test.YtpaemnambphldaaDraw2
namespace Go.Proofs.Ytpaemnambphldaa
open Go.RowKit
set_option linter.unusedVariables false

def RetDraw (w : World) (e : Ending) (w' : World) : Prop := ∃ A n c B m d l a, e = .returned (.tuple #[.slice A n c, .slice B m d]) ∧ OI w' w.heap.size A n c l ∧ OI w' w.heap.size B m d a ∧ Dis A B ∧
  2 ≤ n ∧ n ≤ 6 ∧ 1 ≤ m ∧ m ≤ 6 ∧ Small 100000 l ∧ Small 100000 a ∧ Below w.heap.size w w'

set_option maxHeartbeats 400000 in
theorem DrawRecordValid_s (A : Option Addr) (n c : Nat) (w : World) (h : RB w A n) (hn : n ≤ c) (hc : c ≤ 9223372036854775807) :
    Calls Try.prog 19 #[.slice A n c] w (RetDraw w) := by
  go_enter Try.func19, Try.ntmps19
  go_wp2_with fail
  refine (l6Open_s A n c _ h hn hc).mono ?_
  rintro e w1 ⟨rfl, r1, b1⟩
  have hs := b1.size
  go_wp2_with fail
  refine (l91Record_s _ 0 _ r1 (by omega)).mono ?_
  rintro e w2 ⟨A, n, c, B, m, d, l, a, p', rfl, h1, h2, h3, h4, h5, h6, h7, h8, h9, h10, r2, o2⟩
  go_wp2
  go_ret2
  exact ⟨_, _, _, _, _, _, _, _, rfl, h1.mono hs, h2.mono hs, h3, h4, h5, h6, h7, h8, h9, b1.trans (o2.below (Nat.le_refl _) hs)⟩
set_option maxHeartbeats 400000 in
theorem DrawRecordTotal_s (A : Option Addr) (n c : Nat) (w : World) (h : RB w A n) (hn : n ≤ c) (hc : c ≤ 9223372036854775807) :
    Calls Try.prog 20 #[.slice A n c] w (RetDraw w) := by
  go_enter Try.func20, Try.ntmps20
  go_wp2_with fail
  refine (l6Open_s A n c _ h hn hc).mono ?_
  rintro e w1 ⟨rfl, r1, b1⟩
  have hs := b1.size
  go_wp2_with fail
  refine (l91Record_s _ 0 _ r1 (by omega)).mono ?_
  rintro e w2 ⟨A, n, c, B, m, d, l, a, p', rfl, h1, h2, h3, h4, h5, h6, h7, h8, h9, h10, r2, o2⟩
  go_wp2
  go_ret2
  exact ⟨_, _, _, _, _, _, _, _, rfl, h1.mono hs, h2.mono hs, h3, h4, h5, h6, h7, h8, h9, b1.trans (o2.below (Nat.le_refl _) hs)⟩
end Go.Proofs.Ytpaemnambphldaa
