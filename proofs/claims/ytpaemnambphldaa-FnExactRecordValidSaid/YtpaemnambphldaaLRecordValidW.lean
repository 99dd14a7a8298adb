/-
  The walk of the statement FnExactRecordValid.
-/
import Derived.Test.YtpaemnambphldaaInts
import Derived.Test.YtpaemnambphldaaRec2
namespace Go.Proofs.Ytpaemnambphldaa
open Go.RowKit
set_option linter.unusedVariables false

set_option maxHeartbeats 1000000 in
theorem fnExactRecordValid_w (A B : Option Addr) (n c m d : Nat) (l a : List Int) (w : World) (h : RI w A n l) (h' : RI w B m a) :
    Calls Try.prog 3 #[.slice A n c, .slice B m d] w fun e w' => e = .returned (.bool true) ∧ Below w.heap.size w w' := by
  by_cases hn : n ≤ 1048576
  · by_cases hm : m ≤ 1048576
    · go_enter Try.func3, Try.ntmps3
      go_wp2_with fail
      refine (toIntS_l _ _ _ _ _ h hn).mono ?_
      rintro e w1 ⟨A1, c1, rfl, o1, b1⟩
      go_wp2_with fail
      refine (toIntS_l _ _ _ _ _ (h'.below b1) hm).mono ?_
      rintro e w2 ⟨A2, c2, rfl, o2, b2⟩
      go_wp2_with fail
      refine (recordValid_s _ _ _ _ _ _ _ _ _ (o1.ri.below b2) o2.ri (by omega) (by omega)).mono ?_
      rintro e w3 ⟨rfl, d3⟩
      have B3 : Below w.heap.size w w3 := (b1.trans (b2.mono b1.size)).trans (d3.below _)
      clear o1 o2 b1 b2 d3
      go_wp2_with fail
      refine (toIntS_l _ _ _ _ _ (h.below B3) hn).mono ?_
      rintro e w4 ⟨A4, c4, rfl, o4, b4⟩
      have B4 := B3.trans (b4.mono B3.size)
      clear B3 b4
      go_wp2_with fail
      refine (toIntS_l _ _ _ _ _ (h'.below B4) hm).mono ?_
      rintro e w5 ⟨A5, c5, rfl, o5, b5⟩
      have B5 := B4.trans (b5.mono B4.size)
      have o4 := o4.below b5
      clear B4 b5
      go_wp2_with fail
      refine (recordValid_i _ _ _ _ _ _ _ _ _ o4.ri o5.ri (by omega) (by omega)).mono ?_
      rintro e w6 ⟨rfl, rfl⟩
      have tt1 : (recB l a != recB l a) = false := by simp
      have tt2 : (recB l a == recB l a) = true := by simp
      go_wp2_with fail
      refine (toIntS_l _ _ _ _ _ (h.below B5) hn).mono ?_
      rintro e w7 ⟨A7, c7, rfl, o7, b7⟩
      have B7 := B5.trans (b7.mono B5.size)
      have o4 := o4.below b7
      have o5 := o5.below b7
      clear B5 b7
      go_wp2_with fail
      refine (eqIntS_l _ _ _ _ _ _ _ _ _ o4.ri o7.ri (by omega) (by omega)).mono ?_
      rintro e w8 ⟨rfl, d8⟩
      have B8 := B7.trans (d8.below _)
      have o5 := o5.below (d8.below _)
      have ee : eqB l l = true := by simp [eqB]
      clear B7 d8 o7 o4
      go_wp2_with fail
      refine (toIntS_l _ _ _ _ _ (h'.below B8) hm).mono ?_
      rintro e w9 ⟨A9, c9, rfl, o9, b9⟩
      have B9 := B8.trans (b9.mono B8.size)
      have o5 := o5.below b9
      clear B8 b9
      go_wp2_with fail
      refine (eqIntS_l _ _ _ _ _ _ _ _ _ o5.ri o9.ri (by omega) (by omega)).mono ?_
      rintro e w10 ⟨rfl, d10⟩
      have B10 := B9.trans (d10.below _)
      have ee2 : eqB a a = true := by simp [eqB]
      clear B9 d10 o9 o5
      go_wp2
      go_ret
      exact ⟨rfl, B10⟩
    · go_enter Try.func3, Try.ntmps3
      go_wp2
      go_ret
      exact ⟨rfl, Below.refl _ _⟩
  · go_enter Try.func3, Try.ntmps3
    go_wp2
    go_ret
    exact ⟨rfl, Below.refl _ _⟩
end Go.Proofs.Ytpaemnambphldaa
