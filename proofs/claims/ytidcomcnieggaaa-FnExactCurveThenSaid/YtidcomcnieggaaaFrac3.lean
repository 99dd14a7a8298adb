/-
  Contracts of the reference's functions on fractions and of small tests: each call returns what the plain functions give, and turns nothing that was there.
-/
import Derived.Test.YtidcomcnieggaaaFrac2
namespace Go.Proofs.Ytidcomcnieggaaa
open Go.RowKit
set_option linter.unusedVariables false

def inB (n low high : Int) : Bool := decide (low ≤ n ∧ n ≤ high)

set_option maxHeartbeats 400000 in
theorem l6In_s (n a b : Int) (w : World) : Calls Try.prog 49 #[.int .i64 n, .int .i64 a, .int .i64 b] w fun e w' => e = .returned (.bool (inB n a b)) ∧ w = w' := by
  by_cases h : a ≤ n
  · have hp : inB n a b = decide (n ≤ b) := by simp [inB, h]
    have HP := Lib.hid hp; clear hp
    go_enter Try.func49, Try.ntmps49
    go_wp2
    go_ret
    exact ⟨by rw [HP.out]; rfl, rfl⟩
  · have hp : inB n a b = false := by simp [inB, h]
    have HP := Lib.hid hp; clear hp
    go_enter Try.func49, Try.ntmps49
    go_wp2
    go_ret
    exact ⟨by rw [HP.out]; rfl, rfl⟩

set_option maxHeartbeats 400000 in
theorem l2Abs_s (n : Int) (w : World) (h1 : -9223372036854775807 ≤ n) (h2 : n ≤ 9223372036854775807) : Calls Try.prog 71 #[.int .i64 n] w fun e w' => e = .returned (.int .i64 n.natAbs) ∧ w = w' := by
  go_enter Try.func71, Try.ntmps71
  go_wp2
  all_goals go_ret
  all_goals exact ⟨ret_int (by omega), rfl⟩

set_option maxHeartbeats 400000 in
theorem l2Gcd_s (a b : Int) (w : World) (ha : inL a) (hb : inL b) (pa : 0 ≤ a) (pb : 0 ≤ b) :
    Calls Try.prog 70 #[.int .i64 a, .int .i64 b] w fun e w' => e = .returned (.int .i64 (Int.gcd a b)) ∧ w = w' := by
  go_enter Try.func70, Try.ntmps70
  go_wp2
  go_loop [0, 1] (fun s t => ∃ x y : Int, s = .int .i64 x ∧ t = .int .i64 y ∧ inL x ∧ inL y ∧ 0 ≤ x ∧ 0 ≤ y ∧ Int.gcd x y = Int.gcd a b) (fun _ t => (intOf t).natAbs)
  case atStart => exact ⟨a, b, rfl, rfl, ha, hb, pa, pb, rfl⟩
  case round =>
    obtain ⟨x, y, rfl, rfl, hx, hy, px, py, hg⟩ := hrel
    have HG := Lib.hid hg
    clear hg
    unfold inL at hx hy
    obtain ⟨hx1, hx2⟩ := hx
    obtain ⟨hy1, hy2⟩ := hy
    by_cases h0 : y = 0
    · subst h0
      go_wp2
      go_ret
      refine ⟨ret_int ?_, rfl⟩
      rw [← HG.out]
      simp
      omega
    · have h1 : (y != 0) = true := by simp [h0]
      have h2 : (y == 0) = false := by simp [h0]
      have h3 : 1 ≤ y := by omega
      go_wp2
      go_round
      case rel =>
        have hm1 := Int.emod_nonneg x h0
        have hm2 := Int.emod_lt_of_pos x (show 0 < y by omega)
        have hs := gcd_step x y
        rw [Int.tmod_eq_emod_of_nonneg px] at hs
        exact ⟨y, x % y, rfl, rfl, ⟨by omega, by omega⟩, ⟨by omega, by omega⟩, py, hm1, hs.trans HG.out⟩
      case measure =>
        have hm1 := Int.emod_nonneg x h0
        have hm2 := Int.emod_lt_of_pos x (show 0 < y by omega)
        simp [intOf]
        omega

set_option maxHeartbeats 800000 in
theorem fracValid_s (n d : Int) (w : World) : Calls Try.prog 72 #[.agg #[.int .i64 n, .int .i64 d]] w fun e w' => e = .returned (.bool (vB n d)) ∧ Below w.heap.size w w' := by
  cases h1 : inB d 1 1000000000
  · have hv : vB n d = false := vB_false (by simp [inB] at h1; omega)
    have HV := Lib.hid hv; clear hv
    go_enter Try.func72, Try.ntmps72
    go_wp2_with (go_at_call 49; refine (l6In_s _ _ _ _).mono ?_; rintro e w' ⟨rfl, rfl⟩)
    go_ret
    exact ⟨by rw [HV.out]; rfl, (Below.refl _ _).alloc (Nat.le_refl _) _⟩
  · cases h2 : inB n (-1000000000) 1000000000
    · have hv : vB n d = false := vB_false (by simp [inB] at h2; omega)
      have HV := Lib.hid hv; clear hv
      go_enter Try.func72, Try.ntmps72
      go_wp2_with (go_at_call 49; refine (l6In_s _ _ _ _).mono ?_; rintro e w' ⟨rfl, rfl⟩)
      go_ret
      exact ⟨by rw [HV.out]; rfl, (Below.refl _ _).alloc (Nat.le_refl _) _⟩
    · have hv : ((Int.gcd (n.natAbs : Int) d : Int) == 1) = vB n d := by
        have e : Int.gcd (n.natAbs : Int) d = Int.gcd n d := by unfold Int.gcd; rw [Int.natAbs_natCast]
        rw [e]
        simp [inB] at h1 h2
        exact vB_gcd (by omega)
      have HV := Lib.hid hv; clear hv
      have b1 : 1 ≤ d ∧ d ≤ 1000000000 := by simpa [inB] using h1
      have b2 : -1000000000 ≤ n ∧ n ≤ 1000000000 := by simpa [inB] using h2
      obtain ⟨b1, b3⟩ := b1
      obtain ⟨b2, b4⟩ := b2
      go_enter Try.func72, Try.ntmps72
      go_wp2_with (go_at_call 49; refine (l6In_s _ _ _ _).mono ?_; rintro e w' ⟨rfl, rfl⟩)
      go_quiet (first | (go_at_call 71; exact quiet_left (l2Abs_s _ _ (by omega) (by omega))) | (go_at_call 70; exact quiet_left (l2Gcd_s _ _ _ (by unfold inL; omega) (by unfold inL; omega) (by omega) (by omega))))
      go_wp2
      go_ret
      exact ⟨ret_bool HV.out, below_drewN ((Below.refl _ _).alloc (Nat.le_refl _) _) _⟩
end Go.Proofs.Ytidcomcnieggaaa
