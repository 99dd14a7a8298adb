/-
  Contracts of the functions on two fractions: each call returns what the plain functions of PureF give, and turns nothing that was there.
-/
import Derived.Test.YtidcomcnieggaaaFrac
namespace Go.Proofs.Ytidcomcnieggaaa
open Go.RowKit
set_option linter.unusedVariables false

theorem mul_bd {a b A B : Int} (h1 : -A ≤ a) (h2 : a ≤ A) (h3 : -B ≤ b) (h4 : b ≤ B) : -(A * B) ≤ a * b ∧ a * b ≤ A * B := by
  have e : (a * b).natAbs = a.natAbs * b.natAbs := Int.natAbs_mul a b
  have f : (A * B).natAbs = A.natAbs * B.natAbs := Int.natAbs_mul A B
  have g : a.natAbs * b.natAbs ≤ A.natAbs * B.natAbs := Nat.mul_le_mul (by omega) (by omega)
  have h : 0 ≤ A * B := Int.mul_nonneg (by omega) (by omega)
  omega
theorem vB_mul {a b c d : Int} (h1 : vB a b = true) (h2 : vB c d = true) : (-1000000000000000000 ≤ a * d ∧ a * d ≤ 1000000000000000000) ∧ (-1000000000000000000 ≤ c * b ∧ c * b ≤ 1000000000000000000) ∧
    (-1000000000000000000 ≤ b * d ∧ b * d ≤ 1000000000000000000) ∧ (-1000000000000000000 ≤ a * c ∧ a * c ≤ 1000000000000000000) := by
  obtain ⟨a1, a2, a3, a4, _⟩ := vB_iff.1 h1
  obtain ⟨c1, c2, c3, c4, _⟩ := vB_iff.1 h2
  exact ⟨mul_bd (A := 1000000000) (B := 1000000000) a3 a4 (by omega) c2, mul_bd (A := 1000000000) (B := 1000000000) c3 c4 (by omega) a2,
    mul_bd (A := 1000000000) (B := 1000000000) (by omega) a2 (by omega) c2, mul_bd (A := 1000000000) (B := 1000000000) a3 a4 c3 c4⟩

set_option maxHeartbeats 800000 in
theorem fracLess_i (a b c d : Int) (w : World) : Calls Try.prog 34 #[.agg #[.int .i64 a, .int .i64 b], .agg #[.int .i64 c, .int .i64 d]] w fun e w' => e = .returned (.bool (ltF (a, b) (c, d))) ∧ Below w.heap.size w w' := by
  cases h1 : vB a b
  · have hp : ltF (a, b) (c, d) = false := by simp [ltF, h1]
    have HP := Lib.hid hp; clear hp
    go_enter Try.func34, Try.ntmps34
    go_wp2_with fail
    refine (fracValid_i _ _ _).mono ?_
    rintro e w1 ⟨rfl, hb1⟩
    have hB : Below w.heap.size w w1 := (((Below.refl _ _).alloc (Nat.le_refl _) _).alloc (by simp) _).trans (hb1.mono (by simp; omega))
    go_wp2
    go_ret
    exact ⟨by rw [HP.out]; rfl, hB⟩
  · cases h2 : vB c d
    · have hp : ltF (a, b) (c, d) = false := by simp [ltF, h2]
      have HP := Lib.hid hp; clear hp
      go_enter Try.func34, Try.ntmps34
      go_wp2_with fail
      refine (fracValid_i _ _ _).mono ?_
      rintro e w1 ⟨rfl, hb1⟩
      have q0 : w1.cell? ⟨w.heap.size + 1, 0, none⟩ = some (.int .i64 c) := kc hb1 _ (by simp [go_sem])
      have q1 : w1.cell? ⟨w.heap.size + 1, 1, none⟩ = some (.int .i64 d) := kc hb1 _ (by simp [go_sem])
      go_wp2_with fail
      refine (fracValid_i _ _ _).mono ?_
      rintro e w2 ⟨rfl, hb2⟩
      have hb3 := hb1.trans (hb2.mono hb1.size)
      have hB : Below w.heap.size w w2 := (((Below.refl _ _).alloc (Nat.le_refl _) _).alloc (by simp) _).trans (hb3.mono (by simp; omega))
      clear hb1 hb2 q0 q1 hb3
      go_wp2
      go_ret
      exact ⟨by rw [HP.out]; rfl, hB⟩
    · have hp : ltF (a, b) (c, d) = decide (a * d < c * b) := by simp [ltF, h1, h2]
      have HP := Lib.hid hp; clear hp
      have m1 := vB_mul h1 h2
      obtain ⟨⟨m1, m2⟩, ⟨m3, m4⟩, ⟨m5, m6⟩, ⟨m7, m8⟩⟩ := m1
      go_enter Try.func34, Try.ntmps34
      go_wp2_with fail
      refine (fracValid_i _ _ _).mono ?_
      rintro e w1 ⟨rfl, hb1⟩
      have q0 : w1.cell? ⟨w.heap.size + 1, 0, none⟩ = some (.int .i64 c) := kc hb1 _ (by simp [go_sem])
      have q1 : w1.cell? ⟨w.heap.size + 1, 1, none⟩ = some (.int .i64 d) := kc hb1 _ (by simp [go_sem])
      go_wp2_with fail
      refine (fracValid_i _ _ _).mono ?_
      rintro e w2 ⟨rfl, hb2⟩
      have hb3 := hb1.trans (hb2.mono hb1.size)
      have hB : Below w.heap.size w w2 := (((Below.refl _ _).alloc (Nat.le_refl _) _).alloc (by simp) _).trans (hb3.mono (by simp; omega))
      clear hb1 hb2 q0 q1
      have k0 : w2.cell? ⟨w.heap.size, 0, none⟩ = some (.int .i64 a) := kc hb3 _ (by simp [go_sem])
      have k1 : w2.cell? ⟨w.heap.size, 1, none⟩ = some (.int .i64 b) := kc hb3 _ (by simp [go_sem])
      have k2 : w2.cell? ⟨w.heap.size + 1, 0, none⟩ = some (.int .i64 c) := kc hb3 _ (by simp [go_sem])
      have k3 : w2.cell? ⟨w.heap.size + 1, 1, none⟩ = some (.int .i64 d) := kc hb3 _ (by simp [go_sem])
      clear hb3
      go_wp2
      go_ret
      exact ⟨by rw [HP.out]; rfl, hB⟩
end Go.Proofs.Ytidcomcnieggaaa
