/-
  Contracts of the functions on two fractions: each call returns what the plain functions of PureF give, and turns nothing that was there.
-/
import Derived.Test.YtlolhnjbogfkfaaFrac
namespace Go.Proofs.Ytlolhnjbogfkfaa
open Go.RowKit
set_option linter.unusedVariables false

theorem mul_bd {a b A B : Int} (h1 : -A ≤ a) (h2 : a ≤ A) (h3 : -B ≤ b) (h4 : b ≤ B) : -(A * B) ≤ a * b ∧ a * b ≤ A * B := by
  have e : (a * b).natAbs = a.natAbs * b.natAbs := Int.natAbs_mul a b
  have f : (A * B).natAbs = A.natAbs * B.natAbs := Int.natAbs_mul A B
  have g : a.natAbs * b.natAbs ≤ A.natAbs * B.natAbs := Nat.mul_le_mul (by omega) (by omega)
  have h : 0 ≤ A * B := Int.mul_nonneg (by omega) (by omega)
  omega
theorem vB_mul {a b c d : Int} (h1 : vB a b = true) (h2 : vB c d = true) : (-1000000000000000000 ≤ a * d ∧ a * d ≤ 1000000000000000000) ∧ (-1000000000000000000 ≤ c * b ∧ c * b ≤ 1000000000000000000) ∧
    (-1000000000000000000 ≤ b * d ∧ b * d ≤ 1000000000000000000) ∧ (-1000000000000000000 ≤ a * c ∧ a * c ≤ 1000000000000000000) := by
  obtain ⟨a1, a2, a3, a4, _⟩ := vB_iff.1 h1
  obtain ⟨c1, c2, c3, c4, _⟩ := vB_iff.1 h2
  exact ⟨mul_bd (A := 1000000000) (B := 1000000000) a3 a4 (by omega) c2, mul_bd (A := 1000000000) (B := 1000000000) c3 c4 (by omega) a2,
    mul_bd (A := 1000000000) (B := 1000000000) (by omega) a2 (by omega) c2, mul_bd (A := 1000000000) (B := 1000000000) a3 a4 c3 c4⟩

set_option maxHeartbeats 800000 in
theorem fracAdd_i (a b c d : Int) (w : World) : Calls Try.prog 31 #[.agg #[.int .i64 a, .int .i64 b], .agg #[.int .i64 c, .int .i64 d]] w fun e w' => e = retF (addF (a, b) (c, d)) ∧ Below w.heap.size w w' := by
  cases h1 : vB a b
  · have hp : addF (a, b) (c, d) = none := by simp [addF, h1]
    have HP := Lib.hid hp; clear hp
    go_enter Try.func31, Try.ntmps31
    go_wp2_with fail
    refine (fracValid_i _ _ _).mono ?_
    rintro e w1 ⟨rfl, hb1⟩
    have k0 : w1.cell? ⟨w.heap.size + 2, 0, none⟩ = some (.int .i64 0) := kc hb1 _ (by simp [go_sem])
    have k1 : w1.cell? ⟨w.heap.size + 2, 1, none⟩ = some (.int .i64 0) := kc hb1 _ (by simp [go_sem])
    have f0 : w1.frozen? ⟨w.heap.size + 2, 0, none⟩ = false := kf hb1 _ (by simp) (by simp [go_sem])
    have f1 : w1.frozen? ⟨w.heap.size + 2, 1, none⟩ = false := kf hb1 _ (by simp) (by simp [go_sem])
    have hB : Below w.heap.size w w1 := ((((Below.refl _ _).alloc (Nat.le_refl _) _).alloc (by simp) _).alloc (by simp; omega) _).trans (hb1.mono (by simp; omega))
    go_wp2
    refine bodyPost_ret (v := .tuple #[.agg #[.int .i64 0, .int .i64 0], .bool false]) (by simp [results, Try.results31, go_sem, k0, k1]) rfl ⟨by rw [HP.out]; rfl, ?_⟩
    exact (hB.setCell (p := ⟨w.heap.size + 2, 0, none⟩) (by simp) _).setCell (p := ⟨w.heap.size + 2, 1, none⟩) (by simp) _
  · cases h2 : vB c d
    · have hp : addF (a, b) (c, d) = none := by simp [addF, h2]
      have HP := Lib.hid hp; clear hp
      go_enter Try.func31, Try.ntmps31
      go_wp2_with fail
      refine (fracValid_i _ _ _).mono ?_
      rintro e w1 ⟨rfl, hb1⟩
      have q0 : w1.cell? ⟨w.heap.size + 1, 0, none⟩ = some (.int .i64 c) := kc hb1 _ (by simp [go_sem])
      have q1 : w1.cell? ⟨w.heap.size + 1, 1, none⟩ = some (.int .i64 d) := kc hb1 _ (by simp [go_sem])
      go_wp2_with fail
      refine (fracValid_i _ _ _).mono ?_
      rintro e w2 ⟨rfl, hb2⟩
      have hb3 := hb1.trans (hb2.mono hb1.size)
      clear hb1 hb2 q0 q1
      have k0 : w2.cell? ⟨w.heap.size + 2, 0, none⟩ = some (.int .i64 0) := kc hb3 _ (by simp [go_sem])
      have k1 : w2.cell? ⟨w.heap.size + 2, 1, none⟩ = some (.int .i64 0) := kc hb3 _ (by simp [go_sem])
      have f0 : w2.frozen? ⟨w.heap.size + 2, 0, none⟩ = false := kf hb3 _ (by simp) (by simp [go_sem])
      have f1 : w2.frozen? ⟨w.heap.size + 2, 1, none⟩ = false := kf hb3 _ (by simp) (by simp [go_sem])
      have hB : Below w.heap.size w w2 := ((((Below.refl _ _).alloc (Nat.le_refl _) _).alloc (by simp) _).alloc (by simp; omega) _).trans (hb3.mono (by simp; omega))
      go_wp2
      refine bodyPost_ret (v := .tuple #[.agg #[.int .i64 0, .int .i64 0], .bool false]) (by simp [results, Try.results31, go_sem, k0, k1]) rfl ⟨by rw [HP.out]; rfl, ?_⟩
      exact (hB.setCell (p := ⟨w.heap.size + 2, 0, none⟩) (by simp) _).setCell (p := ⟨w.heap.size + 2, 1, none⟩) (by simp) _
    · have hp : addF (a, b) (c, d) = ofF (a * d + c * b) (b * d) := by simp [addF, h1, h2]
      have HP := Lib.hid hp; clear hp
      have m1 := vB_mul h1 h2
      obtain ⟨⟨m1, m2⟩, ⟨m3, m4⟩, ⟨m5, m6⟩, ⟨m7, m8⟩⟩ := m1
      go_enter Try.func31, Try.ntmps31
      go_wp2_with fail
      refine (fracValid_i _ _ _).mono ?_
      rintro e w1 ⟨rfl, hb1⟩
      have q0 : w1.cell? ⟨w.heap.size + 1, 0, none⟩ = some (.int .i64 c) := kc hb1 _ (by simp [go_sem])
      have q1 : w1.cell? ⟨w.heap.size + 1, 1, none⟩ = some (.int .i64 d) := kc hb1 _ (by simp [go_sem])
      go_wp2_with fail
      refine (fracValid_i _ _ _).mono ?_
      rintro e w2 ⟨rfl, hb2⟩
      have hb3 := hb1.trans (hb2.mono hb1.size)
      clear hb1 hb2 q0 q1
      have k0 : w2.cell? ⟨w.heap.size, 0, none⟩ = some (.int .i64 a) := kc hb3 _ (by simp [go_sem])
      have k1 : w2.cell? ⟨w.heap.size, 1, none⟩ = some (.int .i64 b) := kc hb3 _ (by simp [go_sem])
      have k2 : w2.cell? ⟨w.heap.size + 1, 0, none⟩ = some (.int .i64 c) := kc hb3 _ (by simp [go_sem])
      have k3 : w2.cell? ⟨w.heap.size + 1, 1, none⟩ = some (.int .i64 d) := kc hb3 _ (by simp [go_sem])
      go_wp2_with fail
      refine (fracOf_i _ _ _).mono ?_
      rintro e w3 ⟨rfl, hb4⟩
      have hb5 := hb3.trans (hb4.mono hb3.size)
      clear hb3 hb4 k0 k1 k2 k3
      have k0 : w3.cell? ⟨w.heap.size + 2, 0, none⟩ = some (.int .i64 0) := kc hb5 _ (by simp [go_sem])
      have k1 : w3.cell? ⟨w.heap.size + 2, 1, none⟩ = some (.int .i64 0) := kc hb5 _ (by simp [go_sem])
      have f0 : w3.frozen? ⟨w.heap.size + 2, 0, none⟩ = false := kf hb5 _ (by simp) (by simp [go_sem])
      have f1 : w3.frozen? ⟨w.heap.size + 2, 1, none⟩ = false := kf hb5 _ (by simp) (by simp [go_sem])
      have hB : Below w.heap.size w w3 := ((((Below.refl _ _).alloc (Nat.le_refl _) _).alloc (by simp) _).alloc (by simp; omega) _).trans (hb5.mono (by simp; omega))
      rw [← HP.out]
      clear HP
      generalize hO : addF (a, b) (c, d) = o
      have HO := Lib.hid hO; clear hO
      go_wp2
      refine bodyPost_ret (v := .tuple #[.agg #[.int .i64 (fN o), .int .i64 (fD o)], .bool (fOk o)]) (by simp [results, Try.results31, go_sem, k0, k1]) rfl ⟨by rw [HO.out], ?_⟩
      exact (hB.setCell (p := ⟨w.heap.size + 2, 0, none⟩) (by simp) _).setCell (p := ⟨w.heap.size + 2, 1, none⟩) (by simp) _
set_option maxHeartbeats 800000 in
theorem fracMul_i (a b c d : Int) (w : World) : Calls Try.prog 30 #[.agg #[.int .i64 a, .int .i64 b], .agg #[.int .i64 c, .int .i64 d]] w fun e w' => e = retF (mulF (a, b) (c, d)) ∧ Below w.heap.size w w' := by
  cases h1 : vB a b
  · have hp : mulF (a, b) (c, d) = none := by simp [mulF, h1]
    have HP := Lib.hid hp; clear hp
    go_enter Try.func30, Try.ntmps30
    go_wp2_with fail
    refine (fracValid_i _ _ _).mono ?_
    rintro e w1 ⟨rfl, hb1⟩
    have k0 : w1.cell? ⟨w.heap.size + 2, 0, none⟩ = some (.int .i64 0) := kc hb1 _ (by simp [go_sem])
    have k1 : w1.cell? ⟨w.heap.size + 2, 1, none⟩ = some (.int .i64 0) := kc hb1 _ (by simp [go_sem])
    have f0 : w1.frozen? ⟨w.heap.size + 2, 0, none⟩ = false := kf hb1 _ (by simp) (by simp [go_sem])
    have f1 : w1.frozen? ⟨w.heap.size + 2, 1, none⟩ = false := kf hb1 _ (by simp) (by simp [go_sem])
    have hB : Below w.heap.size w w1 := ((((Below.refl _ _).alloc (Nat.le_refl _) _).alloc (by simp) _).alloc (by simp; omega) _).trans (hb1.mono (by simp; omega))
    go_wp2
    refine bodyPost_ret (v := .tuple #[.agg #[.int .i64 0, .int .i64 0], .bool false]) (by simp [results, Try.results30, go_sem, k0, k1]) rfl ⟨by rw [HP.out]; rfl, ?_⟩
    exact (hB.setCell (p := ⟨w.heap.size + 2, 0, none⟩) (by simp) _).setCell (p := ⟨w.heap.size + 2, 1, none⟩) (by simp) _
  · cases h2 : vB c d
    · have hp : mulF (a, b) (c, d) = none := by simp [mulF, h2]
      have HP := Lib.hid hp; clear hp
      go_enter Try.func30, Try.ntmps30
      go_wp2_with fail
      refine (fracValid_i _ _ _).mono ?_
      rintro e w1 ⟨rfl, hb1⟩
      have q0 : w1.cell? ⟨w.heap.size + 1, 0, none⟩ = some (.int .i64 c) := kc hb1 _ (by simp [go_sem])
      have q1 : w1.cell? ⟨w.heap.size + 1, 1, none⟩ = some (.int .i64 d) := kc hb1 _ (by simp [go_sem])
      go_wp2_with fail
      refine (fracValid_i _ _ _).mono ?_
      rintro e w2 ⟨rfl, hb2⟩
      have hb3 := hb1.trans (hb2.mono hb1.size)
      clear hb1 hb2 q0 q1
      have k0 : w2.cell? ⟨w.heap.size + 2, 0, none⟩ = some (.int .i64 0) := kc hb3 _ (by simp [go_sem])
      have k1 : w2.cell? ⟨w.heap.size + 2, 1, none⟩ = some (.int .i64 0) := kc hb3 _ (by simp [go_sem])
      have f0 : w2.frozen? ⟨w.heap.size + 2, 0, none⟩ = false := kf hb3 _ (by simp) (by simp [go_sem])
      have f1 : w2.frozen? ⟨w.heap.size + 2, 1, none⟩ = false := kf hb3 _ (by simp) (by simp [go_sem])
      have hB : Below w.heap.size w w2 := ((((Below.refl _ _).alloc (Nat.le_refl _) _).alloc (by simp) _).alloc (by simp; omega) _).trans (hb3.mono (by simp; omega))
      go_wp2
      refine bodyPost_ret (v := .tuple #[.agg #[.int .i64 0, .int .i64 0], .bool false]) (by simp [results, Try.results30, go_sem, k0, k1]) rfl ⟨by rw [HP.out]; rfl, ?_⟩
      exact (hB.setCell (p := ⟨w.heap.size + 2, 0, none⟩) (by simp) _).setCell (p := ⟨w.heap.size + 2, 1, none⟩) (by simp) _
    · have hp : mulF (a, b) (c, d) = ofF (a * c) (b * d) := by simp [mulF, h1, h2]
      have HP := Lib.hid hp; clear hp
      have m1 := vB_mul h1 h2
      obtain ⟨⟨m1, m2⟩, ⟨m3, m4⟩, ⟨m5, m6⟩, ⟨m7, m8⟩⟩ := m1
      go_enter Try.func30, Try.ntmps30
      go_wp2_with fail
      refine (fracValid_i _ _ _).mono ?_
      rintro e w1 ⟨rfl, hb1⟩
      have q0 : w1.cell? ⟨w.heap.size + 1, 0, none⟩ = some (.int .i64 c) := kc hb1 _ (by simp [go_sem])
      have q1 : w1.cell? ⟨w.heap.size + 1, 1, none⟩ = some (.int .i64 d) := kc hb1 _ (by simp [go_sem])
      go_wp2_with fail
      refine (fracValid_i _ _ _).mono ?_
      rintro e w2 ⟨rfl, hb2⟩
      have hb3 := hb1.trans (hb2.mono hb1.size)
      clear hb1 hb2 q0 q1
      have k0 : w2.cell? ⟨w.heap.size, 0, none⟩ = some (.int .i64 a) := kc hb3 _ (by simp [go_sem])
      have k1 : w2.cell? ⟨w.heap.size, 1, none⟩ = some (.int .i64 b) := kc hb3 _ (by simp [go_sem])
      have k2 : w2.cell? ⟨w.heap.size + 1, 0, none⟩ = some (.int .i64 c) := kc hb3 _ (by simp [go_sem])
      have k3 : w2.cell? ⟨w.heap.size + 1, 1, none⟩ = some (.int .i64 d) := kc hb3 _ (by simp [go_sem])
      go_wp2_with fail
      refine (fracOf_i _ _ _).mono ?_
      rintro e w3 ⟨rfl, hb4⟩
      have hb5 := hb3.trans (hb4.mono hb3.size)
      clear hb3 hb4 k0 k1 k2 k3
      have k0 : w3.cell? ⟨w.heap.size + 2, 0, none⟩ = some (.int .i64 0) := kc hb5 _ (by simp [go_sem])
      have k1 : w3.cell? ⟨w.heap.size + 2, 1, none⟩ = some (.int .i64 0) := kc hb5 _ (by simp [go_sem])
      have f0 : w3.frozen? ⟨w.heap.size + 2, 0, none⟩ = false := kf hb5 _ (by simp) (by simp [go_sem])
      have f1 : w3.frozen? ⟨w.heap.size + 2, 1, none⟩ = false := kf hb5 _ (by simp) (by simp [go_sem])
      have hB : Below w.heap.size w w3 := ((((Below.refl _ _).alloc (Nat.le_refl _) _).alloc (by simp) _).alloc (by simp; omega) _).trans (hb5.mono (by simp; omega))
      rw [← HP.out]
      clear HP
      generalize hO : mulF (a, b) (c, d) = o
      have HO := Lib.hid hO; clear hO
      go_wp2
      refine bodyPost_ret (v := .tuple #[.agg #[.int .i64 (fN o), .int .i64 (fD o)], .bool (fOk o)]) (by simp [results, Try.results30, go_sem, k0, k1]) rfl ⟨by rw [HO.out], ?_⟩
      exact (hB.setCell (p := ⟨w.heap.size + 2, 0, none⟩) (by simp) _).setCell (p := ⟨w.heap.size + 2, 1, none⟩) (by simp) _
set_option maxHeartbeats 800000 in
theorem fracDiv_i (a b c d : Int) (w : World) : Calls Try.prog 25 #[.agg #[.int .i64 a, .int .i64 b], .agg #[.int .i64 c, .int .i64 d]] w fun e w' => e = retF (divF (a, b) (c, d)) ∧ Below w.heap.size w w' := by
  cases h1 : vB a b
  · have hp : divF (a, b) (c, d) = none := by simp [divF, h1]
    have HP := Lib.hid hp; clear hp
    go_enter Try.func25, Try.ntmps25
    go_wp2_with fail
    refine (fracValid_i _ _ _).mono ?_
    rintro e w1 ⟨rfl, hb1⟩
    have k0 : w1.cell? ⟨w.heap.size + 2, 0, none⟩ = some (.int .i64 0) := kc hb1 _ (by simp [go_sem])
    have k1 : w1.cell? ⟨w.heap.size + 2, 1, none⟩ = some (.int .i64 0) := kc hb1 _ (by simp [go_sem])
    have f0 : w1.frozen? ⟨w.heap.size + 2, 0, none⟩ = false := kf hb1 _ (by simp) (by simp [go_sem])
    have f1 : w1.frozen? ⟨w.heap.size + 2, 1, none⟩ = false := kf hb1 _ (by simp) (by simp [go_sem])
    have hB : Below w.heap.size w w1 := ((((Below.refl _ _).alloc (Nat.le_refl _) _).alloc (by simp) _).alloc (by simp; omega) _).trans (hb1.mono (by simp; omega))
    go_wp2
    refine bodyPost_ret (v := .tuple #[.agg #[.int .i64 0, .int .i64 0], .bool false]) (by simp [results, Try.results25, go_sem, k0, k1]) rfl ⟨by rw [HP.out]; rfl, ?_⟩
    exact (hB.setCell (p := ⟨w.heap.size + 2, 0, none⟩) (by simp) _).setCell (p := ⟨w.heap.size + 2, 1, none⟩) (by simp) _
  · cases h2 : vB c d
    · have hp : divF (a, b) (c, d) = none := by simp [divF, h2]
      have HP := Lib.hid hp; clear hp
      go_enter Try.func25, Try.ntmps25
      go_wp2_with fail
      refine (fracValid_i _ _ _).mono ?_
      rintro e w1 ⟨rfl, hb1⟩
      have q0 : w1.cell? ⟨w.heap.size + 1, 0, none⟩ = some (.int .i64 c) := kc hb1 _ (by simp [go_sem])
      have q1 : w1.cell? ⟨w.heap.size + 1, 1, none⟩ = some (.int .i64 d) := kc hb1 _ (by simp [go_sem])
      go_wp2_with fail
      refine (fracValid_i _ _ _).mono ?_
      rintro e w2 ⟨rfl, hb2⟩
      have hb3 := hb1.trans (hb2.mono hb1.size)
      clear hb1 hb2 q0 q1
      have k0 : w2.cell? ⟨w.heap.size + 2, 0, none⟩ = some (.int .i64 0) := kc hb3 _ (by simp [go_sem])
      have k1 : w2.cell? ⟨w.heap.size + 2, 1, none⟩ = some (.int .i64 0) := kc hb3 _ (by simp [go_sem])
      have f0 : w2.frozen? ⟨w.heap.size + 2, 0, none⟩ = false := kf hb3 _ (by simp) (by simp [go_sem])
      have f1 : w2.frozen? ⟨w.heap.size + 2, 1, none⟩ = false := kf hb3 _ (by simp) (by simp [go_sem])
      have hB : Below w.heap.size w w2 := ((((Below.refl _ _).alloc (Nat.le_refl _) _).alloc (by simp) _).alloc (by simp; omega) _).trans (hb3.mono (by simp; omega))
      go_wp2
      refine bodyPost_ret (v := .tuple #[.agg #[.int .i64 0, .int .i64 0], .bool false]) (by simp [results, Try.results25, go_sem, k0, k1]) rfl ⟨by rw [HP.out]; rfl, ?_⟩
      exact (hB.setCell (p := ⟨w.heap.size + 2, 0, none⟩) (by simp) _).setCell (p := ⟨w.heap.size + 2, 1, none⟩) (by simp) _
    · by_cases h3 : c = 0
      · subst h3
        have hp : divF (a, b) (0, d) = none := by simp [divF]
        have HP := Lib.hid hp; clear hp
        go_enter Try.func25, Try.ntmps25
        go_wp2_with fail
        refine (fracValid_i _ _ _).mono ?_
        rintro e w1 ⟨rfl, hb1⟩
        have q0 : w1.cell? ⟨w.heap.size + 1, 0, none⟩ = some (.int .i64 0) := kc hb1 _ (by simp [go_sem])
        have q1 : w1.cell? ⟨w.heap.size + 1, 1, none⟩ = some (.int .i64 d) := kc hb1 _ (by simp [go_sem])
        go_wp2_with fail
        refine (fracValid_i _ _ _).mono ?_
        rintro e w2 ⟨rfl, hb2⟩
        have hb3 := hb1.trans (hb2.mono hb1.size)
        clear hb1 hb2 q0 q1
        have k0 : w2.cell? ⟨w.heap.size + 2, 0, none⟩ = some (.int .i64 0) := kc hb3 _ (by simp [go_sem])
        have k1 : w2.cell? ⟨w.heap.size + 2, 1, none⟩ = some (.int .i64 0) := kc hb3 _ (by simp [go_sem])
        have k2 : w2.cell? ⟨w.heap.size + 1, 0, none⟩ = some (.int .i64 0) := kc hb3 _ (by simp [go_sem])
        have f0 : w2.frozen? ⟨w.heap.size + 2, 0, none⟩ = false := kf hb3 _ (by simp) (by simp [go_sem])
        have f1 : w2.frozen? ⟨w.heap.size + 2, 1, none⟩ = false := kf hb3 _ (by simp) (by simp [go_sem])
        have hB : Below w.heap.size w w2 := ((((Below.refl _ _).alloc (Nat.le_refl _) _).alloc (by simp) _).alloc (by simp; omega) _).trans (hb3.mono (by simp; omega))
        go_wp2
        refine bodyPost_ret (v := .tuple #[.agg #[.int .i64 0, .int .i64 0], .bool false]) (by simp [results, Try.results25, go_sem, k0, k1]) rfl ⟨by rw [HP.out]; rfl, ?_⟩
        exact (hB.setCell (p := ⟨w.heap.size + 2, 0, none⟩) (by simp) _).setCell (p := ⟨w.heap.size + 2, 1, none⟩) (by simp) _
      · have h4 : (c == 0) = false := by simp [h3]
        have hp : divF (a, b) (c, d) = ofF (a * d) (b * c) := by simp [divF, h1, h2, h3]
        have HP := Lib.hid hp; clear hp
        have m1 := vB_mul h1 h2
        obtain ⟨⟨m1, m2⟩, ⟨m3, m4⟩, ⟨m5, m6⟩, ⟨m7, m8⟩⟩ := m1
        have m9 : -1000000000000000000 ≤ b * c ∧ b * c ≤ 1000000000000000000 := by rw [Int.mul_comm]; exact ⟨m3, m4⟩
        obtain ⟨m9, m10⟩ := m9
        go_enter Try.func25, Try.ntmps25
        go_wp2_with fail
        refine (fracValid_i _ _ _).mono ?_
        rintro e w1 ⟨rfl, hb1⟩
        have q0 : w1.cell? ⟨w.heap.size + 1, 0, none⟩ = some (.int .i64 c) := kc hb1 _ (by simp [go_sem])
        have q1 : w1.cell? ⟨w.heap.size + 1, 1, none⟩ = some (.int .i64 d) := kc hb1 _ (by simp [go_sem])
        go_wp2_with fail
        refine (fracValid_i _ _ _).mono ?_
        rintro e w2 ⟨rfl, hb2⟩
        have hb3 := hb1.trans (hb2.mono hb1.size)
        clear hb1 hb2 q0 q1
        have k0 : w2.cell? ⟨w.heap.size, 0, none⟩ = some (.int .i64 a) := kc hb3 _ (by simp [go_sem])
        have k1 : w2.cell? ⟨w.heap.size, 1, none⟩ = some (.int .i64 b) := kc hb3 _ (by simp [go_sem])
        have k2 : w2.cell? ⟨w.heap.size + 1, 0, none⟩ = some (.int .i64 c) := kc hb3 _ (by simp [go_sem])
        have k3 : w2.cell? ⟨w.heap.size + 1, 1, none⟩ = some (.int .i64 d) := kc hb3 _ (by simp [go_sem])
        go_wp2_with fail
        refine (fracOf_i _ _ _).mono ?_
        rintro e w3 ⟨rfl, hb4⟩
        have hb5 := hb3.trans (hb4.mono hb3.size)
        clear hb3 hb4 k0 k1 k2 k3
        have k0 : w3.cell? ⟨w.heap.size + 2, 0, none⟩ = some (.int .i64 0) := kc hb5 _ (by simp [go_sem])
        have k1 : w3.cell? ⟨w.heap.size + 2, 1, none⟩ = some (.int .i64 0) := kc hb5 _ (by simp [go_sem])
        have f0 : w3.frozen? ⟨w.heap.size + 2, 0, none⟩ = false := kf hb5 _ (by simp) (by simp [go_sem])
        have f1 : w3.frozen? ⟨w.heap.size + 2, 1, none⟩ = false := kf hb5 _ (by simp) (by simp [go_sem])
        have hB : Below w.heap.size w w3 := ((((Below.refl _ _).alloc (Nat.le_refl _) _).alloc (by simp) _).alloc (by simp; omega) _).trans (hb5.mono (by simp; omega))
        rw [← HP.out]
        clear HP
        generalize hO : divF (a, b) (c, d) = o
        have HO := Lib.hid hO; clear hO
        go_wp2
        refine bodyPost_ret (v := .tuple #[.agg #[.int .i64 (fN o), .int .i64 (fD o)], .bool (fOk o)]) (by simp [results, Try.results25, go_sem, k0, k1]) rfl ⟨by rw [HO.out], ?_⟩
        exact (hB.setCell (p := ⟨w.heap.size + 2, 0, none⟩) (by simp) _).setCell (p := ⟨w.heap.size + 2, 1, none⟩) (by simp) _
set_option maxHeartbeats 800000 in
theorem fracLess_i (a b c d : Int) (w : World) : Calls Try.prog 15 #[.agg #[.int .i64 a, .int .i64 b], .agg #[.int .i64 c, .int .i64 d]] w fun e w' => e = .returned (.bool (ltF (a, b) (c, d))) ∧ Below w.heap.size w w' := by
  cases h1 : vB a b
  · have hp : ltF (a, b) (c, d) = false := by simp [ltF, h1]
    have HP := Lib.hid hp; clear hp
    go_enter Try.func15, Try.ntmps15
    go_wp2_with fail
    refine (fracValid_i _ _ _).mono ?_
    rintro e w1 ⟨rfl, hb1⟩
    have hB : Below w.heap.size w w1 := (((Below.refl _ _).alloc (Nat.le_refl _) _).alloc (by simp) _).trans (hb1.mono (by simp; omega))
    go_wp2
    go_ret
    exact ⟨by rw [HP.out]; rfl, hB⟩
  · cases h2 : vB c d
    · have hp : ltF (a, b) (c, d) = false := by simp [ltF, h2]
      have HP := Lib.hid hp; clear hp
      go_enter Try.func15, Try.ntmps15
      go_wp2_with fail
      refine (fracValid_i _ _ _).mono ?_
      rintro e w1 ⟨rfl, hb1⟩
      have q0 : w1.cell? ⟨w.heap.size + 1, 0, none⟩ = some (.int .i64 c) := kc hb1 _ (by simp [go_sem])
      have q1 : w1.cell? ⟨w.heap.size + 1, 1, none⟩ = some (.int .i64 d) := kc hb1 _ (by simp [go_sem])
      go_wp2_with fail
      refine (fracValid_i _ _ _).mono ?_
      rintro e w2 ⟨rfl, hb2⟩
      have hb3 := hb1.trans (hb2.mono hb1.size)
      have hB : Below w.heap.size w w2 := (((Below.refl _ _).alloc (Nat.le_refl _) _).alloc (by simp) _).trans (hb3.mono (by simp; omega))
      clear hb1 hb2 q0 q1 hb3
      go_wp2
      go_ret
      exact ⟨by rw [HP.out]; rfl, hB⟩
    · have hp : ltF (a, b) (c, d) = decide (a * d < c * b) := by simp [ltF, h1, h2]
      have HP := Lib.hid hp; clear hp
      have m1 := vB_mul h1 h2
      obtain ⟨⟨m1, m2⟩, ⟨m3, m4⟩, ⟨m5, m6⟩, ⟨m7, m8⟩⟩ := m1
      go_enter Try.func15, Try.ntmps15
      go_wp2_with fail
      refine (fracValid_i _ _ _).mono ?_
      rintro e w1 ⟨rfl, hb1⟩
      have q0 : w1.cell? ⟨w.heap.size + 1, 0, none⟩ = some (.int .i64 c) := kc hb1 _ (by simp [go_sem])
      have q1 : w1.cell? ⟨w.heap.size + 1, 1, none⟩ = some (.int .i64 d) := kc hb1 _ (by simp [go_sem])
      go_wp2_with fail
      refine (fracValid_i _ _ _).mono ?_
      rintro e w2 ⟨rfl, hb2⟩
      have hb3 := hb1.trans (hb2.mono hb1.size)
      have hB : Below w.heap.size w w2 := (((Below.refl _ _).alloc (Nat.le_refl _) _).alloc (by simp) _).trans (hb3.mono (by simp; omega))
      clear hb1 hb2 q0 q1
      have k0 : w2.cell? ⟨w.heap.size, 0, none⟩ = some (.int .i64 a) := kc hb3 _ (by simp [go_sem])
      have k1 : w2.cell? ⟨w.heap.size, 1, none⟩ = some (.int .i64 b) := kc hb3 _ (by simp [go_sem])
      have k2 : w2.cell? ⟨w.heap.size + 1, 0, none⟩ = some (.int .i64 c) := kc hb3 _ (by simp [go_sem])
      have k3 : w2.cell? ⟨w.heap.size + 1, 1, none⟩ = some (.int .i64 d) := kc hb3 _ (by simp [go_sem])
      clear hb3
      go_wp2
      go_ret
      exact ⟨by rw [HP.out]; rfl, hB⟩
end Go.Proofs.Ytlolhnjbogfkfaa
