/-
  Contract of the reference's FracOf and of its functions on two fractions.
-/
import Derived.Test.YtidcomcnieggaaaFrac3
namespace Go.Proofs.Ytidcomcnieggaaa
open Go.RowKit
set_option linter.unusedVariables false

theorem inB_inL {a : Int} : inB a (-4000000000000000000) 4000000000000000000 = true ↔ inL a := by simp [inB, inL]
theorem inB_notL {a : Int} : inB a (-4000000000000000000) 4000000000000000000 = false ↔ ¬ inL a := by simp [inB, inL]
theorem gcd_abs (a b : Int) : Int.gcd (a.natAbs : Int) b = Int.gcd a b := by unfold Int.gcd; rw [Int.natAbs_natCast]
theorem gcd_abs_neg (a b : Int) : Int.gcd (a.natAbs : Int) (-b) = Int.gcd a b := by unfold Int.gcd; rw [Int.natAbs_natCast, Int.natAbs_neg]
theorem tdiv_neg_neg (a g : Int) : (-a).tdiv (-g) = a.tdiv g := by rw [Int.neg_tdiv, Int.tdiv_neg, Int.neg_neg]

set_option maxHeartbeats 800000 in
theorem fracOf_s (a b : Int) (w : World) : Calls Try.prog 63 #[.int .i64 a, .int .i64 b] w fun e w' => e = retF (ofF a b) ∧ Below w.heap.size w w' := by
  by_cases c : b ≠ 0 ∧ inL a ∧ inL b
  · obtain ⟨c0, ca, cb⟩ := c
    have hgp := gcd_bd (a := a) c0 cb
    have hb0 : (b == 0) = false := by simp [c0]
    have ia := inB_inL.2 ca
    have ib := inB_inL.2 cb
    have hq := tdiv_gS (a := a) c0
    have hx := div_bd ca (gS_dvd_left a b) (gS_ne c0)
    have hy := div_bd cb (gS_dvd_right a b) (gS_ne c0)
    have hyes := @ofF_yes a b _ _ c0 ca cb rfl rfl
    have hbad := @ofF_bad a b _ _ rfl rfl
    have hgs : gS a b = if b < 0 then -(Int.gcd a b : Int) else (Int.gcd a b : Int) := rfl
    unfold inL at ca cb
    obtain ⟨a1, a2⟩ := ca
    obtain ⟨b1, b2⟩ := cb
    generalize a / gS a b = x at *
    generalize b / gS a b = y at *
    generalize gS a b = G at *
    obtain ⟨q1, q2⟩ := hq
    obtain ⟨x1, x2⟩ := hx
    obtain ⟨y1, y2⟩ := hy
    obtain ⟨g1, g2⟩ := hgp
    have HY := Lib.hid hyes; clear hyes
    have HN := Lib.hid hbad; clear hbad
    have wx : IntKind.i64.wrap x = x := IntWalk.i64_in _ (by omega)
    have wy : IntKind.i64.wrap y = y := IntWalk.i64_in _ (by omega)
    have WX := Lib.hid wx; clear wx
    have WY := Lib.hid wy; clear wy
    by_cases hneg : b < 0
    · rw [if_pos hneg] at hgs
      have q1' : (-a).tdiv (Int.gcd a b : Int) = x := by rw [← tdiv_neg_neg, Int.neg_neg, ← hgs]; exact q1
      have q2' : (-b).tdiv (Int.gcd a b : Int) = y := by rw [← tdiv_neg_neg, Int.neg_neg, ← hgs]; exact q2
      have Q1 := Lib.hid q1'; clear q1 q1'
      have Q2 := Lib.hid q2'; clear q2 q2'
      have HG := Lib.hid hgs; clear hgs
      go_enter Try.func63, Try.ntmps63
      go_wp2_with (first | (go_at_call 49; refine (l6In_s _ _ _ _).mono ?_; rintro e w' ⟨rfl, rfl⟩) | (go_at_call 71; refine (l2Abs_s _ _ (by omega) (by omega)).mono ?_; rintro e w' ⟨rfl, rfl⟩))
      refine (l2Gcd_s _ _ _ (by unfold inL; omega) (by unfold inL; omega) (by omega) (by omega)).mono ?_
      rintro e w' ⟨rfl, rfl⟩
      rw [gcd_abs_neg]
      generalize (Int.gcd a b : Int) = g at *
      have q1 := Q1.out
      have q2 := Q2.out
      have G0 : ¬ g = 0 := by omega
      have wx := WX.out
      have wy := WY.out
      go_wp2
      go_region
      clear q1 q2 G0 wx wy
      cases hv : vB x y
      · go_wp2_with fail
        refine (fracValid_s _ _ _).mono ?_
        rintro e w1 ⟨rfl, hb1⟩
        have hz : w.heap.size + 1 < w1.heap.size := by have := hb1.size; simp at this; omega
        have hB : Below w.heap.size w w1 := ((below_drewN ((Below.refl _ _).alloc (Nat.le_refl _) _) 1).alloc (by simp) _).trans (hb1.mono (by simp; omega))
        have k0 : w1.cell? ⟨w.heap.size, 0, none⟩ = some (.int .i64 0) := kc hb1 _ (by simp [go_sem])
        have k1 : w1.cell? ⟨w.heap.size, 1, none⟩ = some (.int .i64 0) := kc hb1 _ (by simp [go_sem])
        have f0 : w1.frozen? ⟨w.heap.size, 0, none⟩ = false := kf hb1 _ (by simp; omega) (by simp [go_sem])
        have f1 : w1.frozen? ⟨w.heap.size, 1, none⟩ = false := kf hb1 _ (by simp; omega) (by simp [go_sem])
        clear hb1
        go_wp2
        refine bodyPost_ret (v := .tuple #[.agg #[.int .i64 0, .int .i64 0], .bool false]) (by simp [results, Try.results63, go_sem, k0, k1]) rfl ⟨by rw [HN.out hv]; rfl, ?_⟩
        exact (hB.setCell (p := ⟨w.heap.size, 0, none⟩) (Nat.le_refl _) _).setCell (p := ⟨w.heap.size, 1, none⟩) (Nat.le_refl _) _
      · go_wp2_with fail
        refine (fracValid_s _ _ _).mono ?_
        rintro e w1 ⟨rfl, hb1⟩
        have hz : w.heap.size + 1 < w1.heap.size := by have := hb1.size; simp at this; omega
        have hB : Below w.heap.size w w1 := ((below_drewN ((Below.refl _ _).alloc (Nat.le_refl _) _) 1).alloc (by simp) _).trans (hb1.mono (by simp; omega))
        have k0 : w1.cell? ⟨w.heap.size, 0, none⟩ = some (.int .i64 0) := kc hb1 _ (by simp [go_sem])
        have k1 : w1.cell? ⟨w.heap.size, 1, none⟩ = some (.int .i64 0) := kc hb1 _ (by simp [go_sem])
        have k2 : w1.cell? ⟨w.heap.size + 1, 0, none⟩ = some (.int .i64 x) := kc hb1 _ (by simp [go_sem])
        have k3 : w1.cell? ⟨w.heap.size + 1, 1, none⟩ = some (.int .i64 y) := kc hb1 _ (by simp [go_sem])
        have f0 : w1.frozen? ⟨w.heap.size, 0, none⟩ = false := kf hb1 _ (by simp; omega) (by simp [go_sem])
        have f1 : w1.frozen? ⟨w.heap.size, 1, none⟩ = false := kf hb1 _ (by simp; omega) (by simp [go_sem])
        clear hb1
        go_wp2
        refine bodyPost_ret (v := .tuple #[.agg #[.int .i64 x, .int .i64 y], .bool true]) (by simp [results, Try.results63, go_sem, k0, k1]) rfl ⟨by rw [HY.out hv]; rfl, ?_⟩
        exact (hB.setCell (p := ⟨w.heap.size, 0, none⟩) (Nat.le_refl _) _).setCell (p := ⟨w.heap.size, 1, none⟩) (Nat.le_refl _) _
    · rw [if_neg hneg] at hgs
      have q1' : (a).tdiv (Int.gcd a b : Int) = x := by rw [← hgs]; exact q1
      have q2' : (b).tdiv (Int.gcd a b : Int) = y := by rw [← hgs]; exact q2
      have Q1 := Lib.hid q1'; clear q1 q1'
      have Q2 := Lib.hid q2'; clear q2 q2'
      have HG := Lib.hid hgs; clear hgs
      go_enter Try.func63, Try.ntmps63
      go_wp2_with (first | (go_at_call 49; refine (l6In_s _ _ _ _).mono ?_; rintro e w' ⟨rfl, rfl⟩) | (go_at_call 71; refine (l2Abs_s _ _ (by omega) (by omega)).mono ?_; rintro e w' ⟨rfl, rfl⟩))
      refine (l2Gcd_s _ _ _ (by unfold inL; omega) (by unfold inL; omega) (by omega) (by omega)).mono ?_
      rintro e w' ⟨rfl, rfl⟩
      rw [gcd_abs]
      generalize (Int.gcd a b : Int) = g at *
      have q1 := Q1.out
      have q2 := Q2.out
      have G0 : ¬ g = 0 := by omega
      have wx := WX.out
      have wy := WY.out
      go_wp2
      go_region
      clear q1 q2 G0 wx wy
      cases hv : vB x y
      · go_wp2_with fail
        refine (fracValid_s _ _ _).mono ?_
        rintro e w1 ⟨rfl, hb1⟩
        have hz : w.heap.size + 1 < w1.heap.size := by have := hb1.size; simp at this; omega
        have hB : Below w.heap.size w w1 := ((below_drewN ((Below.refl _ _).alloc (Nat.le_refl _) _) 1).alloc (by simp) _).trans (hb1.mono (by simp; omega))
        have k0 : w1.cell? ⟨w.heap.size, 0, none⟩ = some (.int .i64 0) := kc hb1 _ (by simp [go_sem])
        have k1 : w1.cell? ⟨w.heap.size, 1, none⟩ = some (.int .i64 0) := kc hb1 _ (by simp [go_sem])
        have f0 : w1.frozen? ⟨w.heap.size, 0, none⟩ = false := kf hb1 _ (by simp; omega) (by simp [go_sem])
        have f1 : w1.frozen? ⟨w.heap.size, 1, none⟩ = false := kf hb1 _ (by simp; omega) (by simp [go_sem])
        clear hb1
        go_wp2
        refine bodyPost_ret (v := .tuple #[.agg #[.int .i64 0, .int .i64 0], .bool false]) (by simp [results, Try.results63, go_sem, k0, k1]) rfl ⟨by rw [HN.out hv]; rfl, ?_⟩
        exact (hB.setCell (p := ⟨w.heap.size, 0, none⟩) (Nat.le_refl _) _).setCell (p := ⟨w.heap.size, 1, none⟩) (Nat.le_refl _) _
      · go_wp2_with fail
        refine (fracValid_s _ _ _).mono ?_
        rintro e w1 ⟨rfl, hb1⟩
        have hz : w.heap.size + 1 < w1.heap.size := by have := hb1.size; simp at this; omega
        have hB : Below w.heap.size w w1 := ((below_drewN ((Below.refl _ _).alloc (Nat.le_refl _) _) 1).alloc (by simp) _).trans (hb1.mono (by simp; omega))
        have k0 : w1.cell? ⟨w.heap.size, 0, none⟩ = some (.int .i64 0) := kc hb1 _ (by simp [go_sem])
        have k1 : w1.cell? ⟨w.heap.size, 1, none⟩ = some (.int .i64 0) := kc hb1 _ (by simp [go_sem])
        have k2 : w1.cell? ⟨w.heap.size + 1, 0, none⟩ = some (.int .i64 x) := kc hb1 _ (by simp [go_sem])
        have k3 : w1.cell? ⟨w.heap.size + 1, 1, none⟩ = some (.int .i64 y) := kc hb1 _ (by simp [go_sem])
        have f0 : w1.frozen? ⟨w.heap.size, 0, none⟩ = false := kf hb1 _ (by simp; omega) (by simp [go_sem])
        have f1 : w1.frozen? ⟨w.heap.size, 1, none⟩ = false := kf hb1 _ (by simp; omega) (by simp [go_sem])
        clear hb1
        go_wp2
        refine bodyPost_ret (v := .tuple #[.agg #[.int .i64 x, .int .i64 y], .bool true]) (by simp [results, Try.results63, go_sem, k0, k1]) rfl ⟨by rw [HY.out hv]; rfl, ?_⟩
        exact (hB.setCell (p := ⟨w.heap.size, 0, none⟩) (Nat.le_refl _) _).setCell (p := ⟨w.heap.size, 1, none⟩) (Nat.le_refl _) _
  · have hno := ofF_no c
    have HN := Lib.hid hno; clear hno
    cases ia : inB a (-4000000000000000000) 4000000000000000000
    · go_enter Try.func63, Try.ntmps63
      go_wp2_with (go_at_call 49; refine (l6In_s _ _ _ _).mono ?_; rintro e w' ⟨rfl, rfl⟩)
      exact bodyPost_ret (v := .tuple #[.agg #[.int .i64 0, .int .i64 0], .bool false]) (by simp [results, Try.results63, go_sem]) rfl ⟨by rw [HN.out]; rfl, (Below.refl _ _).alloc (Nat.le_refl _) _⟩
    · cases ib : inB b (-4000000000000000000) 4000000000000000000
      · go_enter Try.func63, Try.ntmps63
        go_wp2_with (go_at_call 49; refine (l6In_s _ _ _ _).mono ?_; rintro e w' ⟨rfl, rfl⟩)
        exact bodyPost_ret (v := .tuple #[.agg #[.int .i64 0, .int .i64 0], .bool false]) (by simp [results, Try.results63, go_sem]) rfl ⟨by rw [HN.out]; rfl, (Below.refl _ _).alloc (Nat.le_refl _) _⟩
      · have h0 : b = 0 := by
          by_cases h : b = 0
          · exact h
          · exact absurd ⟨h, inB_inL.1 ia, inB_inL.1 ib⟩ c
        subst h0
        clear c
        go_enter Try.func63, Try.ntmps63
        go_wp2_with (go_at_call 49; refine (l6In_s _ _ _ _).mono ?_; rintro e w' ⟨rfl, rfl⟩)
        exact bodyPost_ret (v := .tuple #[.agg #[.int .i64 0, .int .i64 0], .bool false]) (by simp [results, Try.results63, go_sem]) rfl ⟨by rw [HN.out]; rfl, (Below.refl _ _).alloc (Nat.le_refl _) _⟩

set_option maxHeartbeats 800000 in
theorem l2Two_s (a b c d : Int) (w : World) : Calls Try.prog 69 #[.agg #[.int .i64 a, .int .i64 b], .agg #[.int .i64 c, .int .i64 d]] w fun e w' => e = .returned (.bool (vB a b && vB c d)) ∧ Below w.heap.size w w' := by
  cases h1 : vB a b
  · go_enter Try.func69, Try.ntmps69
    go_wp2_with fail
    refine (fracValid_s _ _ _).mono ?_
    rintro e w1 ⟨rfl, hb1⟩
    have hB : Below w.heap.size w w1 := (((Below.refl _ _).alloc (Nat.le_refl _) _).alloc (by simp) _).trans (hb1.mono (by simp; omega))
    go_wp2
    go_ret
    exact ⟨rfl, hB⟩
  · go_enter Try.func69, Try.ntmps69
    go_wp2_with fail
    refine (fracValid_s _ _ _).mono ?_
    rintro e w1 ⟨rfl, hb1⟩
    have q0 : w1.cell? ⟨w.heap.size + 1, 0, none⟩ = some (.int .i64 c) := kc hb1 _ (by simp [go_sem])
    have q1 : w1.cell? ⟨w.heap.size + 1, 1, none⟩ = some (.int .i64 d) := kc hb1 _ (by simp [go_sem])
    go_wp2_with fail
    refine (fracValid_s _ _ _).mono ?_
    rintro e w2 ⟨rfl, hb2⟩
    have hb3 := hb1.trans (hb2.mono hb1.size)
    have hB : Below w.heap.size w w2 := (((Below.refl _ _).alloc (Nat.le_refl _) _).alloc (by simp) _).trans (hb3.mono (by simp; omega))
    clear hb1 hb2 q0 q1 hb3
    cases h2 : vB c d
    · go_wp2
      go_ret
      exact ⟨by rw [h2]; rfl, hB⟩
    · go_wp2
      go_ret
      exact ⟨by rw [h2]; rfl, hB⟩

set_option maxHeartbeats 800000 in
theorem fracAdd_s (a b c d : Int) (w : World) : Calls Try.prog 66 #[.agg #[.int .i64 a, .int .i64 b], .agg #[.int .i64 c, .int .i64 d]] w fun e w' => e = retF (addF (a, b) (c, d)) ∧ Below w.heap.size w w' := by
  cases h0 : (vB a b && vB c d)
  · have hp : addF (a, b) (c, d) = none := by
      rw [Bool.and_eq_false_iff] at h0
      rcases h0 with h0 | h0 <;> simp [addF, h0]
    have HP := Lib.hid hp; clear hp
    go_enter Try.func66, Try.ntmps66
    go_wp2_with fail
    refine (l2Two_s _ _ _ _ _).mono ?_
    rw [h0]
    rintro e w1 ⟨rfl, hb1⟩
    have k0 : w1.cell? ⟨w.heap.size + 2, 0, none⟩ = some (.int .i64 0) := kc hb1 _ (by simp [go_sem])
    have k1 : w1.cell? ⟨w.heap.size + 2, 1, none⟩ = some (.int .i64 0) := kc hb1 _ (by simp [go_sem])
    have f0 : w1.frozen? ⟨w.heap.size + 2, 0, none⟩ = false := kf hb1 _ (by simp) (by simp [go_sem])
    have f1 : w1.frozen? ⟨w.heap.size + 2, 1, none⟩ = false := kf hb1 _ (by simp) (by simp [go_sem])
    have hB : Below w.heap.size w w1 := ((((Below.refl _ _).alloc (Nat.le_refl _) _).alloc (by simp) _).alloc (by simp; omega) _).trans (hb1.mono (by simp; omega))
    clear h0
    go_wp2
    refine bodyPost_ret (v := .tuple #[.agg #[.int .i64 0, .int .i64 0], .bool false]) (by simp [results, Try.results66, go_sem, k0, k1]) rfl ⟨by rw [HP.out]; rfl, ?_⟩
    exact (hB.setCell (p := ⟨w.heap.size + 2, 0, none⟩) (by simp) _).setCell (p := ⟨w.heap.size + 2, 1, none⟩) (by simp) _
  · have h1 : vB a b = true := by rw [Bool.and_eq_true] at h0; exact h0.1
    have h2 : vB c d = true := by rw [Bool.and_eq_true] at h0; exact h0.2
    have hp : addF (a, b) (c, d) = ofF (a * d + c * b) (b * d) := by simp [addF, h1, h2]
    have HP := Lib.hid hp; clear hp
    have m1 := vB_mul h1 h2
    obtain ⟨⟨m1, m2⟩, ⟨m3, m4⟩, ⟨m5, m6⟩, ⟨m7, m8⟩⟩ := m1
    have m9 : -1000000000000000000 ≤ b * c ∧ b * c ≤ 1000000000000000000 := by rw [Int.mul_comm]; exact ⟨m3, m4⟩
    obtain ⟨m9, m10⟩ := m9
    clear h1 h2
    go_enter Try.func66, Try.ntmps66
    go_wp2_with fail
    refine (l2Two_s _ _ _ _ _).mono ?_
    rw [h0]
    clear h0
    rintro e w2 ⟨rfl, hb3⟩
    have k0 : w2.cell? ⟨w.heap.size, 0, none⟩ = some (.int .i64 a) := kc hb3 _ (by simp [go_sem])
    have k1 : w2.cell? ⟨w.heap.size, 1, none⟩ = some (.int .i64 b) := kc hb3 _ (by simp [go_sem])
    have k2 : w2.cell? ⟨w.heap.size + 1, 0, none⟩ = some (.int .i64 c) := kc hb3 _ (by simp [go_sem])
    have k3 : w2.cell? ⟨w.heap.size + 1, 1, none⟩ = some (.int .i64 d) := kc hb3 _ (by simp [go_sem])
    go_wp2_with fail
    refine (fracOf_s _ _ _).mono ?_
    rintro e w3 ⟨rfl, hb4⟩
    have hb5 := hb3.trans (hb4.mono hb3.size)
    clear hb3 hb4 k0 k1 k2 k3
    have k0 : w3.cell? ⟨w.heap.size + 2, 0, none⟩ = some (.int .i64 0) := kc hb5 _ (by simp [go_sem])
    have k1 : w3.cell? ⟨w.heap.size + 2, 1, none⟩ = some (.int .i64 0) := kc hb5 _ (by simp [go_sem])
    have f0 : w3.frozen? ⟨w.heap.size + 2, 0, none⟩ = false := kf hb5 _ (by simp) (by simp [go_sem])
    have f1 : w3.frozen? ⟨w.heap.size + 2, 1, none⟩ = false := kf hb5 _ (by simp) (by simp [go_sem])
    have hB : Below w.heap.size w w3 := ((((Below.refl _ _).alloc (Nat.le_refl _) _).alloc (by simp) _).alloc (by simp; omega) _).trans (hb5.mono (by simp; omega))
    rw [← HP.out]
    clear HP
    generalize hO : addF (a, b) (c, d) = o
    have HO := Lib.hid hO; clear hO
    go_wp2
    refine bodyPost_ret (v := .tuple #[.agg #[.int .i64 (fN o), .int .i64 (fD o)], .bool (fOk o)]) (by simp [results, Try.results66, go_sem, k0, k1]) rfl ⟨by rw [HO.out], ?_⟩
    exact (hB.setCell (p := ⟨w.heap.size + 2, 0, none⟩) (by simp) _).setCell (p := ⟨w.heap.size + 2, 1, none⟩) (by simp) _

set_option maxHeartbeats 800000 in
theorem fracSub_s (a b c d : Int) (w : World) : Calls Try.prog 64 #[.agg #[.int .i64 a, .int .i64 b], .agg #[.int .i64 c, .int .i64 d]] w fun e w' => e = retF (subF (a, b) (c, d)) ∧ Below w.heap.size w w' := by
  cases h0 : (vB a b && vB c d)
  · have hp : subF (a, b) (c, d) = none := by
      rw [Bool.and_eq_false_iff] at h0
      rcases h0 with h0 | h0 <;> simp [subF, h0]
    have HP := Lib.hid hp; clear hp
    go_enter Try.func64, Try.ntmps64
    go_wp2_with fail
    refine (l2Two_s _ _ _ _ _).mono ?_
    rw [h0]
    rintro e w1 ⟨rfl, hb1⟩
    have k0 : w1.cell? ⟨w.heap.size + 2, 0, none⟩ = some (.int .i64 0) := kc hb1 _ (by simp [go_sem])
    have k1 : w1.cell? ⟨w.heap.size + 2, 1, none⟩ = some (.int .i64 0) := kc hb1 _ (by simp [go_sem])
    have f0 : w1.frozen? ⟨w.heap.size + 2, 0, none⟩ = false := kf hb1 _ (by simp) (by simp [go_sem])
    have f1 : w1.frozen? ⟨w.heap.size + 2, 1, none⟩ = false := kf hb1 _ (by simp) (by simp [go_sem])
    have hB : Below w.heap.size w w1 := ((((Below.refl _ _).alloc (Nat.le_refl _) _).alloc (by simp) _).alloc (by simp; omega) _).trans (hb1.mono (by simp; omega))
    clear h0
    go_wp2
    refine bodyPost_ret (v := .tuple #[.agg #[.int .i64 0, .int .i64 0], .bool false]) (by simp [results, Try.results64, go_sem, k0, k1]) rfl ⟨by rw [HP.out]; rfl, ?_⟩
    exact (hB.setCell (p := ⟨w.heap.size + 2, 0, none⟩) (by simp) _).setCell (p := ⟨w.heap.size + 2, 1, none⟩) (by simp) _
  · have h1 : vB a b = true := by rw [Bool.and_eq_true] at h0; exact h0.1
    have h2 : vB c d = true := by rw [Bool.and_eq_true] at h0; exact h0.2
    have hp : subF (a, b) (c, d) = ofF (a * d - c * b) (b * d) := by simp [subF, h1, h2]
    have HP := Lib.hid hp; clear hp
    have m1 := vB_mul h1 h2
    obtain ⟨⟨m1, m2⟩, ⟨m3, m4⟩, ⟨m5, m6⟩, ⟨m7, m8⟩⟩ := m1
    have m9 : -1000000000000000000 ≤ b * c ∧ b * c ≤ 1000000000000000000 := by rw [Int.mul_comm]; exact ⟨m3, m4⟩
    obtain ⟨m9, m10⟩ := m9
    clear h1 h2
    go_enter Try.func64, Try.ntmps64
    go_wp2_with fail
    refine (l2Two_s _ _ _ _ _).mono ?_
    rw [h0]
    clear h0
    rintro e w2 ⟨rfl, hb3⟩
    have k0 : w2.cell? ⟨w.heap.size, 0, none⟩ = some (.int .i64 a) := kc hb3 _ (by simp [go_sem])
    have k1 : w2.cell? ⟨w.heap.size, 1, none⟩ = some (.int .i64 b) := kc hb3 _ (by simp [go_sem])
    have k2 : w2.cell? ⟨w.heap.size + 1, 0, none⟩ = some (.int .i64 c) := kc hb3 _ (by simp [go_sem])
    have k3 : w2.cell? ⟨w.heap.size + 1, 1, none⟩ = some (.int .i64 d) := kc hb3 _ (by simp [go_sem])
    go_wp2_with fail
    refine (fracOf_s _ _ _).mono ?_
    rintro e w3 ⟨rfl, hb4⟩
    have hb5 := hb3.trans (hb4.mono hb3.size)
    clear hb3 hb4 k0 k1 k2 k3
    have k0 : w3.cell? ⟨w.heap.size + 2, 0, none⟩ = some (.int .i64 0) := kc hb5 _ (by simp [go_sem])
    have k1 : w3.cell? ⟨w.heap.size + 2, 1, none⟩ = some (.int .i64 0) := kc hb5 _ (by simp [go_sem])
    have f0 : w3.frozen? ⟨w.heap.size + 2, 0, none⟩ = false := kf hb5 _ (by simp) (by simp [go_sem])
    have f1 : w3.frozen? ⟨w.heap.size + 2, 1, none⟩ = false := kf hb5 _ (by simp) (by simp [go_sem])
    have hB : Below w.heap.size w w3 := ((((Below.refl _ _).alloc (Nat.le_refl _) _).alloc (by simp) _).alloc (by simp; omega) _).trans (hb5.mono (by simp; omega))
    rw [← HP.out]
    clear HP
    generalize hO : subF (a, b) (c, d) = o
    have HO := Lib.hid hO; clear hO
    go_wp2
    refine bodyPost_ret (v := .tuple #[.agg #[.int .i64 (fN o), .int .i64 (fD o)], .bool (fOk o)]) (by simp [results, Try.results64, go_sem, k0, k1]) rfl ⟨by rw [HO.out], ?_⟩
    exact (hB.setCell (p := ⟨w.heap.size + 2, 0, none⟩) (by simp) _).setCell (p := ⟨w.heap.size + 2, 1, none⟩) (by simp) _

set_option maxHeartbeats 800000 in
theorem fracMul_s (a b c d : Int) (w : World) : Calls Try.prog 65 #[.agg #[.int .i64 a, .int .i64 b], .agg #[.int .i64 c, .int .i64 d]] w fun e w' => e = retF (mulF (a, b) (c, d)) ∧ Below w.heap.size w w' := by
  cases h0 : (vB a b && vB c d)
  · have hp : mulF (a, b) (c, d) = none := by
      rw [Bool.and_eq_false_iff] at h0
      rcases h0 with h0 | h0 <;> simp [mulF, h0]
    have HP := Lib.hid hp; clear hp
    go_enter Try.func65, Try.ntmps65
    go_wp2_with fail
    refine (l2Two_s _ _ _ _ _).mono ?_
    rw [h0]
    rintro e w1 ⟨rfl, hb1⟩
    have k0 : w1.cell? ⟨w.heap.size + 2, 0, none⟩ = some (.int .i64 0) := kc hb1 _ (by simp [go_sem])
    have k1 : w1.cell? ⟨w.heap.size + 2, 1, none⟩ = some (.int .i64 0) := kc hb1 _ (by simp [go_sem])
    have f0 : w1.frozen? ⟨w.heap.size + 2, 0, none⟩ = false := kf hb1 _ (by simp) (by simp [go_sem])
    have f1 : w1.frozen? ⟨w.heap.size + 2, 1, none⟩ = false := kf hb1 _ (by simp) (by simp [go_sem])
    have hB : Below w.heap.size w w1 := ((((Below.refl _ _).alloc (Nat.le_refl _) _).alloc (by simp) _).alloc (by simp; omega) _).trans (hb1.mono (by simp; omega))
    clear h0
    go_wp2
    refine bodyPost_ret (v := .tuple #[.agg #[.int .i64 0, .int .i64 0], .bool false]) (by simp [results, Try.results65, go_sem, k0, k1]) rfl ⟨by rw [HP.out]; rfl, ?_⟩
    exact (hB.setCell (p := ⟨w.heap.size + 2, 0, none⟩) (by simp) _).setCell (p := ⟨w.heap.size + 2, 1, none⟩) (by simp) _
  · have h1 : vB a b = true := by rw [Bool.and_eq_true] at h0; exact h0.1
    have h2 : vB c d = true := by rw [Bool.and_eq_true] at h0; exact h0.2
    have hp : mulF (a, b) (c, d) = ofF (a * c) (b * d) := by simp [mulF, h1, h2]
    have HP := Lib.hid hp; clear hp
    have m1 := vB_mul h1 h2
    obtain ⟨⟨m1, m2⟩, ⟨m3, m4⟩, ⟨m5, m6⟩, ⟨m7, m8⟩⟩ := m1
    have m9 : -1000000000000000000 ≤ b * c ∧ b * c ≤ 1000000000000000000 := by rw [Int.mul_comm]; exact ⟨m3, m4⟩
    obtain ⟨m9, m10⟩ := m9
    clear h1 h2
    go_enter Try.func65, Try.ntmps65
    go_wp2_with fail
    refine (l2Two_s _ _ _ _ _).mono ?_
    rw [h0]
    clear h0
    rintro e w2 ⟨rfl, hb3⟩
    have k0 : w2.cell? ⟨w.heap.size, 0, none⟩ = some (.int .i64 a) := kc hb3 _ (by simp [go_sem])
    have k1 : w2.cell? ⟨w.heap.size, 1, none⟩ = some (.int .i64 b) := kc hb3 _ (by simp [go_sem])
    have k2 : w2.cell? ⟨w.heap.size + 1, 0, none⟩ = some (.int .i64 c) := kc hb3 _ (by simp [go_sem])
    have k3 : w2.cell? ⟨w.heap.size + 1, 1, none⟩ = some (.int .i64 d) := kc hb3 _ (by simp [go_sem])
    go_wp2_with fail
    refine (fracOf_s _ _ _).mono ?_
    rintro e w3 ⟨rfl, hb4⟩
    have hb5 := hb3.trans (hb4.mono hb3.size)
    clear hb3 hb4 k0 k1 k2 k3
    have k0 : w3.cell? ⟨w.heap.size + 2, 0, none⟩ = some (.int .i64 0) := kc hb5 _ (by simp [go_sem])
    have k1 : w3.cell? ⟨w.heap.size + 2, 1, none⟩ = some (.int .i64 0) := kc hb5 _ (by simp [go_sem])
    have f0 : w3.frozen? ⟨w.heap.size + 2, 0, none⟩ = false := kf hb5 _ (by simp) (by simp [go_sem])
    have f1 : w3.frozen? ⟨w.heap.size + 2, 1, none⟩ = false := kf hb5 _ (by simp) (by simp [go_sem])
    have hB : Below w.heap.size w w3 := ((((Below.refl _ _).alloc (Nat.le_refl _) _).alloc (by simp) _).alloc (by simp; omega) _).trans (hb5.mono (by simp; omega))
    rw [← HP.out]
    clear HP
    generalize hO : mulF (a, b) (c, d) = o
    have HO := Lib.hid hO; clear hO
    go_wp2
    refine bodyPost_ret (v := .tuple #[.agg #[.int .i64 (fN o), .int .i64 (fD o)], .bool (fOk o)]) (by simp [results, Try.results65, go_sem, k0, k1]) rfl ⟨by rw [HO.out], ?_⟩
    exact (hB.setCell (p := ⟨w.heap.size + 2, 0, none⟩) (by simp) _).setCell (p := ⟨w.heap.size + 2, 1, none⟩) (by simp) _
end Go.Proofs.Ytidcomcnieggaaa
