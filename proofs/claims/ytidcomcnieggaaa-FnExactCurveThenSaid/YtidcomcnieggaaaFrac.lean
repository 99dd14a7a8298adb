/-
  Contracts of the functions on fractions: each call returns what the plain functions of PureF give, and turns nothing that was there.
-/
import Derived.Test.YtidcomcnieggaaaBase
import Derived.Test.YtidcomcnieggaaaPureF
namespace Go.Proofs.Ytidcomcnieggaaa
open Go.RowKit
set_option linter.unusedVariables false

theorem ret_bool {a b : Bool} (h : a = b) : Ending.returned (.bool a) = .returned (.bool b) := by rw [h]
theorem ret_int {k : IntKind} {a b : Int} (h : a = b) : Ending.returned (.int k a) = .returned (.int k b) := by rw [h]

theorem gcd_step (x y : Int) : Int.gcd y (x.tmod y) = Int.gcd x y := by
  unfold Int.gcd
  rw [Int.natAbs_tmod, Nat.gcd_comm, ← Nat.gcd_rec, Nat.gcd_comm]

theorem tmod_bd (x y : Int) (hy : y ≠ 0) : (x.tmod y).natAbs < y.natAbs := by
  rw [Int.natAbs_tmod]
  exact Nat.mod_lt _ (by omega)

set_option maxHeartbeats 400000 in
theorem gcd_c (a b : Int) (w : World) (ha : inL a) (hb : inL b) :
    Calls Try.prog 67 #[.int .i64 a, .int .i64 b] w fun e w' => e = .returned (.int .i64 (Int.gcd a b)) ∧ Drew w w' := by
  go_enter Try.func67, Try.ntmps67
  go_wp2
  go_loopw [0, 1] (fun s t wr => ∃ x y : Int, s = .int .i64 x ∧ t = .int .i64 y ∧ inL x ∧ inL y ∧ Int.gcd x y = Int.gcd a b ∧ Drew w wr) (fun _ t _ => (intOf t).natAbs)
  case atStart => exact ⟨a, b, rfl, rfl, ha, hb, rfl, Drew.refl _⟩
  case round =>
    obtain ⟨x, y, rfl, rfl, hx, hy, hg, hw⟩ := hrel
    have HG := Lib.hid hg
    clear hg
    unfold inL at hx hy
    obtain ⟨hx1, hx2⟩ := hx
    obtain ⟨hy1, hy2⟩ := hy
    by_cases h0 : y = 0
    · subst h0
      go_wp2
      all_goals go_ret
      all_goals refine ⟨ret_int ?_, hw⟩
      all_goals rw [← HG.out]
      all_goals simp
      all_goals omega
    · have h1 : (y != 0) = true := by simp [h0]
      have h2 : (y == 0) = false := by simp [h0]
      go_wp2
      go_quiet (fail)
      go_wp2
      go_roundw
      case rel =>
        have hb := tmod_bd x y h0
        exact ⟨y, x.tmod y, rfl, rfl, ⟨by omega, by omega⟩, ⟨by omega, by omega⟩, (gcd_step x y).trans HG.out, hw.drewN nq⟩
      case measure =>
        have hb := tmod_bd x y h0
        simpa [intOf] using hb

theorem vB_false {n d : Int} (h : ¬ (1 ≤ d ∧ d ≤ 1000000000 ∧ -1000000000 ≤ n ∧ n ≤ 1000000000)) : vB n d = false := by
  simp only [vB, decide_eq_false_iff_not]
  intro hh
  exact h ⟨hh.1, hh.2.1, hh.2.2.1, hh.2.2.2.1⟩
theorem vB_gcd {n d : Int} (h : 1 ≤ d ∧ d ≤ 1000000000 ∧ -1000000000 ≤ n ∧ n ≤ 1000000000) : ((Int.gcd n d : Int) == 1) = vB n d := by
  rw [Bool.eq_iff_iff, vB_iff]
  simp
  omega

set_option maxHeartbeats 800000 in
theorem fracValid_i (n d : Int) (w : World) : Calls Try.prog 55 #[.agg #[.int .i64 n, .int .i64 d]] w fun e w' => e = .returned (.bool (vB n d)) ∧ Below w.heap.size w w' := by
  by_cases c : 1 ≤ d ∧ d ≤ 1000000000 ∧ -1000000000 ≤ n ∧ n ≤ 1000000000
  · obtain ⟨c1, c2, c3, c4⟩ := c
    go_enter Try.func55, Try.ntmps55
    go_wp2_with (go_at_call 67; refine (gcd_c _ _ _ (by unfold inL; omega) (by unfold inL; omega)).mono ?_; rintro e w' ⟨rfl, m, rfl⟩)
    go_ret
    exact ⟨ret_bool (vB_gcd ⟨c1, c2, c3, c4⟩), below_drewN ((Below.refl _ _).alloc (Nat.le_refl _) _) _⟩
  · have hv := vB_false c
    by_cases c1 : 1 ≤ d
    · by_cases c2 : d ≤ 1000000000
      · by_cases c3 : -1000000000 ≤ n
        · have c4 : ¬ n ≤ 1000000000 := fun h => c ⟨c1, c2, c3, h⟩
          clear c
          go_enter Try.func55, Try.ntmps55
          go_wp2
          go_ret
          exact ⟨rfl, (Below.refl _ _).alloc (Nat.le_refl _) _⟩
        · clear c
          go_enter Try.func55, Try.ntmps55
          go_wp2
          go_ret
          exact ⟨rfl, (Below.refl _ _).alloc (Nat.le_refl _) _⟩
      · clear c
        go_enter Try.func55, Try.ntmps55
        go_wp2
        go_ret
        exact ⟨rfl, (Below.refl _ _).alloc (Nat.le_refl _) _⟩
    · clear c
      go_enter Try.func55, Try.ntmps55
      go_wp2
      go_ret
      exact ⟨rfl, (Below.refl _ _).alloc (Nat.le_refl _) _⟩

/-- what a call that returns a fraction and a bool hands back -/
abbrev retF (o : Fr) : Ending := .returned (.tuple #[.agg #[.int .i64 (fN o), .int .i64 (fD o)], .bool (fOk o)])

theorem ofF_no {a b : Int} (h : ¬ (b ≠ 0 ∧ inL a ∧ inL b)) : ofF a b = none := by
  unfold ofF
  rw [if_neg]
  intro hh
  exact h ⟨hh.1, hh.2.1, hh.2.2.1⟩
theorem ofF_yes {a b x y : Int} (h0 : b ≠ 0) (h1 : inL a) (h2 : inL b) (hx : a / gS a b = x) (hy : b / gS a b = y) (hv : vB x y = true) : ofF a b = some (x, y) := by
  unfold ofF
  rw [hx, hy, if_pos ⟨h0, h1, h2, hv⟩]
theorem ofF_bad {a b x y : Int} (hx : a / gS a b = x) (hy : b / gS a b = y) (hv : vB x y = false) : ofF a b = none := by
  unfold ofF
  rw [hx, hy, if_neg]
  intro hh
  rw [hv] at hh
  exact absurd hh.2.2.2 (by simp)

theorem gcd_bd {a b : Int} (c0 : b ≠ 0) (hb : inL b) : 0 < (Int.gcd a b : Int) ∧ (Int.gcd a b : Int) ≤ 4000000000000000000 := by
  have h1 : Int.gcd a b ≠ 0 := fun h => c0 (Int.gcd_eq_zero_iff.1 h).2
  have h2 : (Int.gcd a b : Int) ∣ b := Int.gcd_dvd_right ..
  have h3 := Int.natAbs_dvd_natAbs.2 h2
  have h4 := Nat.le_of_dvd (by omega) h3
  unfold inL at hb
  omega
theorem tdiv_gS {a b : Int} (c0 : b ≠ 0) : a.tdiv (gS a b) = a / gS a b ∧ b.tdiv (gS a b) = b / gS a b :=
  ⟨Int.tdiv_eq_ediv_of_dvd (gS_dvd_left a b), Int.tdiv_eq_ediv_of_dvd (gS_dvd_right a b)⟩
theorem div_bd {a g : Int} (ha : inL a) (hd : g ∣ a) (hg : g ≠ 0) : -4000000000000000000 ≤ a / g ∧ a / g ≤ 4000000000000000000 := by
  obtain ⟨x, rfl⟩ := hd
  rw [Int.mul_ediv_cancel_left _ hg]
  have h1 : (g * x).natAbs = g.natAbs * x.natAbs := Int.natAbs_mul g x
  have h2 : 1 * x.natAbs ≤ g.natAbs * x.natAbs := Nat.mul_le_mul_right _ (by omega)
  unfold inL at ha
  omega

set_option maxHeartbeats 800000 in
theorem fracOf_i (a b : Int) (w : World) : Calls Try.prog 61 #[.int .i64 a, .int .i64 b] w fun e w' => e = retF (ofF a b) ∧ Below w.heap.size w w' := by
  by_cases c : b ≠ 0 ∧ inL a ∧ inL b
  · obtain ⟨c0, ca, cb⟩ := c
    have hgp := gcd_bd (a := a) c0 cb
    have hb0 : (b == 0) = false := by simp [c0]
    have hq := tdiv_gS (a := a) c0
    have hx := div_bd ca (gS_dvd_left a b) (gS_ne c0)
    have hy := div_bd cb (gS_dvd_right a b) (gS_ne c0)
    have hyes := @ofF_yes a b _ _ c0 ca cb rfl rfl
    have hbad := @ofF_bad a b _ _ rfl rfl
    have hgs : gS a b = if b < 0 then -(Int.gcd a b : Int) else (Int.gcd a b : Int) := rfl
    have HA := Lib.hid ca
    have HB := Lib.hid cb
    unfold inL at ca cb
    obtain ⟨a1, a2⟩ := ca
    obtain ⟨b1, b2⟩ := cb
    generalize a / gS a b = x at *
    generalize b / gS a b = y at *
    generalize gS a b = G at *
    obtain ⟨q1, q2⟩ := hq
    obtain ⟨x1, x2⟩ := hx
    obtain ⟨y1, y2⟩ := hy
    obtain ⟨g1, g2⟩ := hgp
    have HY := Lib.hid hyes; clear hyes
    have HN := Lib.hid hbad; clear hbad
    have Q1 := Lib.hid q1; clear q1
    have Q2 := Lib.hid q2; clear q2
    by_cases hneg : b < 0
    · rw [if_pos hneg] at hgs
      have HG := Lib.hid hgs; clear hgs
      go_enter Try.func61, Try.ntmps61
      go_wp2_with (go_at_call 67; refine (gcd_c _ _ _ HA.out HB.out).mono ?_; rintro e w' ⟨rfl, m, rfl⟩)
      rw [← HG.out]
      have q1 := Q1.out
      have q2 := Q2.out
      have G0 : ¬ G = 0 := by have := HG.out; omega
      have wx : IntKind.i64.wrap x = x := IntWalk.i64_in _ (by omega)
      have wy : IntKind.i64.wrap y = y := IntWalk.i64_in _ (by omega)
      go_region
      clear q1 q2 G0 wx wy
      cases hv : vB x y
      · go_wp2_with fail
        refine (fracValid_i _ _ _).mono ?_
        rintro e w1 ⟨rfl, hb1⟩
        have hz : w.heap.size + 1 < w1.heap.size := by have := hb1.size; simp at this; omega
        have hB : Below w.heap.size w w1 := ((below_drewN ((Below.refl _ _).alloc (Nat.le_refl _) _) _).alloc (by simp) _).trans (hb1.mono (by simp; omega))
        have k0 : w1.cell? ⟨w.heap.size, 0, none⟩ = some (.int .i64 0) := (hb1.cell (p := ⟨w.heap.size, 0, none⟩) (by simp; omega)).trans (by simp [go_sem])
        have k1 : w1.cell? ⟨w.heap.size, 1, none⟩ = some (.int .i64 0) := (hb1.cell (p := ⟨w.heap.size, 1, none⟩) (by simp; omega)).trans (by simp [go_sem])
        have k2 : w1.cell? ⟨w.heap.size + 1, 0, none⟩ = some (.int .i64 x) := (hb1.cell (p := ⟨w.heap.size + 1, 0, none⟩) (by simp)).trans (by simp [go_sem])
        have k3 : w1.cell? ⟨w.heap.size + 1, 1, none⟩ = some (.int .i64 y) := (hb1.cell (p := ⟨w.heap.size + 1, 1, none⟩) (by simp)).trans (by simp [go_sem])
        have f0 : w1.frozen? ⟨w.heap.size, 0, none⟩ = false := (hb1.frozen (p := ⟨w.heap.size, 0, none⟩) (by simp; omega)).trans (by simp [go_sem])
        have f1 : w1.frozen? ⟨w.heap.size, 1, none⟩ = false := (hb1.frozen (p := ⟨w.heap.size, 1, none⟩) (by simp; omega)).trans (by simp [go_sem])
        go_wp2
        refine bodyPost_ret (v := .tuple #[.agg #[.int .i64 0, .int .i64 0], .bool false]) (by simp [results, Try.results61, go_sem, k0, k1]) rfl ⟨by rw [HN.out hv]; rfl, ?_⟩
        exact (hB.setCell (p := ⟨w.heap.size, 0, none⟩) (Nat.le_refl _) _).setCell (p := ⟨w.heap.size, 1, none⟩) (Nat.le_refl _) _
      · go_wp2_with fail
        refine (fracValid_i _ _ _).mono ?_
        rintro e w1 ⟨rfl, hb1⟩
        have hz : w.heap.size + 1 < w1.heap.size := by have := hb1.size; simp at this; omega
        have hB : Below w.heap.size w w1 := ((below_drewN ((Below.refl _ _).alloc (Nat.le_refl _) _) _).alloc (by simp) _).trans (hb1.mono (by simp; omega))
        have k0 : w1.cell? ⟨w.heap.size, 0, none⟩ = some (.int .i64 0) := (hb1.cell (p := ⟨w.heap.size, 0, none⟩) (by simp; omega)).trans (by simp [go_sem])
        have k1 : w1.cell? ⟨w.heap.size, 1, none⟩ = some (.int .i64 0) := (hb1.cell (p := ⟨w.heap.size, 1, none⟩) (by simp; omega)).trans (by simp [go_sem])
        have k2 : w1.cell? ⟨w.heap.size + 1, 0, none⟩ = some (.int .i64 x) := (hb1.cell (p := ⟨w.heap.size + 1, 0, none⟩) (by simp)).trans (by simp [go_sem])
        have k3 : w1.cell? ⟨w.heap.size + 1, 1, none⟩ = some (.int .i64 y) := (hb1.cell (p := ⟨w.heap.size + 1, 1, none⟩) (by simp)).trans (by simp [go_sem])
        have f0 : w1.frozen? ⟨w.heap.size, 0, none⟩ = false := (hb1.frozen (p := ⟨w.heap.size, 0, none⟩) (by simp; omega)).trans (by simp [go_sem])
        have f1 : w1.frozen? ⟨w.heap.size, 1, none⟩ = false := (hb1.frozen (p := ⟨w.heap.size, 1, none⟩) (by simp; omega)).trans (by simp [go_sem])
        go_wp2
        refine bodyPost_ret (v := .tuple #[.agg #[.int .i64 x, .int .i64 y], .bool true]) (by simp [results, Try.results61, go_sem, k0, k1]) rfl ⟨by rw [HY.out hv]; rfl, ?_⟩
        exact (hB.setCell (p := ⟨w.heap.size, 0, none⟩) (Nat.le_refl _) _).setCell (p := ⟨w.heap.size, 1, none⟩) (Nat.le_refl _) _
    · rw [if_neg hneg] at hgs
      have HG := Lib.hid hgs; clear hgs
      go_enter Try.func61, Try.ntmps61
      go_wp2_with (go_at_call 67; refine (gcd_c _ _ _ HA.out HB.out).mono ?_; rintro e w' ⟨rfl, m, rfl⟩)
      rw [← HG.out]
      have q1 := Q1.out
      have q2 := Q2.out
      have G0 : ¬ G = 0 := by have := HG.out; omega
      have wx : IntKind.i64.wrap x = x := IntWalk.i64_in _ (by omega)
      have wy : IntKind.i64.wrap y = y := IntWalk.i64_in _ (by omega)
      go_region
      clear q1 q2 G0 wx wy
      cases hv : vB x y
      · go_wp2_with fail
        refine (fracValid_i _ _ _).mono ?_
        rintro e w1 ⟨rfl, hb1⟩
        have hz : w.heap.size + 1 < w1.heap.size := by have := hb1.size; simp at this; omega
        have hB : Below w.heap.size w w1 := ((below_drewN ((Below.refl _ _).alloc (Nat.le_refl _) _) _).alloc (by simp) _).trans (hb1.mono (by simp; omega))
        have k0 : w1.cell? ⟨w.heap.size, 0, none⟩ = some (.int .i64 0) := (hb1.cell (p := ⟨w.heap.size, 0, none⟩) (by simp; omega)).trans (by simp [go_sem])
        have k1 : w1.cell? ⟨w.heap.size, 1, none⟩ = some (.int .i64 0) := (hb1.cell (p := ⟨w.heap.size, 1, none⟩) (by simp; omega)).trans (by simp [go_sem])
        have k2 : w1.cell? ⟨w.heap.size + 1, 0, none⟩ = some (.int .i64 x) := (hb1.cell (p := ⟨w.heap.size + 1, 0, none⟩) (by simp)).trans (by simp [go_sem])
        have k3 : w1.cell? ⟨w.heap.size + 1, 1, none⟩ = some (.int .i64 y) := (hb1.cell (p := ⟨w.heap.size + 1, 1, none⟩) (by simp)).trans (by simp [go_sem])
        have f0 : w1.frozen? ⟨w.heap.size, 0, none⟩ = false := (hb1.frozen (p := ⟨w.heap.size, 0, none⟩) (by simp; omega)).trans (by simp [go_sem])
        have f1 : w1.frozen? ⟨w.heap.size, 1, none⟩ = false := (hb1.frozen (p := ⟨w.heap.size, 1, none⟩) (by simp; omega)).trans (by simp [go_sem])
        go_wp2
        refine bodyPost_ret (v := .tuple #[.agg #[.int .i64 0, .int .i64 0], .bool false]) (by simp [results, Try.results61, go_sem, k0, k1]) rfl ⟨by rw [HN.out hv]; rfl, ?_⟩
        exact (hB.setCell (p := ⟨w.heap.size, 0, none⟩) (Nat.le_refl _) _).setCell (p := ⟨w.heap.size, 1, none⟩) (Nat.le_refl _) _
      · go_wp2_with fail
        refine (fracValid_i _ _ _).mono ?_
        rintro e w1 ⟨rfl, hb1⟩
        have hz : w.heap.size + 1 < w1.heap.size := by have := hb1.size; simp at this; omega
        have hB : Below w.heap.size w w1 := ((below_drewN ((Below.refl _ _).alloc (Nat.le_refl _) _) _).alloc (by simp) _).trans (hb1.mono (by simp; omega))
        have k0 : w1.cell? ⟨w.heap.size, 0, none⟩ = some (.int .i64 0) := (hb1.cell (p := ⟨w.heap.size, 0, none⟩) (by simp; omega)).trans (by simp [go_sem])
        have k1 : w1.cell? ⟨w.heap.size, 1, none⟩ = some (.int .i64 0) := (hb1.cell (p := ⟨w.heap.size, 1, none⟩) (by simp; omega)).trans (by simp [go_sem])
        have k2 : w1.cell? ⟨w.heap.size + 1, 0, none⟩ = some (.int .i64 x) := (hb1.cell (p := ⟨w.heap.size + 1, 0, none⟩) (by simp)).trans (by simp [go_sem])
        have k3 : w1.cell? ⟨w.heap.size + 1, 1, none⟩ = some (.int .i64 y) := (hb1.cell (p := ⟨w.heap.size + 1, 1, none⟩) (by simp)).trans (by simp [go_sem])
        have f0 : w1.frozen? ⟨w.heap.size, 0, none⟩ = false := (hb1.frozen (p := ⟨w.heap.size, 0, none⟩) (by simp; omega)).trans (by simp [go_sem])
        have f1 : w1.frozen? ⟨w.heap.size, 1, none⟩ = false := (hb1.frozen (p := ⟨w.heap.size, 1, none⟩) (by simp; omega)).trans (by simp [go_sem])
        go_wp2
        refine bodyPost_ret (v := .tuple #[.agg #[.int .i64 x, .int .i64 y], .bool true]) (by simp [results, Try.results61, go_sem, k0, k1]) rfl ⟨by rw [HY.out hv]; rfl, ?_⟩
        exact (hB.setCell (p := ⟨w.heap.size, 0, none⟩) (Nat.le_refl _) _).setCell (p := ⟨w.heap.size, 1, none⟩) (Nat.le_refl _) _
  · have hno := ofF_no c
    have HN := Lib.hid hno; clear hno
    unfold inL at c
    have hdis : b = 0 ∨ (b ≠ 0 ∧ a < -4000000000000000000) ∨ (b ≠ 0 ∧ -4000000000000000000 ≤ a ∧ 4000000000000000000 < a) ∨ (b ≠ 0 ∧ -4000000000000000000 ≤ a ∧ a ≤ 4000000000000000000 ∧ b < -4000000000000000000) ∨ (b ≠ 0 ∧ -4000000000000000000 ≤ a ∧ a ≤ 4000000000000000000 ∧ -4000000000000000000 ≤ b ∧ 4000000000000000000 < b) := by omega
    clear c
    rcases hdis with rfl | ⟨h0, h1⟩ | ⟨h0, h1, h2⟩ | ⟨h0, h1, h2, h3⟩ | ⟨h0, h1, h2, h3, h4⟩
    · go_enter Try.func61, Try.ntmps61
      go_wp2
      exact bodyPost_ret (v := .tuple #[.agg #[.int .i64 0, .int .i64 0], .bool false]) (by simp [results, Try.results61, go_sem]) rfl ⟨by rw [HN.out]; rfl, (Below.refl _ _).alloc (Nat.le_refl _) _⟩
    · have hb0 : (b == 0) = false := by simp [h0]
      go_enter Try.func61, Try.ntmps61
      go_wp2
      exact bodyPost_ret (v := .tuple #[.agg #[.int .i64 0, .int .i64 0], .bool false]) (by simp [results, Try.results61, go_sem]) rfl ⟨by rw [HN.out]; rfl, (Below.refl _ _).alloc (Nat.le_refl _) _⟩
    · have hb0 : (b == 0) = false := by simp [h0]
      go_enter Try.func61, Try.ntmps61
      go_wp2
      exact bodyPost_ret (v := .tuple #[.agg #[.int .i64 0, .int .i64 0], .bool false]) (by simp [results, Try.results61, go_sem]) rfl ⟨by rw [HN.out]; rfl, (Below.refl _ _).alloc (Nat.le_refl _) _⟩
    · have hb0 : (b == 0) = false := by simp [h0]
      go_enter Try.func61, Try.ntmps61
      go_wp2
      exact bodyPost_ret (v := .tuple #[.agg #[.int .i64 0, .int .i64 0], .bool false]) (by simp [results, Try.results61, go_sem]) rfl ⟨by rw [HN.out]; rfl, (Below.refl _ _).alloc (Nat.le_refl _) _⟩
    · have hb0 : (b == 0) = false := by simp [h0]
      go_enter Try.func61, Try.ntmps61
      go_wp2
      exact bodyPost_ret (v := .tuple #[.agg #[.int .i64 0, .int .i64 0], .bool false]) (by simp [results, Try.results61, go_sem]) rfl ⟨by rw [HN.out]; rfl, (Below.refl _ _).alloc (Nat.le_refl _) _⟩
end Go.Proofs.Ytidcomcnieggaaa
