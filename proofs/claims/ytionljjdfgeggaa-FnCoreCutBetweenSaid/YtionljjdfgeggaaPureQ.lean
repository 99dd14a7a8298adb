/-
  Plain: fractions and their values, as rational numbers.
-/
import Derived.Test.YtionljjdfgeggaaPureF
namespace Go.Proofs.Ytionljjdfgeggaa
set_option linter.unusedVariables false

/-- the value of a fraction -/
def qv (f : Int × Int) : Rat := (f.1 : Rat) / (f.2 : Rat)
theorem vB_pos {f : Int × Int} (h : vB f.1 f.2 = true) : 0 < f.2 := by have := vB_iff.1 h; omega
theorem q_pos {n : Int} (h : 0 < n) : (0 : Rat) < (n : Rat) := by exact_mod_cast h
theorem q_ne {n : Int} (h : n ≠ 0) : (n : Rat) ≠ 0 := by
  intro e; exact h (by exact_mod_cast e)
/-- one value, said by products -/
theorem qv_eq {f g : Int × Int} (hf : 0 < f.2) (hg : 0 < g.2) : qv f = qv g ↔ f.1 * g.2 = g.1 * f.2 := by
  have a := q_ne (show f.2 ≠ 0 by omega)
  have b := q_ne (show g.2 ≠ 0 by omega)
  unfold qv
  constructor
  · intro h
    have : (f.1 : Rat) * g.2 = g.1 * f.2 := by grind
    exact_mod_cast this
  · intro h
    have : (f.1 : Rat) * g.2 = g.1 * f.2 := by exact_mod_cast h
    grind
theorem qdiv_eq {f : Int × Int} {a b : Int} (hf : 0 < f.2) (hb : b ≠ 0) : qv f = (a : Rat) / (b : Rat) ↔ f.1 * b = a * f.2 := by
  have u := q_ne (show f.2 ≠ 0 by omega)
  have v := q_ne hb
  unfold qv
  constructor
  · intro h
    have : (f.1 : Rat) * b = a * f.2 := by grind
    exact_mod_cast this
  · intro h
    have : (f.1 : Rat) * b = a * f.2 := by exact_mod_cast h
    grind
theorem qv_inj {f g : Int × Int} (hf : vB f.1 f.2 = true) (hg : vB g.1 g.2 = true) (h : qv f = qv g) : f = g := vB_unique hf hg ((qv_eq (vB_pos hf) (vB_pos hg)).1 h)
theorem qv_one (n : Int) : qv (n, 1) = n := by unfold qv; grind
/-- FracOf -/
theorem ofF_q {a b : Int} {f : Int × Int} (h : ofF a b = some f) : b ≠ 0 ∧ vB f.1 f.2 = true ∧ qv f = (a : Rat) / (b : Rat) := by
  obtain ⟨h1, h2, h3⟩ := ofF_some h
  exact ⟨h1, h2, (qdiv_eq (vB_pos h2) h1).2 h3⟩
theorem ofF_mk {a b : Int} {f : Int × Int} (hb : b ≠ 0) (ha : inL a) (hb' : inL b) (hv : vB f.1 f.2 = true) (h : qv f = (a : Rat) / (b : Rat)) : ofF a b = some f := ofF_of hb ha hb' hv ((qdiv_eq (vB_pos hv) hb).1 h)
theorem prod_bd {x y A B : Int} (hx : -A ≤ x ∧ x ≤ A) (hy : -B ≤ y ∧ y ≤ B) (hA : 0 ≤ A) : -(A * B) ≤ x * y ∧ x * y ≤ A * B := by
  have e := Int.natAbs_mul x y
  have h3 : x.natAbs * y.natAbs ≤ A.natAbs * B.natAbs := Nat.mul_le_mul (by omega) (by omega)
  have e2 := Int.natAbs_mul A B
  have : 0 ≤ A * B := Int.mul_nonneg hA (by omega)
  omega
theorem vB_bd {n d : Int} (h : vB n d = true) : (1 ≤ d ∧ d ≤ 1000000000) ∧ (-1000000000 ≤ n ∧ n ≤ 1000000000) := by have := vB_iff.1 h; omega
theorem inL_mul {x y : Int} (hx : -1000000000 ≤ x ∧ x ≤ 1000000000) (hy : -1000000000 ≤ y ∧ y ≤ 1000000000) : inL (x * y) := by
  have := prod_bd hx hy (by omega); constructor <;> omega
theorem inL_add {x y z w : Int} (hx : -1000000000 ≤ x ∧ x ≤ 1000000000) (hy : -1000000000 ≤ y ∧ y ≤ 1000000000) (hz : -1000000000 ≤ z ∧ z ≤ 1000000000) (hw : -1000000000 ≤ w ∧ w ≤ 1000000000) : inL (x * y + z * w) ∧ inL (x * y - z * w) := by
  have := prod_bd hx hy (by omega)
  have := prod_bd hz hw (by omega)
  constructor <;> constructor <;> omega
/-- sums -/
theorem addF_q {x y f : Int × Int} (h : addF x y = some f) : vB x.1 x.2 = true ∧ vB y.1 y.2 = true ∧ vB f.1 f.2 = true ∧ qv f = qv x + qv y := by
  unfold addF at h
  split at h
  · rename_i hc
    obtain ⟨_, h2, h3⟩ := ofF_q h
    refine ⟨hc.1, hc.2, h2, ?_⟩
    have u := q_ne (show x.2 ≠ 0 by have := vB_pos hc.1; omega)
    have v := q_ne (show y.2 ≠ 0 by have := vB_pos hc.2; omega)
    rw [h3]; unfold qv
    have e1 : ((x.1 * y.2 + y.1 * x.2 : Int) : Rat) = (x.1 : Rat) * y.2 + y.1 * x.2 := by norm_cast
    have e2 : ((x.2 * y.2 : Int) : Rat) = (x.2 : Rat) * y.2 := by norm_cast
    rw [e1, e2]; grind
  · cases h
theorem addF_mk {x y f : Int × Int} (hx : vB x.1 x.2 = true) (hy : vB y.1 y.2 = true) (hf : vB f.1 f.2 = true) (h : qv f = qv x + qv y) : addF x y = some f := by
  unfold addF
  rw [if_pos ⟨hx, hy⟩]
  have bx := vB_bd hx
  have bY := vB_bd hy
  have u := q_ne (show x.2 ≠ 0 by omega)
  have v := q_ne (show y.2 ≠ 0 by omega)
  refine ofF_mk (by have := Int.mul_pos (show 0 < x.2 by omega) (show 0 < y.2 by omega); omega) (inL_add (by omega) (by omega) (by omega) (by omega)).1 (inL_mul (by omega) (by omega)) hf ?_
  rw [h]; unfold qv
  have e1 : ((x.1 * y.2 + y.1 * x.2 : Int) : Rat) = (x.1 : Rat) * y.2 + y.1 * x.2 := by norm_cast
  have e2 : ((x.2 * y.2 : Int) : Rat) = (x.2 : Rat) * y.2 := by norm_cast
  rw [e1, e2]; grind
/-- differences -/
theorem subF_q {x y f : Int × Int} (h : subF x y = some f) : vB x.1 x.2 = true ∧ vB y.1 y.2 = true ∧ vB f.1 f.2 = true ∧ qv f = qv x - qv y := by
  unfold subF at h
  split at h
  · rename_i hc
    obtain ⟨_, h2, h3⟩ := ofF_q h
    refine ⟨hc.1, hc.2, h2, ?_⟩
    have u := q_ne (show x.2 ≠ 0 by have := vB_pos hc.1; omega)
    have v := q_ne (show y.2 ≠ 0 by have := vB_pos hc.2; omega)
    rw [h3]; unfold qv
    have e1 : ((x.1 * y.2 - y.1 * x.2 : Int) : Rat) = (x.1 : Rat) * y.2 - y.1 * x.2 := by norm_cast
    have e2 : ((x.2 * y.2 : Int) : Rat) = (x.2 : Rat) * y.2 := by norm_cast
    rw [e1, e2]; grind
  · cases h
theorem subF_mk {x y f : Int × Int} (hx : vB x.1 x.2 = true) (hy : vB y.1 y.2 = true) (hf : vB f.1 f.2 = true) (h : qv f = qv x - qv y) : subF x y = some f := by
  unfold subF
  rw [if_pos ⟨hx, hy⟩]
  have bx := vB_bd hx
  have bY := vB_bd hy
  have u := q_ne (show x.2 ≠ 0 by omega)
  have v := q_ne (show y.2 ≠ 0 by omega)
  refine ofF_mk (by have := Int.mul_pos (show 0 < x.2 by omega) (show 0 < y.2 by omega); omega) (inL_add (by omega) (by omega) (by omega) (by omega)).2 (inL_mul (by omega) (by omega)) hf ?_
  rw [h]; unfold qv
  have e1 : ((x.1 * y.2 - y.1 * x.2 : Int) : Rat) = (x.1 : Rat) * y.2 - y.1 * x.2 := by norm_cast
  have e2 : ((x.2 * y.2 : Int) : Rat) = (x.2 : Rat) * y.2 := by norm_cast
  rw [e1, e2]; grind
/-- products -/
theorem mulF_q {x y f : Int × Int} (h : mulF x y = some f) : vB x.1 x.2 = true ∧ vB y.1 y.2 = true ∧ vB f.1 f.2 = true ∧ qv f = qv x * qv y := by
  unfold mulF at h
  split at h
  · rename_i hc
    obtain ⟨_, h2, h3⟩ := ofF_q h
    refine ⟨hc.1, hc.2, h2, ?_⟩
    have u := q_ne (show x.2 ≠ 0 by have := vB_pos hc.1; omega)
    have v := q_ne (show y.2 ≠ 0 by have := vB_pos hc.2; omega)
    rw [h3]; unfold qv
    have e1 : ((x.1 * y.1 : Int) : Rat) = (x.1 : Rat) * y.1 := by norm_cast
    have e2 : ((x.2 * y.2 : Int) : Rat) = (x.2 : Rat) * y.2 := by norm_cast
    rw [e1, e2]; grind
  · cases h
theorem mulF_mk {x y f : Int × Int} (hx : vB x.1 x.2 = true) (hy : vB y.1 y.2 = true) (hf : vB f.1 f.2 = true) (h : qv f = qv x * qv y) : mulF x y = some f := by
  unfold mulF
  rw [if_pos ⟨hx, hy⟩]
  have bx := vB_bd hx
  have bY := vB_bd hy
  have u := q_ne (show x.2 ≠ 0 by omega)
  have v := q_ne (show y.2 ≠ 0 by omega)
  refine ofF_mk (by have := Int.mul_pos (show 0 < x.2 by omega) (show 0 < y.2 by omega); omega) (inL_mul (by omega) (by omega)) (inL_mul (by omega) (by omega)) hf ?_
  rw [h]; unfold qv
  have e1 : ((x.1 * y.1 : Int) : Rat) = (x.1 : Rat) * y.1 := by norm_cast
  have e2 : ((x.2 * y.2 : Int) : Rat) = (x.2 : Rat) * y.2 := by norm_cast
  rw [e1, e2]; grind
/-- quotients -/
theorem qv_ne {y : Int × Int} (h : vB y.1 y.2 = true) (h0 : y.1 ≠ 0) : qv y ≠ 0 := by
  have u := q_ne (show y.2 ≠ 0 by have := vB_pos h; omega)
  have v := q_ne h0
  unfold qv
  grind
theorem divF_q {x y f : Int × Int} (h : divF x y = some f) : vB x.1 x.2 = true ∧ vB y.1 y.2 = true ∧ y.1 ≠ 0 ∧ vB f.1 f.2 = true ∧ qv f = qv x / qv y := by
  unfold divF at h
  split at h
  · rename_i hc
    obtain ⟨_, h2, h3⟩ := ofF_q h
    refine ⟨hc.1, hc.2.1, hc.2.2, h2, ?_⟩
    have u := q_ne (show x.2 ≠ 0 by have := vB_pos hc.1; omega)
    have v := q_ne (show y.2 ≠ 0 by have := vB_pos hc.2.1; omega)
    have w := q_ne hc.2.2
    rw [h3]; unfold qv
    have e1 : ((x.1 * y.2 : Int) : Rat) = (x.1 : Rat) * y.2 := by norm_cast
    have e2 : ((x.2 * y.1 : Int) : Rat) = (x.2 : Rat) * y.1 := by norm_cast
    rw [e1, e2]; grind
  · cases h
theorem divF_mk {x y f : Int × Int} (hx : vB x.1 x.2 = true) (hy : vB y.1 y.2 = true) (h0 : y.1 ≠ 0) (hf : vB f.1 f.2 = true) (h : qv f = qv x / qv y) : divF x y = some f := by
  unfold divF
  rw [if_pos ⟨hx, hy, h0⟩]
  have bx := vB_bd hx
  have bY := vB_bd hy
  have u := q_ne (show x.2 ≠ 0 by omega)
  have v := q_ne (show y.2 ≠ 0 by omega)
  have w := q_ne h0
  refine ofF_mk (Int.mul_ne_zero (by omega) h0) (inL_mul (by omega) (by omega)) (inL_mul (by omega) (by omega)) hf ?_
  rw [h]; unfold qv
  have e1 : ((x.1 * y.2 : Int) : Rat) = (x.1 : Rat) * y.2 := by norm_cast
  have e2 : ((x.2 * y.1 : Int) : Rat) = (x.2 : Rat) * y.1 := by norm_cast
  rw [e1, e2]; grind
/-- order -/
theorem qv_lt {x y : Int × Int} (hx : 0 < x.2) (hy : 0 < y.2) : qv x < qv y ↔ x.1 * y.2 < y.1 * x.2 := by
  have u := q_pos hx
  have v := q_pos hy
  have e1 : ((x.1 * y.2 : Int) : Rat) = (x.1 : Rat) * y.2 := by norm_cast
  have e2 : ((y.1 * x.2 : Int) : Rat) = (y.1 : Rat) * x.2 := by norm_cast
  rw [← Rat.intCast_lt_intCast, e1, e2]
  unfold qv
  have hne : (y.2 : Rat) ≠ 0 := by grind
  have e3 : (y.1 : Rat) / y.2 * x.2 = (y.1 * x.2) / y.2 := by grind
  rw [Rat.div_lt_iff u, e3, Rat.lt_div_iff v]
theorem ltF_q {x y : Int × Int} (hx : vB x.1 x.2 = true) (hy : vB y.1 y.2 = true) : ltF x y = true ↔ qv x < qv y := by
  unfold ltF
  rw [decide_eq_true_eq, qv_lt (vB_pos hx) (vB_pos hy)]
  exact ⟨fun h => h.2.2, fun h => ⟨hx, hy, h⟩⟩
theorem ltF_not {x y : Int × Int} (h : vB x.1 x.2 = true → vB y.1 y.2 = true → qv y ≤ qv x) : ltF x y = false := by
  rw [Bool.eq_false_iff]
  intro hc
  have hc' := hc
  unfold ltF at hc'
  rw [decide_eq_true_eq] at hc'
  have := (ltF_q hc'.1 hc'.2.1).1 hc
  have := h hc'.1 hc'.2.1
  grind
theorem qv_nn {f : Int × Int} (hf : 0 < f.2) : 0 ≤ qv f ↔ 0 ≤ f.1 := by
  have h := qv_lt (x := f) (y := (0, 1)) hf (by decide)
  have e : qv (0, 1) = 0 := by unfold qv; grind
  rw [e] at h
  constructor
  · intro h1
    rcases Int.lt_or_le f.1 0 with c | c
    · have := h.2 (by simpa using c); grind
    · exact c
  · intro h1
    have : ¬ qv f < 0 := fun c => by have := h.1 c; simp at this; omega
    grind
end Go.Proofs.Ytionljjdfgeggaa
