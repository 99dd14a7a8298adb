/-
  Plain: curves: the test, turning, lean curves.
-/
import Derived.Test.YtidcomcnieggaaaPureF
namespace Go.Proofs.Ytidcomcnieggaaa
set_option linter.unusedVariables false
abbrev Kn := Int × Int
def kx (c : List Kn) (i : Nat) : Int := (c.getD i (0, 0)).1
def ky (c : List Kn) (i : Nat) : Int := (c.getD i (0, 0)).2
def okC (c : List Kn) (k : Nat) : Prop := ∀ i, i < k → ((0 ≤ kx c i ∧ kx c i ≤ 30000) ∧ (0 ≤ ky c i ∧ ky c i ≤ 30000)) ∧ (0 < i → kx c (i - 1) < kx c i ∧ ky c (i - 1) < ky c i)
instance (c : List Kn) (k : Nat) : Decidable (okC c k) := inferInstanceAs (Decidable (∀ i, i < k → _))
def curB (c : List Kn) : Bool := decide (okC c c.length ∧ 2 ≤ c.length ∧ c.length ≤ 12)
theorem curB_iff {c : List Kn} : curB c = true ↔ okC c c.length ∧ 2 ≤ c.length ∧ c.length ≤ 12 := by simp [curB]
theorem okC_zero (c : List Kn) : okC c 0 := fun i hi => absurd hi (by omega)
theorem okC_succ {c : List Kn} {k : Nat} (h : okC c k) (h1 : (0 ≤ kx c k ∧ kx c k ≤ 30000) ∧ (0 ≤ ky c k ∧ ky c k ≤ 30000)) (h2 : 0 < k → kx c (k - 1) < kx c k ∧ ky c (k - 1) < ky c k) : okC c (k + 1) := by
  intro i hi
  by_cases e : i = k
  · subst e; exact ⟨h1, h2⟩
  · exact h i (by omega)
theorem curB_no {c : List Kn} {k : Nat} (hk : k < c.length) (h : ¬ (((0 ≤ kx c k ∧ kx c k ≤ 30000) ∧ (0 ≤ ky c k ∧ ky c k ≤ 30000)) ∧ (0 < k → kx c (k - 1) < kx c k ∧ ky c (k - 1) < ky c k))) : curB c = false := by
  simp only [curB, decide_eq_false_iff_not]
  rintro ⟨h1, _⟩
  exact h (h1 k hk)
theorem curB_end {c : List Kn} (h : okC c c.length) : curB c = decide (2 ≤ c.length ∧ c.length ≤ 12) := by
  simp only [curB]
  congr 1
  exact propext ⟨fun h => h.2, fun h' => ⟨h, h'⟩⟩
theorem cur_len {c : List Kn} (h : curB c = true) : 2 ≤ c.length ∧ c.length ≤ 12 := (curB_iff.1 h).2
theorem cur_bd {c : List Kn} (h : curB c = true) {i : Nat} (hi : i < c.length) : (0 ≤ kx c i ∧ kx c i ≤ 30000) ∧ (0 ≤ ky c i ∧ ky c i ≤ 30000) := ((curB_iff.1 h).1 i hi).1
theorem cur_up {c : List Kn} (h : curB c = true) {i j : Nat} (hij : i < j) (hj : j < c.length) : kx c i < kx c j ∧ ky c i < ky c j := by
  obtain ⟨hu, _⟩ := curB_iff.1 h
  induction j with
  | zero => omega
  | succ j ih =>
    have h2 := (hu (j + 1) hj).2 (by omega)
    rw [Nat.add_sub_cancel] at h2
    by_cases e : i = j
    · subst e; exact h2
    · have := ih (by omega) (by omega); omega
/-- the whole test, at one knot -/
def badK (c : List Kn) (k : Nat) : Bool := !decide (((0 ≤ kx c k ∧ kx c k ≤ 30000) ∧ (0 ≤ ky c k ∧ ky c k ≤ 30000)) ∧ (0 < k → kx c (k - 1) < kx c k ∧ ky c (k - 1) < ky c k))
theorem badK_t {c : List Kn} {k : Nat} (hk : k < c.length) (h : badK c k = true) : curB c = false := curB_no hk (by unfold badK at h; rw [Bool.not_eq_true', decide_eq_false_iff_not] at h; exact h)
theorem badK_f {c : List Kn} {k : Nat} (ho : okC c k) (h : badK c k = false) : okC c (k + 1) := by
  have h : ((0 ≤ kx c k ∧ kx c k ≤ 30000) ∧ (0 ≤ ky c k ∧ ky c k ≤ 30000)) ∧ (0 < k → kx c (k - 1) < kx c k ∧ ky c (k - 1) < ky c k) := by
    unfold badK at h
    rw [Bool.not_eq_false', decide_eq_true_eq] at h
    exact h
  exact okC_succ ho h.1 h.2
/-! ## Turned -/
def turnL (c : List Kn) : List Kn := c.map fun k => (k.2, k.1)
theorem turnL_len (c : List Kn) : (turnL c).length = c.length := by simp [turnL]
theorem turn_x (c : List Kn) (i : Nat) : kx (turnL c) i = ky c i := by
  unfold kx ky turnL
  rw [List.getD_eq_getElem?_getD, List.getD_eq_getElem?_getD, List.getElem?_map]
  cases c[i]? <;> rfl
theorem turn_y (c : List Kn) (i : Nat) : ky (turnL c) i = kx c i := by
  unfold kx ky turnL
  rw [List.getD_eq_getElem?_getD, List.getD_eq_getElem?_getD, List.getElem?_map]
  cases c[i]? <;> rfl
theorem turn_turn (c : List Kn) : turnL (turnL c) = c := by
  unfold turnL
  rw [List.map_map]
  exact (List.map_congr_left (g := id) fun a _ => rfl).trans (List.map_id c)
theorem turn_cur {c : List Kn} (h : curB c = true) : curB (turnL c) = true := by
  obtain ⟨h1, h2⟩ := curB_iff.1 h
  rw [curB_iff, turnL_len]
  refine ⟨fun i hi => ?_, h2⟩
  have := h1 i hi
  rw [turn_x, turn_y, turn_x, turn_y]
  exact ⟨⟨this.1.2, this.1.1⟩, fun h0 => ⟨(this.2 h0).2, (this.2 h0).1⟩⟩
theorem turn_cur' {c : List Kn} : curB (turnL c) = curB c := by
  cases h : curB c
  · cases h2 : curB (turnL c)
    · rfl
    · have := turn_cur h2; rw [turn_turn, h] at this; cases this
  · exact turn_cur h
def lineB (a k b : Kn) : Bool := decide ((k.2 - a.2) * (b.1 - a.1) = (b.2 - a.2) * (k.1 - a.1))
end Go.Proofs.Ytidcomcnieggaaa
