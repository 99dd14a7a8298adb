/-
  Plain: amounts between depths at edges are sums of whole bins.
-/
import Derived.Test.YtlhkdgkaafhehaaPureB
namespace Go.Proofs.Ytlhkdgkaafhehaa

theorem inL_small {a : Int} (h1 : -3000000000000000000 ≤ a) (h2 : a ≤ 3000000000000000000) : inL a := ⟨by omega, by omega⟩
theorem vB_one {x : Int} (h1 : -1000000000 ≤ x) (h2 : x ≤ 1000000000) : vB x 1 = true := by
  rw [vB_iff]
  exact ⟨by omega, by omega, h1, h2, by simp⟩
theorem ofF_whole {z n : Int} (hn : 0 < n) (hn' : n ≤ 30000) (h1 : -1000000000 ≤ z) (h2 : z ≤ 1000000000) : ofF (z * n) n = some (z, 1) := by
  have hz : -30000000000000 ≤ z * n ∧ z * n ≤ 30000000000000 := by
    have e := Int.natAbs_mul z n
    have h3 : z.natAbs * n.natAbs ≤ 1000000000 * 30000 := Nat.mul_le_mul (by omega) (by omega)
    omega
  exact ofF_of (by omega) (inL_small (by omega) (by omega)) (inL_small (by omega) (by omega)) (vB_one h1 h2) (by simp)
theorem ofF_zero {n : Int} (hn : 0 < n) (hn' : n ≤ 30000) : ofF 0 n = some (0, 1) := by
  have := ofF_whole (z := 0) hn hn' (by omega) (by omega)
  rwa [Int.zero_mul] at this
theorem addF_whole {x y : Int} (hx : -1000000000 ≤ x ∧ x ≤ 1000000000) (hy : -1000000000 ≤ y ∧ y ≤ 1000000000) (hxy : -1000000000 ≤ x + y ∧ x + y ≤ 1000000000) : addF (x, 1) (y, 1) = some (x + y, 1) := by
  unfold addF
  rw [if_pos ⟨vB_one hx.1 hx.2, vB_one hy.1 hy.2⟩]
  simp only [Int.mul_one]
  have := ofF_whole (z := x + y) (n := 1) (by omega) (by omega) hxy.1 hxy.2
  rwa [Int.mul_one] at this

/-- the amount of the bins within two depths -/
def insum (e a : List Int) (t b : Int) : Nat → Int
  | 0 => 0
  | k + 1 => insum e a t b k + if t ≤ e.getD k 0 ∧ e.getD (k + 1) 0 ≤ b then a.getD k 0 else 0
theorem bin_ok {e a : List Int} (h : recB e a = true) {k : Nat} (hk : k < a.length) : 0 ≤ e.getD k 0 ∧ e.getD k 0 < e.getD (k + 1) 0 ∧ e.getD (k + 1) 0 ≤ 30000 ∧ 0 ≤ a.getD k 0 ∧ a.getD k 0 ≤ 10000 ∧ k + 1 < e.length := by
  obtain ⟨h1, h2, h3⟩ := recB_iff.1 h
  obtain ⟨hu, _, _⟩ := edgesB_iff.1 h1
  have u0 := hu k (by omega)
  have u1 := hu (k + 1) (by omega)
  have := u1.2 (by omega)
  rw [Nat.add_sub_cancel] at this
  have := h3 k hk
  exact ⟨u0.1.1, by omega, u1.1.2, this.1, this.2, by omega⟩
theorem insum_bd {e a : List Int} (h : recB e a = true) (t b : Int) : ∀ m, m ≤ a.length → 0 ≤ insum e a t b m ∧ insum e a t b m ≤ 10000 * m
  | 0, _ => by simp [insum]
  | m + 1, hm => by
    have ih := insum_bd h t b m (by omega)
    have := bin_ok h (k := m) (by omega)
    unfold insum
    split <;> omega
theorem bsum_whole {e a : List Int} (h : recB e a = true) {t b : Int} : ∀ m, m ≤ a.length → (∀ k, k < m → (t ≤ e.getD k 0 ∧ e.getD (k + 1) 0 ≤ b) ∨ b ≤ e.getD k 0 ∨ e.getD (k + 1) 0 ≤ t) →
    bsum e a t b m = some (insum e a t b m, 1)
  | 0, _, _ => rfl
  | m + 1, hm, hw => by
    have ih := bsum_whole h m (by omega) (fun k hk => hw k (by omega))
    obtain ⟨b1, b2, b3, b4, b5, b6⟩ := bin_ok h (k := m) (by omega)
    have hb1 := insum_bd h t b m (by omega)
    have hb2 := insum_bd h t b (m + 1) hm
    have hlen := recB_bd h
    rw [bsum_succ, ih]
    have hp : partF e a t b m = some (if t ≤ e.getD m 0 ∧ e.getD (m + 1) 0 ≤ b then a.getD m 0 else 0, 1) := by
      unfold partF
      by_cases hc : t ≤ e.getD m 0 ∧ e.getD (m + 1) 0 ≤ b
      · rw [if_pos hc]
        have : ovl t b (e.getD m 0) (e.getD (m + 1) 0) = e.getD (m + 1) 0 - e.getD m 0 := by unfold ovl; omega
        rw [this]
        exact ofF_whole (by omega) (by omega) (by omega) (by omega)
      · rw [if_neg hc]
        have : ovl t b (e.getD m 0) (e.getD (m + 1) 0) = 0 := by
          have := hw m (by omega)
          unfold ovl; omega
        rw [this, Int.mul_zero]
        exact ofF_zero (by omega) (by omega)
    rw [hp]
    show addF (insum e a t b m, 1) _ = _
    have e2 : insum e a t b (m + 1) = insum e a t b m + if t ≤ e.getD m 0 ∧ e.getD (m + 1) 0 ≤ b then a.getD m 0 else 0 := rfl
    rw [e2] at hb2 ⊢
    exact addF_whole (by omega) (by split <;> omega) (by omega)
/-- edges rise -/
theorem edges_mono {e : List Int} (h : edgesB e = true) {i j : Nat} (hij : i ≤ j) (hj : j < e.length) : e.getD i 0 ≤ e.getD j 0 := by
  obtain ⟨hu, _, _⟩ := edgesB_iff.1 h
  induction j with
  | zero => obtain rfl : i = 0 := by omega
            exact Int.le_refl _
  | succ j ih =>
    by_cases e1 : i = j + 1
    · subst e1; exact Int.le_refl _
    · have := ih (by omega) (by omega)
      have h2 := (hu (j + 1) hj).2 (by omega)
      rw [Nat.add_sub_cancel] at h2
      omega
theorem edges_lt {e : List Int} (h : edgesB e = true) {i j : Nat} (hij : i < j) (hj : j < e.length) : e.getD i 0 < e.getD j 0 := by
  obtain ⟨hu, _, _⟩ := edgesB_iff.1 h
  have h1 := edges_mono h (i := i) (j := j - 1) (by omega) (by omega)
  have h2 := (hu j hj).2 (by omega)
  omega
theorem edges_dep {e : List Int} (h : edgesB e = true) {i : Nat} (hi : i < e.length) : 0 ≤ e.getD i 0 ∧ e.getD i 0 ≤ 30000 := ((edgesB_iff.1 h).1 i hi).1
/-- between two edges -/
theorem betF_edges {e a : List Int} (h : recB e a = true) {i j : Nat} (hij : i ≤ j) (hj : j < e.length) : betF e a (e.getD i 0) (e.getD j 0) = some (insum e a (e.getD i 0) (e.getD j 0) a.length, 1) := by
  have h1 := (recB_iff.1 h).1
  have hl := recB_bd h
  have hsp : spanB (e.getD i 0) (e.getD j 0) = true := by
    have := edges_dep h1 (i := i) (by omega)
    have := edges_dep h1 hj
    have := edges_mono h1 hij hj
    simp only [spanB, decide_eq_true_eq]; omega
  unfold betF
  rw [if_pos ⟨h, hsp⟩]
  refine bsum_whole h _ (Nat.le_refl _) fun k hk => ?_
  by_cases c1 : k < i
  · right; right
    exact edges_mono h1 (by omega) (by omega)
  · by_cases c2 : k + 1 ≤ j
    · left
      exact ⟨edges_mono h1 (by omega) (by omega), edges_mono h1 c2 hj⟩
    · right; left
      exact edges_mono h1 (by omega) (by omega)
theorem insum_edges {e a : List Int} (h : recB e a = true) {i j : Nat} (hij : i ≤ j) (hj : j < e.length) : ∀ m, m ≤ a.length → insum e a (e.getD i 0) (e.getD j 0) m = ((a.take m).take j).sum - ((a.take m).take i).sum
  | 0, _ => by simp [insum]
  | m + 1, hm => by
    have h1 := (recB_iff.1 h).1
    have hl := recB_bd h
    have ih := insum_edges h hij hj m (by omega)
    have hs := take_sum a m (by omega)
    rw [List.take_take, List.take_take] at ih ⊢
    unfold insum
    rw [ih]
    have tj : ((a.take (min j (m + 1))).sum - (a.take (min j m)).sum : Int) = if m < j then a.getD m 0 else 0 := by
      by_cases c : m < j
      · rw [if_pos c, Nat.min_eq_right (by omega), Nat.min_eq_right (by omega)]; omega
      · rw [if_neg c, Nat.min_eq_left (by omega), Nat.min_eq_left (by omega)]; omega
    have ti : ((a.take (min i (m + 1))).sum - (a.take (min i m)).sum : Int) = if m < i then a.getD m 0 else 0 := by
      by_cases c : m < i
      · rw [if_pos c, Nat.min_eq_right (by omega), Nat.min_eq_right (by omega)]; omega
      · rw [if_neg c, Nat.min_eq_left (by omega), Nat.min_eq_left (by omega)]; omega
    have hc : (e.getD i 0 ≤ e.getD m 0 ∧ e.getD (m + 1) 0 ≤ e.getD j 0) ↔ (i ≤ m ∧ m < j) := by
      constructor
      · rintro ⟨q1, q2⟩
        constructor
        · rcases Nat.lt_or_ge m i with c | c
          · have := edges_lt h1 c (by omega); omega
          · exact c
        · rcases Nat.lt_or_ge m j with c | c
          · exact c
          · have := edges_lt h1 (i := j) (j := m + 1) (by omega) (by omega); omega
      · rintro ⟨q1, q2⟩
        exact ⟨edges_mono h1 q1 (by omega), edges_mono h1 (by omega) hj⟩
    by_cases c1 : m < j <;> by_cases c2 : m < i
    · omega
    · rw [if_pos (hc.2 ⟨by omega, c1⟩)]
      rw [if_pos c1] at tj
      rw [if_neg c2] at ti
      omega
    · omega
    · rw [if_neg (fun hh => c1 (hc.1 hh).2)]
      rw [if_neg c1] at tj
      rw [if_neg c2] at ti
      omega
/-- the amount between two edges -/
theorem bet_edges {e a : List Int} (h : recB e a = true) {i j : Nat} (hij : i ≤ j) (hj : j < e.length) : betF e a (e.getD i 0) (e.getD j 0) = some ((a.take j).sum - (a.take i).sum, 1) := by
  rw [betF_edges h hij hj, insum_edges h hij hj _ (Nat.le_refl _), List.take_length]
theorem bet_all {e a : List Int} (h : recB e a = true) : betF e a (e.getD 0 0) (e.getD (e.length - 1) 0) = some (totalI e a, 1) := by
  have hl := recB_bd h
  rw [bet_edges h (by omega) (by omega), total_eq h, show e.length - 1 = a.length from by omega, List.take_length]
  simp
end Go.Proofs.Ytlhkdgkaafhehaa
