/-
  Plain laws of records: what the tests and the total compute. No program in sight.
-/
namespace Go.Proofs.Ytionljjdfgeggaa

def depB (d : Int) : Bool := decide (0 ≤ d ∧ d ≤ 30000)

def okUp (l : List Int) (k : Nat) : Prop := ∀ i, i < k → (0 ≤ l.getD i 0 ∧ l.getD i 0 ≤ 30000) ∧ (0 < i → l.getD (i - 1) 0 < l.getD i 0)
instance (l : List Int) (k : Nat) : Decidable (okUp l k) := inferInstanceAs (Decidable (∀ i, i < k → _))
def edgesB (l : List Int) : Bool := decide (okUp l l.length ∧ 2 ≤ l.length ∧ l.length ≤ 21)

def okAm (l : List Int) (k : Nat) : Prop := ∀ i, i < k → 0 ≤ l.getD i 0 ∧ l.getD i 0 ≤ 10000
instance (l : List Int) (k : Nat) : Decidable (okAm l k) := inferInstanceAs (Decidable (∀ i, i < k → _))
def recB (e a : List Int) : Bool := decide (edgesB e = true ∧ a.length + 1 = e.length ∧ okAm a a.length)

def totalI (e a : List Int) : Int := if recB e a = true then a.sum else -1

theorem okUp_zero (l : List Int) : okUp l 0 := fun i hi => absurd hi (by omega)
theorem okUp_succ {l : List Int} {k : Nat} (h : okUp l k) (h1 : depB (l.getD k 0) = true) (h2 : 0 < k → l.getD (k - 1) 0 < l.getD k 0) : okUp l (k + 1) := by
  intro i hi
  by_cases e : i = k
  · subst e; exact ⟨by simpa [depB] using h1, h2⟩
  · exact h i (by omega)
theorem edgesB_no {l : List Int} {k : Nat} (hk : k < l.length) (h : depB (l.getD k 0) = false ∨ (0 < k ∧ l.getD k 0 ≤ l.getD (k - 1) 0)) : edgesB l = false := by
  simp only [edgesB, decide_eq_false_iff_not]
  rintro ⟨h1, _⟩
  have := h1 k hk
  rcases h with h | h
  · simp [depB] at h; simp at this; omega
  · omega
theorem edgesB_end {l : List Int} (h : okUp l l.length) : edgesB l = decide (2 ≤ l.length ∧ l.length ≤ 21) := by
  simp only [edgesB]
  congr 1
  exact propext ⟨fun h => h.2, fun h' => ⟨h, h'⟩⟩

theorem okAm_zero (l : List Int) : okAm l 0 := fun i hi => absurd hi (by omega)
theorem okAm_succ {l : List Int} {k : Nat} (h : okAm l k) (h1 : 0 ≤ l.getD k 0) (h2 : l.getD k 0 ≤ 10000) : okAm l (k + 1) := by
  intro i hi
  by_cases e : i = k
  · subst e; exact ⟨h1, h2⟩
  · exact h i (by omega)
theorem recB_iff {e a : List Int} : recB e a = true ↔ edgesB e = true ∧ a.length + 1 = e.length ∧ okAm a a.length := by simp [recB]
theorem recB_no {e a : List Int} (h : ¬ (edgesB e = true ∧ a.length + 1 = e.length)) : recB e a = false := by
  simp only [recB, decide_eq_false_iff_not]
  intro hh
  exact h ⟨hh.1, hh.2.1⟩
theorem recB_am {e a : List Int} {k : Nat} (hk : k < a.length) (h : ¬ (0 ≤ a.getD k 0 ∧ a.getD k 0 ≤ 10000)) : recB e a = false := by
  simp only [recB, decide_eq_false_iff_not]
  intro hh
  exact h (hh.2.2 k hk)

theorem take_sum (l : List Int) (k : Nat) (h : k < l.length) : (l.take (k + 1)).sum = (l.take k).sum + l.getD k 0 := by
  rw [List.take_succ_eq_append_getElem h, List.sum_append]
  simp [List.getD_eq_getElem?_getD, List.getElem?_eq_getElem h]

theorem sum_bd (l : List Int) (k : Nat) (hk : k ≤ l.length) (h : okAm l l.length) : 0 ≤ (l.take k).sum ∧ (l.take k).sum ≤ 10000 * k := by
  induction k with
  | zero => simp
  | succ k ih =>
    have h1 := ih (by omega)
    have h2 := h k (by omega)
    rw [take_sum l k (by omega)]
    omega

theorem getD_take (l : List Int) (k i : Nat) (h : i < k) : (l.take k).getD i 0 = l.getD i 0 := by
  simp [List.getD_eq_getElem?_getD, h]
theorem getD_drop (l : List Int) (k i : Nat) : (l.drop k).getD i 0 = l.getD (k + i) 0 := by
  simp [List.getD_eq_getElem?_getD]
theorem edgesB_iff {l : List Int} : edgesB l = true ↔ okUp l l.length ∧ 2 ≤ l.length ∧ l.length ≤ 21 := by simp [edgesB]

theorem edgesB_take {l : List Int} (h : edgesB l = true) {k : Nat} (h1 : 2 ≤ k) (h2 : k ≤ l.length) : edgesB (l.take k) = true := by
  obtain ⟨a, b, c⟩ := edgesB_iff.1 h
  refine edgesB_iff.2 ⟨?_, by simp; omega, by simp; omega⟩
  intro i hi
  simp only [List.length_take] at hi
  have := a i (by omega)
  rw [getD_take l k i (by omega)]
  refine ⟨this.1, fun h0 => ?_⟩
  rw [getD_take l k (i - 1) (by omega)]
  exact this.2 h0
theorem edgesB_drop {l : List Int} (h : edgesB l = true) {k : Nat} (h2 : k + 2 ≤ l.length) : edgesB (l.drop k) = true := by
  obtain ⟨a, b, c⟩ := edgesB_iff.1 h
  refine edgesB_iff.2 ⟨?_, by simp; omega, by simp; omega⟩
  intro i hi
  simp only [List.length_drop] at hi
  have := a (k + i) (by omega)
  rw [getD_drop]
  refine ⟨this.1, fun h0 => ?_⟩
  rw [getD_drop, show k + (i - 1) = k + i - 1 from by omega]
  exact this.2 (by omega)
theorem recB_take {e a : List Int} (h : recB e a = true) {k : Nat} (h0 : 0 < k) (hk : k ≤ a.length) : recB (e.take (k + 1)) (a.take k) = true := by
  obtain ⟨h1, h2, h3⟩ := recB_iff.1 h
  refine recB_iff.2 ⟨edgesB_take h1 (by omega) (by omega), by simp; omega, ?_⟩
  intro i hi
  simp only [List.length_take] at hi
  rw [getD_take a k i (by omega)]
  exact h3 i (by omega)
theorem recB_drop {e a : List Int} (h : recB e a = true) {k : Nat} (hk : k < a.length) : recB (e.drop k) (a.drop k) = true := by
  obtain ⟨h1, h2, h3⟩ := recB_iff.1 h
  refine recB_iff.2 ⟨edgesB_drop h1 (by omega), by simp; omega, ?_⟩
  intro i hi
  simp only [List.length_drop] at hi
  rw [getD_drop]
  exact h3 _ (by omega)
theorem recB_bd {e a : List Int} (h : recB e a = true) : e.length ≤ 21 ∧ 2 ≤ e.length ∧ a.length + 1 = e.length := by
  obtain ⟨h1, h2, h3⟩ := recB_iff.1 h
  obtain ⟨_, b, c⟩ := edgesB_iff.1 h1
  omega
theorem recB_len {e a : List Int} (h : a.length + 1 ≠ e.length) : recB e a = false := recB_no (fun hh => h hh.2)
theorem recB_neg {e a : List Int} {k : Nat} (hk : k < a.length) : recB e (a.set k (-1)) = false := by
  refine recB_am (k := k) (by simpa using hk) ?_
  rw [List.getD_eq_getElem?_getD, List.getElem?_set_self hk]
  simp
theorem total_nn {e a : List Int} : 0 ≤ totalI e a ↔ recB e a = true := by
  cases h : recB e a
  · simp [totalI, h]
  · have h3 := (recB_iff.1 h).2.2
    have := sum_bd a a.length (Nat.le_refl _) h3
    rw [List.take_length] at this
    simp [totalI, h]
    omega
theorem total_eq {e a : List Int} (h : recB e a = true) : totalI e a = a.sum := by simp [totalI, h]
theorem total_bd {e a : List Int} : -1 ≤ totalI e a ∧ totalI e a ≤ 200000 := by
  cases h : recB e a
  · simp [totalI, h]
  · have h3 := (recB_iff.1 h).2.2
    have := sum_bd a a.length (Nat.le_refl _) h3
    have := recB_bd h
    rw [List.take_length] at *
    simp [totalI, h]
    omega
theorem total_parts {e a : List Int} (h : recB e a = true) {k : Nat} (h0 : 0 < k) (hk : k < a.length) : totalI (e.take (k + 1)) (a.take k) + totalI (e.drop k) (a.drop k) = totalI e a := by
  rw [total_eq h, total_eq (recB_take h h0 (by omega)), total_eq (recB_drop h hk), ← List.sum_append, List.take_append_drop]

end Go.Proofs.Ytionljjdfgeggaa
