/-
  Plain laws of records: what the tests and the total compute. No program in sight.
-/
namespace Go.Proofs.Ytpaemnambphldaa

def depB (d : Int) : Bool := decide (0 ≤ d ∧ d ≤ 30000)

def okUp (l : List Int) (k : Nat) : Prop := ∀ i, i < k → (0 ≤ l.getD i 0 ∧ l.getD i 0 ≤ 30000) ∧ (0 < i → l.getD (i - 1) 0 < l.getD i 0)
instance (l : List Int) (k : Nat) : Decidable (okUp l k) := inferInstanceAs (Decidable (∀ i, i < k → _))
def edgesB (l : List Int) : Bool := decide (okUp l l.length ∧ 2 ≤ l.length ∧ l.length ≤ 21)

def okAm (l : List Int) (k : Nat) : Prop := ∀ i, i < k → 0 ≤ l.getD i 0 ∧ l.getD i 0 ≤ 10000
instance (l : List Int) (k : Nat) : Decidable (okAm l k) := inferInstanceAs (Decidable (∀ i, i < k → _))
def recB (e a : List Int) : Bool := decide (edgesB e = true ∧ a.length + 1 = e.length ∧ okAm a a.length)

def totalI (e a : List Int) : Int := if recB e a = true then a.sum else -1

theorem okUp_zero (l : List Int) : okUp l 0 := fun i hi => absurd hi (by omega)
theorem okUp_succ {l : List Int} {k : Nat} (h : okUp l k) (h1 : depB (l.getD k 0) = true) (h2 : 0 < k → l.getD (k - 1) 0 < l.getD k 0) : okUp l (k + 1) := by
  intro i hi
  by_cases e : i = k
  · subst e; exact ⟨by simpa [depB] using h1, h2⟩
  · exact h i (by omega)
theorem edgesB_no {l : List Int} {k : Nat} (hk : k < l.length) (h : depB (l.getD k 0) = false ∨ (0 < k ∧ l.getD k 0 ≤ l.getD (k - 1) 0)) : edgesB l = false := by
  simp only [edgesB, decide_eq_false_iff_not]
  rintro ⟨h1, _⟩
  have := h1 k hk
  rcases h with h | h
  · simp [depB] at h; simp at this; omega
  · omega
theorem edgesB_end {l : List Int} (h : okUp l l.length) : edgesB l = decide (2 ≤ l.length ∧ l.length ≤ 21) := by
  simp only [edgesB]
  congr 1
  exact propext ⟨fun h => h.2, fun h' => ⟨h, h'⟩⟩

theorem okAm_zero (l : List Int) : okAm l 0 := fun i hi => absurd hi (by omega)
theorem okAm_succ {l : List Int} {k : Nat} (h : okAm l k) (h1 : 0 ≤ l.getD k 0) (h2 : l.getD k 0 ≤ 10000) : okAm l (k + 1) := by
  intro i hi
  by_cases e : i = k
  · subst e; exact ⟨h1, h2⟩
  · exact h i (by omega)
theorem recB_iff {e a : List Int} : recB e a = true ↔ edgesB e = true ∧ a.length + 1 = e.length ∧ okAm a a.length := by simp [recB]
theorem recB_no {e a : List Int} (h : ¬ (edgesB e = true ∧ a.length + 1 = e.length)) : recB e a = false := by
  simp only [recB, decide_eq_false_iff_not]
  intro hh
  exact h ⟨hh.1, hh.2.1⟩
theorem recB_am {e a : List Int} {k : Nat} (hk : k < a.length) (h : ¬ (0 ≤ a.getD k 0 ∧ a.getD k 0 ≤ 10000)) : recB e a = false := by
  simp only [recB, decide_eq_false_iff_not]
  intro hh
  exact h (hh.2.2 k hk)

theorem take_sum (l : List Int) (k : Nat) (h : k < l.length) : (l.take (k + 1)).sum = (l.take k).sum + l.getD k 0 := by
  rw [List.take_succ_eq_append_getElem h, List.sum_append]
  simp [List.getD_eq_getElem?_getD, List.getElem?_eq_getElem h]

theorem sum_bd (l : List Int) (k : Nat) (hk : k ≤ l.length) (h : okAm l l.length) : 0 ≤ (l.take k).sum ∧ (l.take k).sum ≤ 10000 * k := by
  induction k with
  | zero => simp
  | succ k ih =>
    have h1 := ih (by omega)
    have h2 := h k (by omega)
    rw [take_sum l k (by omega)]
    omega

end Go.Proofs.Ytpaemnambphldaa
