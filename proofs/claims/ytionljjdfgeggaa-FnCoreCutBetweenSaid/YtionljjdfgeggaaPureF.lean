/-
  Plain arithmetic of fractions: what FracOf, FracAdd, FracSub, FracMul, FracDiv and FracLess compute. No program in sight.
-/
namespace Go.Proofs.Ytionljjdfgeggaa

abbrev Fr := Option (Int × Int)

def vB (n d : Int) : Bool := decide (1 ≤ d ∧ d ≤ 1000000000 ∧ -1000000000 ≤ n ∧ n ≤ 1000000000 ∧ Int.gcd n d = 1)

def inL (a : Int) : Prop := -4000000000000000000 ≤ a ∧ a ≤ 4000000000000000000
instance (a : Int) : Decidable (inL a) := inferInstanceAs (Decidable (_ ∧ _))

/-- the divisor by which FracOf divides both: the greatest common divisor with the sign of b -/
def gS (a b : Int) : Int := if b < 0 then -(Int.gcd a b : Int) else (Int.gcd a b : Int)

def ofF (a b : Int) : Fr :=
  if b ≠ 0 ∧ inL a ∧ inL b ∧ vB (a / gS a b) (b / gS a b) = true then some (a / gS a b, b / gS a b) else none

def fN (o : Fr) : Int := (o.getD (0, 0)).1
def fD (o : Fr) : Int := (o.getD (0, 0)).2
def fOk (o : Fr) : Bool := o.isSome

def addF (x y : Int × Int) : Fr := if vB x.1 x.2 = true ∧ vB y.1 y.2 = true then ofF (x.1 * y.2 + y.1 * x.2) (x.2 * y.2) else none
def subF (x y : Int × Int) : Fr := if vB x.1 x.2 = true ∧ vB y.1 y.2 = true then ofF (x.1 * y.2 - y.1 * x.2) (x.2 * y.2) else none
def mulF (x y : Int × Int) : Fr := if vB x.1 x.2 = true ∧ vB y.1 y.2 = true then ofF (x.1 * y.1) (x.2 * y.2) else none
def divF (x y : Int × Int) : Fr := if vB x.1 x.2 = true ∧ vB y.1 y.2 = true ∧ y.1 ≠ 0 then ofF (x.1 * y.2) (x.2 * y.1) else none
def ltF (x y : Int × Int) : Bool := decide (vB x.1 x.2 = true ∧ vB y.1 y.2 = true ∧ x.1 * y.2 < y.1 * x.2)

theorem vB_iff {n d : Int} : vB n d = true ↔ 1 ≤ d ∧ d ≤ 1000000000 ∧ -1000000000 ≤ n ∧ n ≤ 1000000000 ∧ Int.gcd n d = 1 := by simp [vB]

theorem gS_ne {a b : Int} (hb : b ≠ 0) : gS a b ≠ 0 := by
  have : Int.gcd a b ≠ 0 := by
    intro h
    exact hb (Int.gcd_eq_zero_iff.1 h).2
  unfold gS
  split <;> omega
theorem gS_dvd_left (a b : Int) : gS a b ∣ a := by
  unfold gS
  split
  · exact Int.neg_dvd.2 (Int.gcd_dvd_left ..)
  · exact Int.gcd_dvd_left ..
theorem gS_dvd_right (a b : Int) : gS a b ∣ b := by
  unfold gS
  split
  · exact Int.neg_dvd.2 (Int.gcd_dvd_right ..)
  · exact Int.gcd_dvd_right ..

/-- what FracOf gives has the value that was asked for -/
theorem ofF_some {a b : Int} {f : Int × Int} (h : ofF a b = some f) : b ≠ 0 ∧ vB f.1 f.2 = true ∧ f.1 * b = a * f.2 := by
  unfold ofF at h
  split at h
  · rename_i hc
    obtain ⟨hb, _, _, hv⟩ := hc
    obtain rfl := Option.some.inj h
    refine ⟨hb, hv, ?_⟩
    obtain ⟨x, hx⟩ := gS_dvd_left a b
    obtain ⟨y, hy⟩ := gS_dvd_right a b
    have hg := gS_ne (a := a) hb
    have e1 : a / gS a b = x := by
      generalize gS a b = g at *
      subst hx
      exact Int.mul_ediv_cancel_left _ hg
    have e2 : b / gS a b = y := by
      generalize gS a b = g at *
      subst hy
      exact Int.mul_ediv_cancel_left _ hg
    show a / gS a b * b = a * (b / gS a b)
    rw [e1, e2]
    generalize gS a b = g at *
    subst hx hy
    rw [Int.mul_assoc g x y, Int.mul_comm x (g * y), Int.mul_comm x y, Int.mul_assoc]
  · cases h

/-- a divisor of a product, prime to its first factor, divides the second -/
theorem dvd_of_gcd {k m n : Int} (h1 : Int.gcd m k = 1) (h2 : k ∣ m * n) : k ∣ n := by
  have h3 : k.natAbs ∣ m.natAbs * n.natAbs := by
    have := Int.natAbs_dvd_natAbs.2 h2
    rwa [Int.natAbs_mul] at this
  have h4 : Nat.Coprime k.natAbs m.natAbs := by
    show Nat.gcd _ _ = 1
    rw [Nat.gcd_comm]
    exact h1
  exact Int.natAbs_dvd_natAbs.1 (h4.dvd_of_dvd_mul_left h3)

/-- two valid fractions of one value are one -/
theorem vB_unique {f g : Int × Int} (hf : vB f.1 f.2 = true) (hg : vB g.1 g.2 = true) (h : f.1 * g.2 = g.1 * f.2) : f = g := by
  obtain ⟨f1, f2⟩ := f
  obtain ⟨g1, g2⟩ := g
  simp only [vB_iff] at hf hg h
  obtain ⟨hf1, _, _, _, hfg⟩ := hf
  obtain ⟨hg1, _, _, _, hgg⟩ := hg
  have d1 : f2 ∣ g2 := by
    have : f2 ∣ f1 * g2 := ⟨g1, by rw [h, Int.mul_comm]⟩
    exact dvd_of_gcd hfg this
  have d2 : g2 ∣ f2 := by
    have : g2 ∣ g1 * f2 := ⟨f1, by rw [← h, Int.mul_comm]⟩
    exact dvd_of_gcd hgg this
  have e2 : f2 = g2 := Int.dvd_antisymm (by omega) (by omega) d1 d2
  subst e2
  have e1 : f1 = g1 := Int.eq_of_mul_eq_mul_right (by omega) h
  rw [e1]

/-- FracOf finds every valid fraction -/
theorem ofF_of {a b : Int} {f : Int × Int} (hb : b ≠ 0) (ha : inL a) (hb' : inL b) (hv : vB f.1 f.2 = true) (h : f.1 * b = a * f.2) : ofF a b = some f := by
  obtain ⟨f1, f2⟩ := f
  have hv' := vB_iff.1 hv
  simp only at hv' h
  obtain ⟨h1, h2, h3, h4, h5⟩ := hv'
  have hf0 : f2 ≠ 0 := by omega
  -- b = f2 * k, a = f1 * k
  have hd : f2 ∣ b := by
    have : f2 ∣ f1 * b := ⟨a, by rw [h, Int.mul_comm]⟩
    exact dvd_of_gcd h5 this
  obtain ⟨k, hk⟩ := hd
  have ha' : a = f1 * k := by
    have : a * f2 = f1 * k * f2 := by rw [← h, hk, Int.mul_assoc, Int.mul_comm k f2]
    exact Int.eq_of_mul_eq_mul_right hf0 this
  have hk0 : k ≠ 0 := by
    rintro rfl
    simp at hk
    exact hb hk
  have hg : (Int.gcd a b : Int) = k.natAbs := by
    rw [ha', hk, Int.mul_comm f1 k, Int.mul_comm f2 k, Int.gcd_mul_left, h5]
    simp
  have hgS : gS a b = k := by
    unfold gS
    rw [hg]
    have hs : b < 0 ↔ k < 0 := by
      rw [hk]
      constructor
      · intro hlt
        rcases Int.lt_trichotomy k 0 with h | h | h
        · exact h
        · exact absurd h hk0
        · have := Int.mul_pos (show 0 < f2 by omega) h
          omega
      · intro hlt
        exact Int.mul_neg_of_pos_of_neg (by omega) hlt
    split <;> omega
  have e1 : a / gS a b = f1 := by
    rw [hgS, ha']
    exact Int.mul_ediv_cancel _ hk0
  have e2 : b / gS a b = f2 := by
    rw [hgS, hk]
    exact Int.mul_ediv_cancel _ hk0
  unfold ofF
  rw [e1, e2, if_pos ⟨hb, ha, hb', hv⟩]

end Go.Proofs.Ytionljjdfgeggaa
