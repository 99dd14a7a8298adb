/-
  Plain: what RecordBetween computes: the sum, bin by bin, of the parts of the amounts.
-/
import Derived.Test.YtionljjdfgeggaaPureF
import Derived.Test.YtionljjdfgeggaaPureR
namespace Go.Proofs.Ytionljjdfgeggaa

/-- the length that two pieces have in common -/
def ovl (t b x y : Int) : Int := max 0 (min b y - max t x)
def spanB (t b : Int) : Bool := decide (0 ≤ t ∧ t ≤ b ∧ b ≤ 30000)

def partF (e a : List Int) (t b : Int) (k : Nat) : Fr := ofF (a.getD k 0 * ovl t b (e.getD k 0) (e.getD (k + 1) 0)) (e.getD (k + 1) 0 - e.getD k 0)
def bsum (e a : List Int) (t b : Int) : Nat → Fr
  | 0 => some (0, 1)
  | k + 1 => (bsum e a t b k).bind fun s => (partF e a t b k).bind fun x => addF s x
def betF (e a : List Int) (t b : Int) : Fr := if recB e a = true ∧ spanB t b = true then bsum e a t b a.length else none

theorem bsum_succ (e a : List Int) (t b : Int) (k : Nat) : bsum e a t b (k + 1) = (bsum e a t b k).bind fun s => (partF e a t b k).bind fun x => addF s x := rfl
theorem bsum_none (e a : List Int) (t b : Int) {k n : Nat} (h : bsum e a t b k = none) (hk : k ≤ n) : bsum e a t b n = none := by
  induction n with
  | zero => obtain rfl : k = 0 := by omega
            exact h
  | succ n ih =>
    by_cases e1 : k = n + 1
    · subst e1; exact h
    · rw [bsum_succ, ih (by omega)]; rfl
theorem ovl_bd {t b x y : Int} (h : x ≤ y) : 0 ≤ ovl t b x y ∧ ovl t b x y ≤ y - x := by
  unfold ovl; omega
theorem addF_bad (s : Int × Int) : addF s (0, 0) = none := by
  unfold addF
  rw [if_neg]
  intro h
  have := vB_iff.1 h.2
  omega
end Go.Proofs.Ytionljjdfgeggaa
