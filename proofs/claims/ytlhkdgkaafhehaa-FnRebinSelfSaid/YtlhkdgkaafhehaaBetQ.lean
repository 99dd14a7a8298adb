/-
  Plain: amounts between depths, as rational numbers.
-/
import Derived.Test.YtlhkdgkaafhehaaPureQ
import Derived.Test.YtlhkdgkaafhehaaPureC
import Derived.Test.YtlhkdgkaafhehaaMean
namespace Go.Proofs.Ytlhkdgkaafhehaa
set_option linter.unusedVariables false

def termQ (a o w : Int) : Rat := (a : Rat) * (o : Rat) / (w : Rat)
def sumQ (e a : List Int) (t b : Int) : Nat → Rat
  | 0 => 0
  | k + 1 => sumQ e a t b k + termQ (a.getD k 0) (ovl t b (e.getD k 0) (e.getD (k + 1) 0)) (e.getD (k + 1) 0 - e.getD k 0)
theorem termQ_le {a o o' w : Int} (ha : 0 ≤ a) (ho : o ≤ o') (hw : 0 < w) : termQ a o w ≤ termQ a o' w := by
  unfold termQ
  have h1 : (a : Rat) * o ≤ a * o' := by
    have := Int.mul_le_mul_of_nonneg_left ho ha
    exact_mod_cast this
  have hw' := q_pos hw
  have e : (a : Rat) * o / w * w = a * o := by
    have : (w : Rat) ≠ 0 := by grind
    grind
  have : ¬ ((a : Rat) * o' / w < a * o / w) := fun h => by
    rw [Rat.div_lt_iff hw', e] at h; grind
  grind
theorem termQ_add {a o o' w : Int} : termQ a (o + o') w = termQ a o w + termQ a o' w := by
  unfold termQ
  have : ((o + o' : Int) : Rat) = o + o' := by norm_cast
  rw [this]; grind
theorem termQ_zero {a w : Int} : termQ a 0 w = 0 := by unfold termQ; grind
theorem termQ_all {a w : Int} (hw : 0 < w) : termQ a w w = a := by
  have : (w : Rat) ≠ 0 := by have := q_pos hw; grind
  unfold termQ; grind
theorem termQ_two {a o w : Int} : termQ (2 * a) o w = 2 * termQ a o w := by
  unfold termQ
  have : ((2 * a : Int) : Rat) = 2 * a := by norm_cast
  rw [this]; grind
theorem bsum_q {e a : List Int} {t b : Int} (h : recB e a = true) : ∀ (k : Nat) (f : Int × Int), k ≤ a.length → bsum e a t b k = some f → vB f.1 f.2 = true ∧ qv f = sumQ e a t b k
  | 0, f, _, hs => by
    simp [bsum] at hs
    subst hs
    exact ⟨by decide, by rw [qv_one]; rfl⟩
  | k + 1, f, hk, hs => by
    rw [bsum_succ] at hs
    obtain ⟨s, h1, h2⟩ := Option.bind_eq_some_iff.1 hs
    obtain ⟨x, h3, h4⟩ := Option.bind_eq_some_iff.1 h2
    obtain ⟨v1, q1⟩ := bsum_q h k s (by omega) h1
    obtain ⟨_, _, v3, q3⟩ := addF_q h4
    obtain ⟨_, vx, qx⟩ := ofF_q h3
    refine ⟨v3, ?_⟩
    rw [q3, q1, qx]
    have : ((a.getD k 0 * ovl t b (e.getD k 0) (e.getD (k + 1) 0) : Int) : Rat) = (a.getD k 0 : Rat) * (ovl t b (e.getD k 0) (e.getD (k + 1) 0) : Int) := by norm_cast
    rw [this]
    rfl
theorem betF_q {e a : List Int} {t b : Int} {f : Int × Int} (h : betF e a t b = some f) : vB f.1 f.2 = true ∧ qv f = sumQ e a t b a.length := by
  have hs := betF_span h
  unfold betF at h
  split at h
  · exact bsum_q hs.1 _ f (Nat.le_refl _) h
  · cases h
theorem sumQ_le {e a : List Int} {t b t' b' : Int} (h : recB e a = true) (ho : ∀ k, k < a.length → ovl t b (e.getD k 0) (e.getD (k + 1) 0) ≤ ovl t' b' (e.getD k 0) (e.getD (k + 1) 0)) : ∀ k, k ≤ a.length → sumQ e a t b k ≤ sumQ e a t' b' k
  | 0, _ => by simp [sumQ]
  | k + 1, hk => by
    have ih := sumQ_le h ho k (by omega)
    have hb := bin_ok h (k := k) (by omega)
    have := termQ_le (w := e.getD (k + 1) 0 - e.getD k 0) hb.2.2.2.1 (ho k (by omega)) (by omega)
    unfold sumQ
    grind
theorem sumQ_add {e a : List Int} {t d b : Int} (h : recB e a = true) (h1 : t ≤ d) (h2 : d ≤ b) : ∀ k, k ≤ a.length → sumQ e a t d k + sumQ e a d b k = sumQ e a t b k
  | 0, _ => by simp [sumQ]; grind
  | k + 1, hk => by
    have ih := sumQ_add h h1 h2 k (by omega)
    have hb := bin_ok h (k := k) (by omega)
    have ho : ovl t b (e.getD k 0) (e.getD (k + 1) 0) = ovl t d (e.getD k 0) (e.getD (k + 1) 0) + ovl d b (e.getD k 0) (e.getD (k + 1) 0) := by unfold ovl; omega
    unfold sumQ
    rw [ho, termQ_add]
    grind
theorem sumQ_nn {e a : List Int} {t b : Int} (h : recB e a = true) : ∀ k, k ≤ a.length → 0 ≤ sumQ e a t b k
  | 0, _ => by simp [sumQ]
  | k + 1, hk => by
    have ih := sumQ_nn (t := t) (b := b) h k (by omega)
    have hb := bin_ok h (k := k) (by omega)
    have ho : 0 ≤ ovl t b (e.getD k 0) (e.getD (k + 1) 0) := by unfold ovl; omega
    have := termQ_le (w := e.getD (k + 1) 0 - e.getD k 0) hb.2.2.2.1 ho (by omega)
    rw [termQ_zero] at this
    unfold sumQ
    grind
theorem sumQ_tot {e a : List Int} {t b : Int} (h : recB e a = true) : ∀ k, k ≤ a.length → sumQ e a t b k ≤ ((a.take k).sum : Int)
  | 0, _ => by simp [sumQ]
  | k + 1, hk => by
    have ih := sumQ_tot (t := t) (b := b) h k (by omega)
    have hb := bin_ok h (k := k) (by omega)
    have ho : ovl t b (e.getD k 0) (e.getD (k + 1) 0) ≤ e.getD (k + 1) 0 - e.getD k 0 := (ovl_bd (by omega)).2
    have := termQ_le (w := e.getD (k + 1) 0 - e.getD k 0) hb.2.2.2.1 ho (by omega)
    rw [termQ_all (by omega)] at this
    rw [take_sum a k (by omega)]
    have e2 : (((a.take k).sum + a.getD k 0 : Int) : Rat) = ((a.take k).sum : Int) + (a.getD k 0 : Int) := by norm_cast
    rw [e2]
    unfold sumQ
    grind
theorem sumQ_same {e a : List Int} {t : Int} : ∀ k, sumQ e a t t k = 0
  | 0 => rfl
  | k + 1 => by
    have ho : ovl t t (e.getD k 0) (e.getD (k + 1) 0) = 0 := by unfold ovl; omega
    unfold sumQ
    rw [sumQ_same k, ho, termQ_zero]; grind
theorem sumQ_two {e a a2 : List Int} {t b : Int} (h : ∀ k, a2.getD k 0 = 2 * a.getD k 0) : ∀ k, sumQ e a2 t b k = 2 * sumQ e a t b k
  | 0 => by simp [sumQ]
  | k + 1 => by
    unfold sumQ
    rw [sumQ_two h k, h k, termQ_two]; grind
/-! ## The statements on amounts -/
theorem bet_more {e a : List Int} {t b t' b' : Int} {f g : Int × Int} (hf : betF e a t b = some f) (hg : betF e a t' b' = some g) (h1 : t' ≤ t) (h2 : b ≤ b') : qv f ≤ qv g := by
  have hs := betF_span hf
  rw [(betF_q hf).2, (betF_q hg).2]
  refine sumQ_le hs.1 (fun k hk => ?_) _ (Nat.le_refl _)
  unfold ovl; omega
theorem bet_two {e a a2 : List Int} {t b : Int} {f g : Int × Int} (h : a2 = a.map (2 * ·)) (hf : betF e a t b = some f) (hg : betF e a2 t b = some g) : mulF f (2, 1) = some g := by
  obtain ⟨v1, q1⟩ := betF_q hf
  obtain ⟨v2, q2⟩ := betF_q hg
  have hl : a2.length = a.length := by rw [h]; simp
  refine mulF_mk v1 (by decide) v2 ?_
  rw [q2, q1, hl, sumQ_two (a := a), qv_one]
  · grind
  · intro k
    rw [h, List.getD_eq_getElem?_getD, List.getD_eq_getElem?_getD, List.getElem?_map]
    cases a[k]? <;> rfl
theorem bet_split {e a : List Int} {t d b : Int} {f x y z : Int × Int} (hf : betF e a t b = some f) (hx : betF e a t d = some x) (hy : betF e a d b = some y) (hz : addF x y = some z) : z = f := by
  obtain ⟨v1, q1⟩ := betF_q hf
  obtain ⟨v2, q2⟩ := betF_q hx
  obtain ⟨v3, q3⟩ := betF_q hy
  obtain ⟨_, _, v4, q4⟩ := addF_q hz
  have s1 := betF_span hx
  have s2 := betF_span hy
  exact qv_inj v4 v1 (by rw [q4, q2, q3, q1]; exact sumQ_add s1.1 s1.2.2.1 s2.2.2.1 _ (Nat.le_refl _))
theorem bet_nn {e a : List Int} {t b : Int} {f : Int × Int} (hf : betF e a t b = some f) : 0 ≤ f.1 := by
  obtain ⟨v1, q1⟩ := betF_q hf
  have hs := betF_span hf
  have := sumQ_nn (t := t) (b := b) hs.1 _ (Nat.le_refl _)
  exact (qv_nn (vB_pos v1)).1 (by rw [q1]; exact this)
theorem bet_tot {e a : List Int} {t b : Int} {f : Int × Int} (hf : betF e a t b = some f) : ltF (totalI e a, 1) f = false := by
  obtain ⟨v1, q1⟩ := betF_q hf
  have hs := betF_span hf
  refine ltF_not fun _ _ => ?_
  rw [q1, qv_one, total_eq hs.1]
  have := sumQ_tot (t := t) (b := b) hs.1 _ (Nat.le_refl _)
  rwa [List.take_length] at this
theorem bet_same {e a : List Int} {t : Int} {f : Int × Int} (hf : betF e a t t = some f) : f.1 = 0 := by
  obtain ⟨v1, q1⟩ := betF_q hf
  rw [sumQ_same] at q1
  have : f = (0, 1) := qv_inj v1 (by decide) (by rw [q1, qv_one]; rfl)
  rw [this]
theorem bet_above {e a : List Int} (h : recB e a = true) : betF e a 0 (e.getD 0 0) = some (0, 1) := by
  have hl := recB_bd h
  have h1 := (recB_iff.1 h).1
  have h0 := edges_dep h1 (i := 0) (by omega)
  have hi : ∀ m, m ≤ a.length → insum e a 0 (e.getD 0 0) m = 0 := by
    intro m
    induction m with
    | zero => intro _; rfl
    | succ m ih =>
      intro hm
      have := edges_lt h1 (i := 0) (j := m + 1) (by omega) (by omega)
      unfold insum
      rw [ih (by omega), if_neg (by omega)]; rfl
  have hsp : spanB 0 (e.getD 0 0) = true := by simp only [spanB, decide_eq_true_eq]; omega
  unfold betF
  rw [if_pos ⟨h, hsp⟩, bsum_whole h _ (Nat.le_refl _) (fun k hk => .inr (.inl (edges_mono h1 (by omega) (by omega)))), hi _ (Nat.le_refl _)]
theorem bet_below {e a : List Int} (h : recB e a = true) : betF e a (e.getD (e.length - 1) 0) 30000 = some (0, 1) := by
  have hl := recB_bd h
  have h1 := (recB_iff.1 h).1
  have h0 := edges_dep h1 (i := e.length - 1) (by omega)
  have hi : ∀ m, m ≤ a.length → insum e a (e.getD (e.length - 1) 0) 30000 m = 0 := by
    intro m
    induction m with
    | zero => intro _; rfl
    | succ m ih =>
      intro hm
      have := edges_lt h1 (i := m) (j := e.length - 1) (by omega) (by omega)
      unfold insum
      rw [ih (by omega), if_neg (by omega)]; rfl
  have hsp : spanB (e.getD (e.length - 1) 0) 30000 = true := by simp only [spanB, decide_eq_true_eq]; omega
  unfold betF
  rw [if_pos ⟨h, hsp⟩, bsum_whole h _ (Nat.le_refl _) (fun k hk => .inr (.inr (edges_mono h1 (by omega) (by omega)))), hi _ (Nat.le_refl _)]
theorem bet_bin {e a : List Int} (h : recB e a = true) {k : Nat} (hk : k < a.length) : betF e a (e.getD k 0) (e.getD (k + 1) 0) = some (a.getD k 0, 1) := by
  have hl := recB_bd h
  rw [bet_edges h (by omega) (by omega), take_sum a k hk]
  congr 2
  omega
/-! ## Parts of one bin -/
theorem frac_red (n d : Int) (hd : 0 < d) (hd' : d ≤ 1000000000) (hn : -1000000000 ≤ n ∧ n ≤ 1000000000) : ∃ f, ofF n d = some f ∧ vB f.1 f.2 = true ∧ qv f = (n : Rat) / d := by
  have hg0 : (0 : Int) < Int.gcd n d := by
    have : Int.gcd n d ≠ 0 := fun h => by have := (Int.gcd_eq_zero_iff.1 h).2; omega
    omega
  obtain ⟨x, hx⟩ : (Int.gcd n d : Int) ∣ n := Int.gcd_dvd_left ..
  obtain ⟨y, hy⟩ : (Int.gcd n d : Int) ∣ d := Int.gcd_dvd_right ..
  have hy0 : 0 < y := by
    rcases Int.lt_or_le 0 y with c | c
    · exact c
    · have := Int.mul_nonpos_of_nonneg_of_nonpos (show (0 : Int) ≤ Int.gcd n d by omega) c
      omega
  have ey : y ≤ d := by
    have := Int.mul_le_mul_of_nonneg_right (show (1 : Int) ≤ Int.gcd n d by omega) (show (0 : Int) ≤ y by omega)
    omega
  have ex : -1000000000 ≤ x ∧ x ≤ 1000000000 := by
    have e := Int.natAbs_mul (Int.gcd n d : Int) x
    rw [← hx] at e
    have : x.natAbs ≤ (Int.gcd n d : Int).natAbs * x.natAbs := Nat.le_mul_of_pos_left _ (by omega)
    omega
  have hc : Int.gcd x y = 1 := by
    have h1 : Int.gcd ((Int.gcd n d : Int) * x) ((Int.gcd n d : Int) * y) = Int.gcd n d := by rw [← hx, ← hy]
    rw [Int.gcd_mul_left] at h1
    have h2 : Int.natAbs (Int.gcd n d : Int) = Int.gcd n d := by omega
    rw [h2] at h1
    have h3 : 0 < Int.gcd n d := by omega
    exact Nat.eq_of_mul_eq_mul_left h3 (by omega)
  have hv : vB x y = true := vB_iff.2 ⟨by omega, by omega, ex.1, ex.2, hc⟩
  have hq : x * d = n * y := by
    have h1 : x * d = x * (Int.gcd n d * y) := by rw [← hy]
    have h2 : n * y = Int.gcd n d * x * y := by rw [← hx]
    rw [h1, h2, Int.mul_comm (Int.gcd n d : Int) x, Int.mul_assoc]
  exact ⟨(x, y), ofF_of (by omega) (by constructor <;> omega) (by constructor <;> omega) hv hq, hv, (qdiv_eq (f := (x, y)) hy0 (by omega)).2 hq⟩
end Go.Proofs.Ytlhkdgkaafhehaa
