/-
  Plain: what curves give at integers, at curves' values; slopes.
-/
import Derived.Test.YtidcomcnieggaaaPureM
namespace Go.Proofs.Ytidcomcnieggaaa
set_option linter.unusedVariables false

theorem vB_int {n : Int} (h : -1000000000 ≤ n ∧ n ≤ 1000000000) : vB n 1 = true := vB_iff.2 ⟨by omega, by omega, by omega, by omega, by simp⟩
theorem dvd_gcd {k : Nat} {m n : Int} (h1 : (k : Int) ∣ m) (h2 : (k : Int) ∣ n) : k ∣ Int.gcd m n := Nat.dvd_gcd (Int.ofNat_dvd_left.1 h1) (Int.ofNat_dvd_left.1 h2)
theorem gcd_shift (n a d : Int) : Int.gcd (n - a * d) d = Int.gcd n d := by
  apply Nat.dvd_antisymm
  · refine dvd_gcd ?_ (Int.gcd_dvd_right ..)
    have h1 : (Int.gcd (n - a * d) d : Int) ∣ n - a * d := Int.gcd_dvd_left ..
    have h2 : (Int.gcd (n - a * d) d : Int) ∣ d := Int.gcd_dvd_right ..
    have h3 := Int.dvd_add h1 (Int.dvd_trans h2 (Int.dvd_mul_left a d))
    rwa [Int.sub_add_cancel] at h3
  · refine dvd_gcd ?_ (Int.gcd_dvd_right ..)
    have h1 : (Int.gcd n d : Int) ∣ n := Int.gcd_dvd_left ..
    have h2 : (Int.gcd n d : Int) ∣ d := Int.gcd_dvd_right ..
    exact Int.dvd_sub h1 (Int.dvd_trans h2 (Int.dvd_mul_left a d))
theorem vB_shift {n a d : Int} (h : vB n d = true) (ha : 0 ≤ a) (h1 : a * d ≤ n) : vB (n - a * d) d = true := by
  obtain ⟨p1, p2, p3, p4, p5⟩ := vB_iff.1 h
  have : 0 ≤ a * d := Int.mul_nonneg ha (by omega)
  exact vB_iff.2 ⟨p1, p2, by omega, by omega, by rw [gcd_shift]; exact p5⟩
theorem qv_shift {n a d : Int} (hd : 0 < d) : qv (n - a * d, d) = qv (n, d) - a := by
  have := q_pos hd
  have n1 : (d : Rat) ≠ 0 := by grind
  unfold qv
  have e : ((n - a * d : Int) : Rat) = (n : Rat) - a * d := by norm_cast
  dsimp only
  rw [e]
  grind
theorem fr_ext {x y : Fr} (h : ∀ f, x = some f ↔ y = some f) : x = y := by
  cases x with
  | some f => exact ((h f).1 rfl).symm
  | none =>
    cases y with
    | none => rfl
    | some f => exact absurd ((h f).2 rfl) (by simp)
/-! ## Slopes -/
def slF (c : List Kn) (i : Nat) : Fr := ofF (ky c (i + 1) - ky c i) (kx c (i + 1) - kx c i)
theorem rise_tot {a b : Kn} (hab : Lt2 a b) (ba : (0 ≤ a.1 ∧ a.1 ≤ 30000) ∧ (0 ≤ a.2 ∧ a.2 ≤ 30000)) (bb : (0 ≤ b.1 ∧ b.1 ≤ 30000) ∧ (0 ≤ b.2 ∧ b.2 ≤ 30000)) :
    ∃ s, ofF (b.2 - a.2) (b.1 - a.1) = some s ∧ vB s.1 s.2 = true ∧ qv s = ((b.2 : Rat) - a.2) / ((b.1 : Rat) - a.1) ∧ 0 < s.1 ∧ s.2 ≤ 30000 ∧ s.1 ≤ 30000 := by
  obtain ⟨p1, p2⟩ := hab
  obtain ⟨s, hs, hd⟩ := ofF_tot (a := b.2 - a.2) (b := b.1 - a.1) (by omega) (by omega) (by omega)
  obtain ⟨_, h2, h3⟩ := ofF_q hs
  have e1 : ((b.2 - a.2 : Int) : Rat) = (b.2 : Rat) - a.2 := by norm_cast
  have e2 : ((b.1 - a.1 : Int) : Rat) = (b.1 : Rat) - a.1 := by norm_cast
  rw [e1, e2] at h3
  have hp : (0 : Rat) < qv s := by rw [h3]; exact slo_pos ⟨p1, p2⟩
  have hs2 := vB_pos h2
  have hn : 0 < s.1 := by
    have := (qv_lt (x := (0, 1)) (y := s) (by decide) hs2).1 (by rw [qv_one]; exact_mod_cast hp)
    simpa using this
  obtain ⟨hb0, _, hx⟩ := ofF_some hs
  have hle : s.1 ≤ 30000 := by
    have h5 : s.1 * 1 ≤ s.1 * (b.1 - a.1) := Int.mul_le_mul_of_nonneg_left (by omega) (by omega)
    have hd' : s.2 ≤ b.1 - a.1 := by omega
    -- s.1 * run = rise * s.2 ≤ rise * run
    have h6 : (b.2 - a.2) * s.2 ≤ (b.2 - a.2) * (b.1 - a.1) := Int.mul_le_mul_of_nonneg_left hd' (by omega)
    have h7 : s.1 ≤ b.2 - a.2 := Int.le_of_mul_le_mul_right (by rw [hx]; exact h6) (show 0 < b.1 - a.1 by omega)
    omega
  exact ⟨s, hs, h2, h3, hn, by omega, hle⟩
theorem cur_lt2 {c : List Kn} (h : curB c = true) {i j : Nat} (hij : i < j) (hj : j < c.length) : Lt2 (c.getD i (0, 0)) (c.getD j (0, 0)) := cur_up h hij hj
theorem sl_tot {c : List Kn} (h : curB c = true) {i : Nat} (hi : i + 1 < c.length) : ∃ s, slF c i = some s ∧ vB s.1 s.2 = true ∧ qv s = ((ky c (i + 1) : Rat) - ky c i) / ((kx c (i + 1) : Rat) - kx c i) ∧ 0 < s.1 ∧ s.2 ≤ 30000 ∧ s.1 ≤ 30000 :=
  rise_tot (a := c.getD i (0, 0)) (b := c.getD (i + 1) (0, 0)) (cur_lt2 h (by omega) hi) (cur_bd h (by omega)) (cur_bd h hi)
theorem sl_turn {c : List Kn} (h : curB c = true) {i : Nat} (hi : i + 1 < c.length) {f : Int × Int} (hf : slF c i = some f) : ∃ g, slF (turnL c) i = some g ∧ divF (1, 1) f = some g := by
  obtain ⟨s, h1, h2, h3, h4, _⟩ := sl_tot h hi
  rw [hf] at h1
  obtain rfl := Option.some.inj h1
  obtain ⟨g, g1, g2, g3, _⟩ := sl_tot (turn_cur h) (i := i) (by rw [turnL_len]; exact hi)
  refine ⟨g, g1, divF_mk (vB_int (by omega)) h2 (by omega) g2 ?_⟩
  obtain ⟨u, v⟩ := lt2_q (cur_lt2 h (show i < i + 1 by omega) hi)
  have u' : ((kx c (i + 1) : Rat) - kx c i) ≠ 0 := by unfold kx; grind
  have v' : ((ky c (i + 1) : Rat) - ky c i) ≠ 0 := by unfold ky; grind
  rw [g3, h3, turn_x, turn_x, turn_y, turn_y, qv_one]
  have : ((1 : Int) : Rat) = 1 := by norm_cast
  rw [this]
  grind
theorem sl_lean {c : List Kn} (h : curB c = true) (hn : NL c) {i : Nat} (hi : i + 2 < c.length) {f g : Int × Int} (hf : slF c i = some f) (hg : slF c (i + 1) = some g) : f ≠ g := by
  rintro rfl
  obtain ⟨s, h1, h2, h3, _⟩ := sl_tot h (i := i) (by omega)
  obtain ⟨t, g1, g2, g3, _⟩ := sl_tot h (i := i + 1) hi
  rw [hf] at h1; obtain rfl := Option.some.inj h1
  rw [hg] at g1; obtain rfl := Option.some.inj g1
  have hl := NL_at hn hi
  rw [Bool.eq_false_iff] at hl
  apply hl
  rw [lineB_iff]
  obtain ⟨u, v⟩ := lt2_q (cur_lt2 h (show i < i + 1 by omega) (show i + 1 < c.length by omega))
  obtain ⟨u2, v2⟩ := lt2_q (cur_lt2 h (show i + 1 < i + 2 by omega) hi)
  rw [h3] at g3
  unfold kx ky at g3
  generalize c.getD i (0, 0) = a at *
  generalize c.getD (i + 1) (0, 0) = k at *
  generalize c.getD (i + 2) (0, 0) = b at *
  have u' : ((k.1 : Rat) - a.1) ≠ 0 := by grind
  have u2' : ((b.1 : Rat) - k.1) ≠ 0 := by grind
  have : ((k.2 : Rat) - a.2) * (b.1 - a.1) = (b.2 - a.2) * (k.1 - a.1) := by grind
  exact_mod_cast this
/-- a sum of parts -/
theorem mean_sum (c : List Kn) (T R : Int) : ∀ m, (∀ i, i < m → (ky c (i + 1) - ky c i) * T < R * (kx c (i + 1) - kx c i)) → 1 ≤ m → (ky c m - ky c 0) * T < R * (kx c m - kx c 0)
  | 0, _, h => by omega
  | 1, h, _ => h 0 (by omega)
  | m + 2, h, _ => by
    show (ky c (m + 1 + 1) - ky c 0) * T < R * (kx c (m + 1 + 1) - kx c 0)
    have ih := mean_sum c T R (m + 1) (fun i hi => h i (by omega)) (by omega)
    have h1 := h (m + 1) (by omega)
    have e1 : (ky c (m + 1 + 1) - ky c 0) * T = (ky c (m + 1 + 1) - ky c (m + 1)) * T + (ky c (m + 1) - ky c 0) * T := by rw [← Int.add_mul]; congr 1; omega
    have e2 : R * (kx c (m + 1 + 1) - kx c 0) = R * (kx c (m + 1 + 1) - kx c (m + 1)) + R * (kx c (m + 1) - kx c 0) := by rw [← Int.mul_add]; congr 1; omega
    omega
theorem mean_sum' (c : List Kn) (T R : Int) : ∀ m, (∀ i, i < m → R * (kx c (i + 1) - kx c i) < (ky c (i + 1) - ky c i) * T) → 1 ≤ m → R * (kx c m - kx c 0) < (ky c m - ky c 0) * T
  | 0, _, h => by omega
  | 1, h, _ => h 0 (by omega)
  | m + 2, h, _ => by
    show R * (kx c (m + 1 + 1) - kx c 0) < (ky c (m + 1 + 1) - ky c 0) * T
    have ih := mean_sum' c T R (m + 1) (fun i hi => h i (by omega)) (by omega)
    have h1 := h (m + 1) (by omega)
    have e1 : (ky c (m + 1 + 1) - ky c 0) * T = (ky c (m + 1 + 1) - ky c (m + 1)) * T + (ky c (m + 1) - ky c 0) * T := by rw [← Int.add_mul]; congr 1; omega
    have e2 : R * (kx c (m + 1 + 1) - kx c 0) = R * (kx c (m + 1 + 1) - kx c (m + 1)) + R * (kx c (m + 1) - kx c 0) := by rw [← Int.mul_add]; congr 1; omega
    omega
/-- fractions of two quotients, compared -/
theorem ltF_quo {f g : Int × Int} {a b a' b' : Int} (hf : ofF a b = some f) (hg : ofF a' b' = some g) (hb : 0 < b) (hb' : 0 < b') : ltF f g = true ↔ a * b' < a' * b := by
  obtain ⟨_, h2, h3⟩ := ofF_q hf
  obtain ⟨_, g2, g3⟩ := ofF_q hg
  rw [ltF_q h2 g2, h3, g3]
  exact qv_lt (x := (a, b)) (y := (a', b')) hb hb'
def lowB (c : List Kn) (q : Int × Int) (i : Nat) : Bool := (List.range i).any fun j => !ltF q ((slF c j).getD (0, 0))
def highB (c : List Kn) (q : Int × Int) (i : Nat) : Bool := (List.range i).any fun j => !ltF ((slF c j).getD (0, 0)) q
theorem lowB_succ (c : List Kn) (q : Int × Int) (i : Nat) : lowB c q (i + 1) = (lowB c q i || !ltF q ((slF c i).getD (0, 0))) := by simp [lowB, List.range_succ]
theorem highB_succ (c : List Kn) (q : Int × Int) (i : Nat) : highB c q (i + 1) = (highB c q i || !ltF ((slF c i).getD (0, 0)) q) := by simp [highB, List.range_succ]
def endsL (c : List Kn) : List Kn := [c.getD 0 (0, 0), c.getD (c.length - 1) (0, 0)]
theorem ends_cur {c : List Kn} (h : curB c = true) : curB (endsL c) = true := by
  have hl := cur_len h
  refine cur_of ?_ ?_ (by simp [endsL]) (by simp [endsL])
  · exact List.pairwise_cons.2 ⟨fun z hz => by
      obtain rfl : z = c.getD (c.length - 1) (0, 0) := by simpa using hz
      exact cur_lt2 h (by omega) (by omega), by simp⟩
  · intro z hz
    simp only [endsL, List.mem_cons, List.not_mem_nil, or_false] at hz
    rcases hz with rfl | rfl
    · exact cur_bd h (by omega)
    · exact cur_bd h (by omega)
theorem sl_mean {c : List Kn} (h : curB c = true) {q : Int × Int} (hq : slF (endsL c) 0 = some q) : lowB c q (c.length - 1) = true ∧ highB c q (c.length - 1) = true := by
  have hl := cur_len h
  have hq' : ofF (ky c (c.length - 1) - ky c 0) (kx c (c.length - 1) - kx c 0) = some q := hq
  have hT := (cur_up h (i := 0) (j := c.length - 1) (by omega) (by omega)).1
  constructor
  · rw [← Bool.not_eq_false]
    intro hn
    have h1 : ∀ i, i < c.length - 1 → (ky c (c.length - 1) - ky c 0) * (kx c (i + 1) - kx c i) < (ky c (i + 1) - ky c i) * (kx c (c.length - 1) - kx c 0) := by
      intro i hi
      obtain ⟨s, hs, _⟩ := sl_tot h (i := i) (by omega)
      have hr := (cur_up h (i := i) (j := i + 1) (by omega) (by omega)).1
      have := List.any_eq_false.1 hn i (List.mem_range.2 hi)
      rw [hs] at this
      have h3 : ltF q s = true := by simpa using this
      exact (ltF_quo hq' hs (by omega) (by omega)).1 h3
    have := mean_sum' c _ _ _ h1 (by omega)
    omega
  · rw [← Bool.not_eq_false]
    intro hn
    have h1 : ∀ i, i < c.length - 1 → (ky c (i + 1) - ky c i) * (kx c (c.length - 1) - kx c 0) < (ky c (c.length - 1) - ky c 0) * (kx c (i + 1) - kx c i) := by
      intro i hi
      obtain ⟨s, hs, _⟩ := sl_tot h (i := i) (by omega)
      have hr := (cur_up h (i := i) (j := i + 1) (by omega) (by omega)).1
      have := List.any_eq_false.1 hn i (List.mem_range.2 hi)
      rw [hs] at this
      have h3 : ltF s q = true := by simpa using this
      exact (ltF_quo hs hq' (by omega) (by omega)).1 h3
    have := mean_sum c _ _ _ h1 (by omega)
    omega
/-! ## At integers -/
theorem q_int (x : Int) : (x : Rat) / ((1 : Int) : Rat) = (x : Rat) := by
  have : ((1 : Int) : Rat) = 1 := by norm_cast
  rw [this]; grind
def curAt (c : List Kn) (x : Int) : Fr := if curB c = true then atF c x 1 else none
theorem curAt_cur {c : List Kn} (h : curB c = true) (x : Int) : curAt c x = atF c x 1 := if_pos h
theorem curAt_no {c : List Kn} (h : curB c = false) (x : Int) : curAt c x = none := if_neg (by rw [h]; simp)
theorem curAt_q {c : List Kn} {x : Int} {f : Int × Int} (h : curAt c x = some f) : curB c = true ∧ OnL c x (qv f) ∧ vB f.1 f.2 = true := by
  unfold curAt at h
  split at h
  · rename_i hc
    have := at_q hc (by omega) h
    rw [q_int] at this
    exact ⟨hc, this⟩
  · cases h
theorem curAt_mk {c : List Kn} (h : curB c = true) {x : Int} {f : Int × Int} (hf : OnL c x (qv f)) (hv : vB f.1 f.2 = true) : curAt c x = some f := by
  rw [curAt_cur h]
  exact at_mk h (by omega) (by rw [q_int]; exact hf) hv
theorem atR_tot : ∀ {c : List Kn}, Ris c → Bnd c → 2 ≤ c.length → ∀ {x : Int}, (∀ a r, c = a :: r → a.1 ≤ x) → (∃ b ∈ c, x ≤ b.1) → ∃ f, atR x 1 c = some f
  | [], _, _, h, _, _, _ => by simp at h
  | [a], _, _, h, _, _, _ => by simp at h
  | a :: b :: r, hu, hb, _, x, h0, ⟨m, hm, h2⟩ => by
    have hu' := List.pairwise_cons.1 hu
    have hab := hu'.1 b (by simp)
    have h0' := h0 a _ rfl
    have ba := hb a (by simp)
    have bb := hb b (by simp)
    unfold atR
    by_cases e : b.1 * 1 < x
    · rw [if_pos e]
      have hm' : m ∈ b :: r := by
        rcases List.mem_cons.1 hm with rfl | hm
        · have := hab.1; omega
        · exact hm
      cases r with
      | nil =>
        obtain rfl : m = b := by simpa using hm'
        omega
      | cons d r => exact atR_tot hu'.2 (fun k hk => hb k (List.mem_cons_of_mem _ hk)) (by simp) (fun a' r' e' => by injection e' with e1 _; subst e1; omega) ⟨m, hm', h2⟩
    · rw [if_neg e]
      obtain ⟨p1, p2⟩ := hab
      have e5 : 0 ≤ a.2 * (b.1 - a.1) := Int.mul_nonneg (by omega) (by omega)
      have e9 : 0 ≤ (x - a.1 * 1) * (b.2 - a.2) := Int.mul_nonneg (by omega) (by omega)
      have e10 : (x - a.1 * 1) * (b.2 - a.2) ≤ (b.1 - a.1) * (b.2 - a.2) := Int.mul_le_mul_of_nonneg_right (by omega) (by omega)
      have e11 : a.2 * (b.1 - a.1) + (b.1 - a.1) * (b.2 - a.2) = b.2 * (b.1 - a.1) := by rw [Int.mul_comm (b.1 - a.1) (b.2 - a.2), ← Int.add_mul]; congr 1; omega
      have e12 : b.2 * (b.1 - a.1) ≤ 30000 * 30000 := Int.mul_le_mul (by omega) (by omega) (by omega) (by omega)
      obtain ⟨f, hf, _⟩ := ofF_tot (a := a.2 * (b.1 - a.1) * 1 + (x - a.1 * 1) * (b.2 - a.2)) (b := (b.1 - a.1) * 1) (by omega) (by omega) (by omega)
      exact ⟨f, hf⟩
theorem kx_mem {c : List Kn} {i : Nat} (h : i < c.length) : c.getD i (0, 0) ∈ c := getD_mem c h
theorem mem_le_last {c : List Kn} (h : curB c = true) {k : Kn} (hk : k ∈ c) : k.1 ≤ kx c (c.length - 1) ∧ k.2 ≤ ky c (c.length - 1) := by
  obtain ⟨i, hi, rfl⟩ := List.getElem_of_mem hk
  by_cases e : i = c.length - 1
  · subst e; rw [kx_of c hi, ky_of c hi]; exact ⟨Int.le_refl _, Int.le_refl _⟩
  · have := cur_up h (i := i) (j := c.length - 1) (by omega) (by omega)
    rw [kx_of c hi, ky_of c hi] at this
    omega
theorem mem_ge_first {c : List Kn} (h : curB c = true) {k : Kn} (hk : k ∈ c) : kx c 0 ≤ k.1 ∧ ky c 0 ≤ k.2 := by
  obtain ⟨i, hi, rfl⟩ := List.getElem_of_mem hk
  by_cases e : i = 0
  · subst e; rw [kx_of c hi, ky_of c hi]; exact ⟨Int.le_refl _, Int.le_refl _⟩
  · have := cur_up h (i := 0) (j := i) (by omega) hi
    rw [kx_of c hi, ky_of c hi] at this
    omega
theorem curAt_tot' {c : List Kn} (h : curB c = true) {x : Int} (h1 : ∃ a ∈ c, a.1 ≤ x) (h2 : ∃ b ∈ c, x ≤ b.1) : ∃ f, curAt c x = some f := by
  obtain ⟨a, ha, ha1⟩ := h1
  have hl := cur_len h
  have h0 := (mem_ge_first h ha).1
  rw [curAt_cur h]
  unfold atF
  rw [if_neg (by omega)]
  refine atR_tot (cur_Up h) (cur_Bnd h) hl.1 (fun a' r e => ?_) h2
  subst e
  rw [kx_cons] at h0
  omega
theorem curAt_tot {c : List Kn} (h : curB c = true) {x : Int} (h1 : kx c 0 ≤ x) (h2 : x ≤ kx c (c.length - 1)) : ∃ f, curAt c x = some f := by
  have hl := cur_len h
  exact curAt_tot' h ⟨_, kx_mem (i := 0) (by omega), h1⟩ ⟨_, kx_mem (i := c.length - 1) (by omega), h2⟩
theorem on_range {c : List Kn} (h : curB c = true) {x y : Rat} (hx : OnL c x y) : ((kx c 0 : Rat) ≤ x ∧ x ≤ (kx c (c.length - 1) : Rat)) ∧ ((ky c 0 : Rat) ≤ y ∧ y ≤ (ky c (c.length - 1) : Rat)) := by
  obtain ⟨k, hk, h1, h2⟩ := onL_hi (cur_Up h) hx
  have h3 := mem_le_last h hk
  have h4 : (k.1 : Rat) ≤ (kx c (c.length - 1) : Rat) := by exact_mod_cast h3.1
  have h5 : (k.2 : Rat) ≤ (ky c (c.length - 1) : Rat) := by exact_mod_cast h3.2
  have hu := cur_Up h
  cases c with
  | nil => exact hx.elim
  | cons a r =>
    have h6 := onL_lo hu hx
    exact ⟨⟨h6.1, by grind⟩, ⟨h6.2, by grind⟩⟩
theorem curAt_in {c : List Kn} {x : Int} {f : Int × Int} (h : curAt c x = some f) : kx c 0 ≤ x ∧ x ≤ kx c (c.length - 1) := by
  obtain ⟨h1, h2, _⟩ := curAt_q h
  have := (on_range h1 h2).1
  exact ⟨by exact_mod_cast this.1, by exact_mod_cast this.2⟩
theorem curAt_out {c : List Kn} {x : Int} (h : x < kx c 0 ∨ kx c (c.length - 1) < x) : curAt c x = none := by
  cases e : curAt c x with
  | none => rfl
  | some f => have := curAt_in e; omega
theorem curAt_knot {c : List Kn} (h : curB c = true) {k : Kn} (hk : k ∈ c) : curAt c k.1 = some (k.2, 1) := by
  have hb := cur_Bnd h k hk
  refine curAt_mk h ?_ (vB_int (by omega))
  rw [qv_one]
  exact onL_knot (cur_Up h) (cur_len h).1 hk
theorem at_rises {c : List Kn} {x x' : Int} (hx : x < x') {f g : Int × Int} (hf : curAt c x = some f) (hg : curAt c x' = some g) : ltF f g = true := by
  obtain ⟨h1, h2, h3⟩ := curAt_q hf
  obtain ⟨_, g2, g3⟩ := curAt_q hg
  rw [ltF_q h3 g3]
  exact onL_lt (cur_Up h1) h2 g2 (by exact_mod_cast hx)
theorem at_ends {c : List Kn} {x : Int} {f : Int × Int} (hf : curAt c x = some f) : ltF f (ky c 0, 1) = false ∧ ltF (ky c (c.length - 1), 1) f = false ∧ 0 ≤ f.1 := by
  obtain ⟨h1, h2, h3⟩ := curAt_q hf
  have hr := (on_range h1 h2).2
  refine ⟨ltF_not fun _ _ => ?_, ltF_not fun _ _ => ?_, ?_⟩
  · rw [qv_one]; exact hr.1
  · rw [qv_one]; exact hr.2
  · rw [← qv_nn (vB_pos h3)]
    have hl := cur_len h1
    have : 0 ≤ ky c 0 := (cur_bd h1 (i := 0) (by omega)).2.1
    have : (0 : Rat) ≤ (ky c 0 : Rat) := by exact_mod_cast this
    grind
/-! ## Doubled -/
def dblL (c : List Kn) : List Kn := c.map fun k => (k.1, 2 * k.2)
theorem onL_dbl : ∀ {c : List Kn} {x y : Rat}, OnL c x y → OnL (dblL c) x (2 * y)
  | [], _, _, h => h.elim
  | [a], _, _, h => h.elim
  | a :: b :: r, x, y, h => by
    rcases h with h | h
    · refine .inl ⟨h.1, h.2.1, ?_⟩
      rw [h.2.2]
      have e1 : ((2 * a.2 : Int) : Rat) = 2 * (a.2 : Rat) := by norm_cast
      have e2 : ((2 * b.2 : Int) : Rat) = 2 * (b.2 : Rat) := by norm_cast
      dsimp only
      rw [e1, e2]
      have e3 : ((2 * (b.2 : Rat)) - 2 * a.2) / ((b.1 : Rat) - a.1) = 2 * (((b.2 : Rat) - a.2) / ((b.1 : Rat) - a.1)) := by
        rw [Rat.div_def, Rat.div_def]; grind
      rw [e3]; grind
    · exact .inr (onL_dbl (c := b :: r) h)
theorem at_double {c : List Kn} {x : Int} {f g : Int × Int} (hf : curAt c x = some f) (hg : curAt (dblL c) x = some g) : mulF f (2, 1) = some g := by
  obtain ⟨h1, h2, h3⟩ := curAt_q hf
  obtain ⟨g1, g2, g3⟩ := curAt_q hg
  refine mulF_mk h3 (vB_int (by omega)) g3 ?_
  have := onL_fn (cur_Up g1) g2 (onL_dbl h2)
  rw [this, qv_one]
  have : ((2 : Int) : Rat) = 2 := by norm_cast
  rw [this]; grind
/-! ## Along a part -/
theorem at_part {c : List Kn} {x : Int} {f : Int × Int} (hf : curAt c x = some f) {i : Nat} (hi : i + 1 < c.length) (h1 : kx c i ≤ x) (h2 : x ≤ kx c (i + 1)) :
    ∃ s d, slF c i = some s ∧ mulF s (x - kx c i, 1) = some d ∧ addF (ky c i, 1) d = some f := by
  obtain ⟨hc, hf2, hf3⟩ := curAt_q hf
  obtain ⟨s, s1, s2, s3, s4, s5, s6⟩ := sl_tot hc hi
  have b1 := cur_bd hc (i := i) (by omega)
  have b2 := cur_bd hc hi
  have hs2 := vB_pos s2
  have hab := cur_lt2 hc (show i < i + 1 by omega) hi
  have p1 : 0 ≤ s.1 * (x - kx c i) := Int.mul_nonneg (by omega) (by omega)
  have p2 : s.1 * (x - kx c i) ≤ 30000 * 30000 := Int.mul_le_mul s6 (by omega) (by omega) (by omega)
  have hm : mulF s (x - kx c i, 1) = ofF (s.1 * (x - kx c i)) (s.2 * 1) := by
    unfold mulF
    rw [if_pos ⟨s2, vB_int (by omega)⟩]
  obtain ⟨d, hd, _⟩ := ofF_tot (a := s.1 * (x - kx c i)) (b := s.2 * 1) (by omega) (by omega) (by omega)
  rw [← hm] at hd
  refine ⟨s, d, s1, hd, ?_⟩
  obtain ⟨_, _, d3, d4⟩ := mulF_q hd
  refine addF_mk (vB_int (by omega)) d3 hf3 ?_
  have hS : OnS (c.getD i (0, 0)) (c.getD (i + 1) (0, 0)) x ((ky c i : Rat) + ((x : Rat) - kx c i) * (((ky c (i + 1) : Rat) - ky c i) / ((kx c (i + 1) : Rat) - kx c i))) :=
    ⟨by exact_mod_cast h1, by exact_mod_cast h2, rfl⟩
  have e := onL_fn (cur_Up hc) hf2 (onL_at hi hS)
  rw [e, d4, s3, qv_one, qv_one]
  have : ((x - kx c i : Int) : Rat) = (x : Rat) - kx c i := by norm_cast
  rw [this]; grind
/-! ## The reference's way -/
theorem spec_part {a b : Kn} (hab : Lt2 a b) (ba : (0 ≤ a.1 ∧ a.1 ≤ 30000) ∧ (0 ≤ a.2 ∧ a.2 ≤ 30000)) (bb : (0 ≤ b.1 ∧ b.1 ≤ 30000) ∧ (0 ≤ b.2 ∧ b.2 ≤ 30000)) {n d : Int} (hv : vB n d = true) (h1 : a.1 * d ≤ n) (h2 : n ≤ b.1 * d) :
    ∃ s u, ofF (b.2 - a.2) (b.1 - a.1) = some s ∧ subF (n, d) (a.1, 1) = some u ∧ (mulF u s = none → ofF (a.2 * (b.1 - a.1) * d + (n - a.1 * d) * (b.2 - a.2)) ((b.1 - a.1) * d) = none) ∧
      ∀ e, mulF u s = some e → addF (a.2, 1) e = ofF (a.2 * (b.1 - a.1) * d + (n - a.1 * d) * (b.2 - a.2)) ((b.1 - a.1) * d) := by
  obtain ⟨s, s1, s2, s3, _⟩ := rise_tot hab ba bb
  have hd0 : 0 < d := vB_pos (f := (n, d)) hv
  have hb := vB_bd hv
  have hu : subF (n, d) (a.1, 1) = some (n - a.1 * d, d) := by
    refine subF_mk hv (vB_int (by omega)) (vB_shift hv (by omega) h1) ?_
    rw [qv_shift hd0, qv_one]
  obtain ⟨_, _, _, q4, q5, q6⟩ := seg_bd hab ba bb hb.1 h1 h2
  have hV := seg_val hab hd0 (n := n)
  have hu' : qv (n - a.1 * d, d) = (n : Rat) / (d : Rat) - a.1 := qv_shift hd0
  have vu := vB_shift hv ba.1.1 h1
  refine ⟨s, _, s1, hu, fun hm => ?_, fun e he => ?_⟩
  · cases hf : ofF (a.2 * (b.1 - a.1) * d + (n - a.1 * d) * (b.2 - a.2)) ((b.1 - a.1) * d) with
    | none => rfl
    | some f =>
      obtain ⟨_, f2, f3⟩ := ofF_q hf
      rw [hV] at f3
      have hf0 := vB_pos f2
      have hge : a.2 * f.2 ≤ f.1 := by
        refine (q_le hf0).1 ?_
        show (a.2 : Rat) ≤ qv f
        rw [f3]
        have := slo_pos hab
        have h3 : (a.1 : Rat) ≤ (n : Rat) / (d : Rat) := (q_le hd0).2 h1
        have : 0 ≤ ((n : Rat) / (d : Rat) - a.1) * (((b.2 : Rat) - a.2) / ((b.1 : Rat) - a.1)) := qmul_nn (by grind) (by grind)
        grind
      have : mulF (n - a.1 * d, d) s = some (f.1 - a.2 * f.2, f.2) := by
        refine mulF_mk vu s2 (vB_shift f2 ba.2.1 hge) ?_
        rw [qv_shift hf0, hu', s3]
        have : qv (f.1, f.2) = qv f := rfl
        rw [this, f3]; grind
      rw [hm] at this; cases this
  · obtain ⟨_, _, e3, e4⟩ := mulF_q he
    apply fr_ext
    intro f
    constructor
    · intro h
      obtain ⟨_, _, h3, h4⟩ := addF_q h
      refine ofF_mk (by omega) ⟨by omega, by omega⟩ ⟨by omega, by omega⟩ h3 ?_
      rw [hV, h4, e4, hu', s3, qv_one]
    · intro h
      obtain ⟨_, h2, h3⟩ := ofF_q h
      refine addF_mk (vB_int (by omega)) e3 h2 ?_
      rw [h3, hV, e4, hu', s3, qv_one]
/-! ## One curve behind another -/
def curThen (a b : List Kn) (x : Int) : Fr := match curAt a x with
  | some y => if curB b = true then atF b y.1 y.2 else none
  | none => none
theorem then_q {a b : List Kn} {x : Int} {f : Int × Int} (h : curThen a b x = some f) : ∃ y, curAt a x = some y ∧ curB a = true ∧ curB b = true ∧ OnL a x (qv y) ∧ vB y.1 y.2 = true ∧ OnL b (qv y) (qv f) ∧ vB f.1 f.2 = true := by
  unfold curThen at h
  split at h
  · rename_i y hy
    split at h
    · rename_i hb
      obtain ⟨h1, h2, h3⟩ := curAt_q hy
      have := at_q hb (vB_pos h3) h
      exact ⟨y, hy, h1, hb, h2, h3, this.1, this.2⟩
    · cases h
  · cases h
theorem then_mk {a b : List Kn} (ha : curB a = true) (hb : curB b = true) {x : Int} {y f : Int × Int} (h1 : OnL a x (qv y)) (h2 : vB y.1 y.2 = true) (h3 : OnL b (qv y) (qv f)) (h4 : vB f.1 f.2 = true) : curThen a b x = some f := by
  unfold curThen
  rw [curAt_mk ha h1 h2]
  show (if curB b = true then atF b y.1 y.2 else none) = some f
  rw [if_pos hb]
  exact at_mk hb (vB_bd h2).1 h3 h4
theorem then_whole {a b : List Kn} {x : Int} {y f : Int × Int} (h : curThen a b x = some f) (hy : curAt a x = some y) (h1 : y.2 = 1) : curAt b y.1 = some f := by
  unfold curThen at h
  rw [hy] at h
  dsimp only at h
  split at h
  · rename_i hb
    rw [curAt_cur hb, ← h1]; exact h
  · cases h
theorem then_rises {a b : List Kn} {x x' : Int} (hx : x < x') {f g : Int × Int} (hf : curThen a b x = some f) (hg : curThen a b x' = some g) : ltF f g = true := by
  obtain ⟨y, _, h1, h2, h3, h4, h5, h6⟩ := then_q hf
  obtain ⟨z, _, _, _, g3, g4, g5, g6⟩ := then_q hg
  rw [ltF_q h6 g6]
  exact onL_lt (cur_Up h2) h5 g5 (onL_lt (cur_Up h1) h3 g3 (by exact_mod_cast hx))
theorem then_first {a b : List Kn} {x : Int} {f : Int × Int} (hf : curThen a b x = some f) : ltF f (ky b 0, 1) = false := by
  obtain ⟨y, _, h1, h2, h3, h4, h5, h6⟩ := then_q hf
  refine ltF_not fun _ _ => ?_
  rw [qv_one]
  exact (on_range h2 h5).2.1
def lineC : List Kn := [(0, 0), (30000, 30000)]
theorem lineC_cur : curB lineC = true := by decide
theorem lineC_on {x : Rat} (h1 : ((0 : Int) : Rat) ≤ x) (h2 : x ≤ ((30000 : Int) : Rat)) : OnL lineC x x := by
  refine .inl ⟨h1, h2, ?_⟩
  dsimp only
  have e0 : ((0 : Int) : Rat) = 0 := by norm_cast
  have e1 : ((0 : Int) : Rat) < ((30000 : Int) : Rat) := Rat.intCast_lt_intCast.2 (by decide)
  generalize ((30000 : Int) : Rat) = u at *
  rw [e0] at *
  have : u - 0 ≠ 0 := by grind
  grind
theorem then_line {a : List Kn} {x : Int} {y : Int × Int} (h : curAt a x = some y) : curThen a lineC x = some y := by
  obtain ⟨h1, h2, h3⟩ := curAt_q h
  have hl := cur_len h1
  have hr := (on_range h1 h2).2
  have b0 := (cur_bd h1 (i := 0) (by omega)).2.1
  have b1 := (cur_bd h1 (i := a.length - 1) (by omega)).2.2
  have b0' : ((0 : Int) : Rat) ≤ (ky a 0 : Rat) := Rat.intCast_le_intCast.2 b0
  have b1' : (ky a (a.length - 1) : Rat) ≤ ((30000 : Int) : Rat) := Rat.intCast_le_intCast.2 b1
  exact then_mk h1 lineC_cur h2 h3 (lineC_on (Rat.le_trans b0' hr.1) (Rat.le_trans hr.2 b1')) h3
theorem line_then {b : List Kn} (h : curB b = true) {k : Kn} (hk : k ∈ b) : curThen lineC b k.1 = some (k.2, 1) := by
  have hb := cur_Bnd h k hk
  have h1 : ((0 : Int) : Rat) ≤ (k.1 : Rat) := Rat.intCast_le_intCast.2 hb.1.1
  have h2 : (k.1 : Rat) ≤ ((30000 : Int) : Rat) := Rat.intCast_le_intCast.2 hb.1.2
  refine then_mk lineC_cur h (y := (k.1, 1)) (f := (k.2, 1)) (by rw [qv_one]; exact lineC_on h1 h2) (vB_int (by omega)) ?_ (vB_int (by omega))
  rw [qv_one, qv_one]
  exact onL_knot (cur_Up h) (cur_len h).1 hk
theorem then_back {a b : List Kn} {x : Int} {f g : Int × Int} (hf : curThen a b x = some f) (h1 : f.2 = 1) (hg : curThen (turnL b) (turnL a) f.1 = some g) : g = (x, 1) := by
  obtain ⟨y, _, ha, hb, h3, h4, h5, h6⟩ := then_q hf
  obtain ⟨z, _, _, _, g3, g4, g5, g6⟩ := then_q hg
  have e : (f.1 : Rat) = qv f := by
    have : f = (f.1, 1) := by rw [← h1]
    rw [this, qv_one]
  rw [e] at g3
  have k1 := onL_turn' (cur_Up hb) g3
  have e2 := onL_inj (cur_Up hb) k1 h5
  rw [e2] at g5
  have k2 := onL_turn' (cur_Up ha) g5
  have e3 := onL_inj (cur_Up ha) k2 h3
  have hl := cur_len ha
  have hr := (on_range ha h3).1
  have b0 := (cur_bd ha (i := 0) (by omega)).1.1
  have b1 := (cur_bd ha (i := a.length - 1) (by omega)).1.2
  have r1 : kx a 0 ≤ x := by exact_mod_cast hr.1
  have r2 : x ≤ kx a (a.length - 1) := by exact_mod_cast hr.2
  refine qv_inj g6 (vB_int (by omega)) ?_
  rw [e3]
  exact (qv_one x).symm
theorem then_turn {c : List Kn} (h : curB c = true) {x : Int} (h1 : kx c 0 ≤ x) (h2 : x ≤ kx c (c.length - 1)) : curThen c (turnL c) x = some (x, 1) := by
  obtain ⟨y, hy⟩ := curAt_tot h h1 h2
  obtain ⟨_, g2, g3⟩ := curAt_q hy
  have hl := cur_len h
  have b0 := (cur_bd h (i := 0) (by omega)).1.1
  have b1 := (cur_bd h (i := c.length - 1) (by omega)).1.2
  refine then_mk h (turn_cur h) g2 g3 (f := (x, 1)) ?_ (vB_int (by omega))
  rw [qv_one]
  exact onL_turn (cur_Up h) g2
theorem then_out {a b : List Kn} {x : Int} (h : x < kx a 0 ∨ kx a (a.length - 1) < x) : curThen a b x = none := by
  unfold curThen
  rw [curAt_out h]
/-! ## Lean curves, a knot more -/
theorem lean_at {c : List Kn} (h : curB c = true) (x : Int) : curAt (leanF c) x = curAt c x := by
  have hl := leanF_cur h
  apply fr_ext
  intro f
  constructor
  · intro hf
    obtain ⟨_, h2, h3⟩ := curAt_q hf
    exact curAt_mk h ((leanF_on h).1 h2) h3
  · intro hf
    obtain ⟨_, h2, h3⟩ := curAt_q hf
    exact curAt_mk hl ((leanF_on h).2 h2) h3
theorem add_at {c : List Kn} {k : Kn} (h : addO c k = true) : curAt (addK c k) k.1 = some (k.2, 1) := by
  obtain ⟨h1, h2⟩ := addO_iff.1 h
  rw [addL_eq h]
  exact curAt_knot h2 (by simp [insK])
theorem ins_mem {c : List Kn} {k z : Kn} (h : z ∈ c) : z ∈ insK c k := by
  unfold insK
  rw [← List.take_append_drop (insI c k) c] at h
  rcases List.mem_append.1 h with h | h
  · exact List.mem_append.2 (.inl h)
  · exact List.mem_append.2 (.inr (List.mem_cons_of_mem _ h))
theorem add_tot {c : List Kn} {k : Kn} (h : addO c k = true) {x : Int} (h1 : kx c 0 ≤ x) (h2 : x ≤ kx c (c.length - 1)) : ∃ f, curAt (addK c k) x = some f := by
  obtain ⟨p1, p2⟩ := addO_iff.1 h
  have hl := cur_len p1
  rw [addL_eq h]
  exact curAt_tot' p2 ⟨_, ins_mem (kx_mem (i := 0) (by omega)), h1⟩ ⟨_, ins_mem (kx_mem (i := c.length - 1) (by omega)), h2⟩
theorem add_same {c : List Kn} {k : Kn} (h : addO c k = true) (hk : curAt c k.1 = some (k.2, 1)) {x : Int} {f : Int × Int} (hf : curAt c x = some f) : curAt (addK c k) x = some f := by
  obtain ⟨p1, p2⟩ := addO_iff.1 h
  obtain ⟨_, k2, _⟩ := curAt_q hk
  obtain ⟨_, f2, f3⟩ := curAt_q hf
  rw [qv_one] at k2
  rw [addL_eq h]
  exact curAt_mk p2 (ins_on h k2 f2) f3
end Go.Proofs.Ytidcomcnieggaaa
