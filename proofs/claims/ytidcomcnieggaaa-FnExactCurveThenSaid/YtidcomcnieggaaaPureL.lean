/-
  Plain: curves as relations of two rational numbers; what a curve gives at a fraction.
-/
import Derived.Test.YtidcomcnieggaaaPureK
import Derived.Test.YtidcomcnieggaaaPureQ
namespace Go.Proofs.Ytidcomcnieggaaa
set_option linter.unusedVariables false

/-! ## Rising lists -/
def Lt2 (a b : Kn) : Prop := a.1 < b.1 ∧ a.2 < b.2
def Ris (c : List Kn) : Prop := c.Pairwise Lt2
def Bnd (c : List Kn) : Prop := ∀ k ∈ c, (0 ≤ k.1 ∧ k.1 ≤ 30000) ∧ (0 ≤ k.2 ∧ k.2 ≤ 30000)
theorem getD_of_lt (c : List Kn) {i : Nat} (h : i < c.length) : c.getD i (0, 0) = c[i] := by simp [List.getD_eq_getElem?_getD, List.getElem?_eq_getElem h]
theorem kx_of (c : List Kn) {i : Nat} (h : i < c.length) : kx c i = c[i].1 := by unfold kx; rw [getD_of_lt c h]
theorem ky_of (c : List Kn) {i : Nat} (h : i < c.length) : ky c i = c[i].2 := by unfold ky; rw [getD_of_lt c h]
theorem getD_mem (c : List Kn) {i : Nat} (h : i < c.length) : c.getD i (0, 0) ∈ c := by rw [getD_of_lt c h]; exact List.getElem_mem h
theorem cur_Up {c : List Kn} (h : curB c = true) : Ris c := by
  unfold Ris
  rw [List.pairwise_iff_getElem]
  intro i j hi hj hij
  have := cur_up h hij hj
  rw [kx_of c hi, kx_of c hj, ky_of c hi, ky_of c hj] at this
  exact this
theorem cur_Bnd {c : List Kn} (h : curB c = true) : Bnd c := by
  intro k hk
  obtain ⟨i, hi, rfl⟩ := List.getElem_of_mem hk
  have := cur_bd h hi
  rw [kx_of c hi, ky_of c hi] at this
  exact this
theorem cur_of {c : List Kn} (h1 : Ris c) (h2 : Bnd c) (h3 : 2 ≤ c.length) (h4 : c.length ≤ 12) : curB c = true := by
  rw [curB_iff]
  refine ⟨fun i hi => ⟨?_, fun h0 => ?_⟩, h3, h4⟩
  · have := h2 _ (List.getElem_mem hi)
    rw [kx_of c hi, ky_of c hi]; exact this
  · have hi' : i - 1 < c.length := by omega
    rw [kx_of c hi, ky_of c hi, kx_of c hi', ky_of c hi']
    exact (List.pairwise_iff_getElem.1 h1) (i - 1) i hi' hi (by omega)
theorem curB_iff' {c : List Kn} : curB c = true ↔ Ris c ∧ Bnd c ∧ 2 ≤ c.length ∧ c.length ≤ 12 :=
  ⟨fun h => ⟨cur_Up h, cur_Bnd h, cur_len h⟩, fun h => cur_of h.1 h.2.1 h.2.2.1 h.2.2.2⟩

/-! ## Points of a curve -/
def OnS (a b : Kn) (x y : Rat) : Prop := (a.1 : Rat) ≤ x ∧ x ≤ (b.1 : Rat) ∧ y = (a.2 : Rat) + (x - a.1) * (((b.2 : Rat) - a.2) / ((b.1 : Rat) - a.1))
def OnL : List Kn → Rat → Rat → Prop
  | a :: b :: r, x, y => OnS a b x y ∨ OnL (b :: r) x y
  | _, _, _ => False
theorem lt2_q {a b : Kn} (h : Lt2 a b) : (0 : Rat) < (b.1 : Rat) - a.1 ∧ (0 : Rat) < (b.2 : Rat) - a.2 := by
  have h1 : (a.1 : Rat) < b.1 := by exact_mod_cast h.1
  have h2 : (a.2 : Rat) < b.2 := by exact_mod_cast h.2
  constructor <;> grind
theorem slo_pos {a b : Kn} (h : Lt2 a b) : (0 : Rat) < ((b.2 : Rat) - a.2) / ((b.1 : Rat) - a.1) := by
  obtain ⟨h1, h2⟩ := lt2_q h
  rw [Rat.div_def]
  exact Rat.mul_pos h2 (Rat.inv_pos.2 h1)
theorem slo_mul {a b : Kn} (h : Lt2 a b) : ((b.1 : Rat) - a.1) * (((b.2 : Rat) - a.2) / ((b.1 : Rat) - a.1)) = (b.2 : Rat) - a.2 := by
  obtain ⟨h1, h2⟩ := lt2_q h
  have : ((b.1 : Rat) - a.1) ≠ 0 := by grind
  grind
theorem qmul_nn {a b : Rat} (ha : 0 ≤ a) (hb : 0 ≤ b) : 0 ≤ a * b := Rat.mul_nonneg ha hb
/-- a part rises -/
theorem onS_lt {a b : Kn} (h : Lt2 a b) {x y x' y' : Rat} (h1 : OnS a b x y) (h2 : OnS a b x' y') (hx : x < x') : y < y' := by
  obtain ⟨_, _, e1⟩ := h1
  obtain ⟨_, _, e2⟩ := h2
  have hs := slo_pos h
  generalize ((b.2 : Rat) - a.2) / ((b.1 : Rat) - a.1) = s at *
  have : 0 < (x' - x) * s := Rat.mul_pos (by grind) hs
  grind
theorem onS_bd {a b : Kn} (h : Lt2 a b) {x y : Rat} (h1 : OnS a b x y) : (a.2 : Rat) ≤ y ∧ y ≤ (b.2 : Rat) := by
  obtain ⟨e1, e2, e3⟩ := h1
  have hs := slo_pos h
  have hm := slo_mul h
  generalize ((b.2 : Rat) - a.2) / ((b.1 : Rat) - a.1) = s at *
  have h1 : 0 ≤ (x - a.1) * s := qmul_nn (by grind) (by grind)
  have h2 : 0 ≤ ((b.1 : Rat) - x) * s := qmul_nn (by grind) (by grind)
  constructor <;> grind
theorem onS_a {a b : Kn} (h : Lt2 a b) : OnS a b a.1 a.2 := by
  have := lt2_q h
  refine ⟨by grind, by grind, by grind⟩
theorem onS_b {a b : Kn} (h : Lt2 a b) : OnS a b b.1 b.2 := by
  have := lt2_q h
  have := slo_mul h
  refine ⟨by grind, by grind, by grind⟩
theorem onS_fn {a b : Kn} {x y y' : Rat} (h1 : OnS a b x y) (h2 : OnS a b x y') : y = y' := by rw [h1.2.2, h2.2.2]
/-- where a curve lies -/
theorem onL_lo : ∀ {a : Kn} {r : List Kn}, Ris (a :: r) → ∀ {x y : Rat}, OnL (a :: r) x y → (a.1 : Rat) ≤ x ∧ (a.2 : Rat) ≤ y
  | a, [], _, x, y, h => h.elim
  | a, b :: r, hu, x, y, h => by
    have hu' := List.pairwise_cons.1 hu
    have hab := hu'.1 b (by simp)
    rcases h with h | h
    · exact ⟨h.1, (onS_bd hab h).1⟩
    · have := onL_lo hu'.2 h
      have := lt2_q hab
      constructor <;> grind
theorem onL_hi : ∀ {c : List Kn}, Ris c → ∀ {x y : Rat}, OnL c x y → ∃ k ∈ c, x ≤ (k.1 : Rat) ∧ y ≤ (k.2 : Rat)
  | [], _, x, y, h => h.elim
  | [a], _, x, y, h => h.elim
  | a :: b :: r, hu, x, y, h => by
    have hu' := List.pairwise_cons.1 hu
    have hab := hu'.1 b (by simp)
    rcases h with h | h
    · exact ⟨b, by simp, h.2.1, (onS_bd hab h).2⟩
    · obtain ⟨k, hk, h1⟩ := onL_hi hu'.2 h
      exact ⟨k, List.mem_cons_of_mem _ hk, h1⟩
/-- at its first knot -/
theorem onL_head {a : Kn} {r : List Kn} (hu : Ris (a :: r)) {y : Rat} (h : OnL (a :: r) a.1 y) : y = a.2 := by
  cases r with
  | nil => exact h.elim
  | cons b r =>
    have hu' := List.pairwise_cons.1 hu
    have hab := hu'.1 b (by simp)
    rcases h with h | h
    · exact onS_fn h (onS_a hab)
    · have := onL_lo hu'.2 h
      have := lt2_q hab
      grind
/-- a curve rises -/
theorem onL_lt : ∀ {c : List Kn}, Ris c → ∀ {x y x' y' : Rat}, OnL c x y → OnL c x' y' → x < x' → y < y'
  | [], _, x, y, _, _, h, _, _ => h.elim
  | [a], _, x, y, _, _, h, _, _ => h.elim
  | a :: b :: r, hu, x, y, x', y', h, h', hx => by
    have hu' := List.pairwise_cons.1 hu
    have hab := hu'.1 b (by simp)
    rcases h with h | h
    · rcases h' with h' | h'
      · exact onS_lt hab h h' hx
      · have h1 := onS_bd hab h
        have h2 := onL_lo hu'.2 h'
        by_cases e : x < (b.1 : Rat)
        · have := onS_lt hab h (onS_b hab) e
          grind
        · have e : x = b.1 := by have := h.2.1; grind
          subst e
          have e2 : y = b.2 := onS_fn h (onS_b hab)
          cases r with
          | nil => exact h'.elim
          | cons d r =>
            have hbd := (List.pairwise_cons.1 hu'.2).1 d (by simp)
            have := onL_lt hu'.2 (c := b :: d :: r) (x := b.1) (y := b.2) (.inl (onS_a hbd)) h' hx
            grind
    · rcases h' with h' | h'
      · have := (onL_lo hu'.2 h).1
        have := h'.2.1
        grind
      · exact onL_lt hu'.2 h h' hx
theorem onL_fn : ∀ {c : List Kn}, Ris c → ∀ {x y y' : Rat}, OnL c x y → OnL c x y' → y = y'
  | [], _, x, y, _, h, _ => h.elim
  | [a], _, x, y, _, h, _ => h.elim
  | a :: b :: r, hu, x, y, y', h, h' => by
    have hu' := List.pairwise_cons.1 hu
    have hab := hu'.1 b (by simp)
    have key : ∀ {y y' : Rat}, OnS a b x y → OnL (b :: r) x y' → y = y' := by
      intro y y' h h'
      have h1 := (onL_lo hu'.2 h').1
      have e : x = b.1 := by have := h.2.1; grind
      subst e
      rw [onL_head hu'.2 h']
      exact onS_fn h (onS_b hab)
    rcases h with h | h <;> rcases h' with h' | h'
    · exact onS_fn h h'
    · exact key h h'
    · exact (key h' h).symm
    · exact onL_fn hu'.2 h h'
theorem onL_inj {c : List Kn} (hu : Ris c) {x x' y : Rat} (h : OnL c x y) (h' : OnL c x' y) : x = x' := by
  by_cases e : x < x'
  · have := onL_lt hu h h' e; grind
  · by_cases e2 : x' < x
    · have := onL_lt hu h' h e2; grind
    · grind
theorem onL_le {c : List Kn} (hu : Ris c) {x x' y y' : Rat} (h : OnL c x y) (h' : OnL c x' y') (hx : x ≤ x') : y ≤ y' := by
  by_cases e : x < x'
  · have := onL_lt hu h h' e; grind
  · have e : x = x' := by grind
    subst e; have := onL_fn hu h h'; grind
/-- its knots -/
theorem onL_knot : ∀ {c : List Kn}, Ris c → 2 ≤ c.length → ∀ {k : Kn}, k ∈ c → OnL c k.1 k.2
  | [], _, h, _, _ => by simp at h
  | [a], _, h, _, _ => by simp at h
  | a :: b :: r, hu, _, k, hk => by
    have hu' := List.pairwise_cons.1 hu
    have hab := hu'.1 b (by simp)
    rcases List.mem_cons.1 hk with rfl | hk
    · exact .inl (onS_a hab)
    · cases r with
      | nil =>
        obtain rfl : k = b := by simpa using hk
        exact .inl (onS_b hab)
      | cons d r => exact .inr (onL_knot hu'.2 (by simp) hk)
theorem onL_ex : ∀ {c : List Kn}, Ris c → 2 ≤ c.length → ∀ {x : Rat}, (∃ a ∈ c, (a.1 : Rat) ≤ x) → (∃ b ∈ c, x ≤ (b.1 : Rat)) → ∃ y, OnL c x y
  | [], _, h, _, _, _ => by simp at h
  | [a], _, h, _, _, _ => by simp at h
  | a :: b :: r, hu, _, x, ⟨k, hk, h1⟩, ⟨m, hm, h2⟩ => by
    have hu' := List.pairwise_cons.1 hu
    have hab := hu'.1 b (by simp)
    have hax : (a.1 : Rat) ≤ x := by
      rcases List.mem_cons.1 hk with rfl | hk
      · exact h1
      · have := lt2_q (hu'.1 k hk); grind
    by_cases e : x ≤ (b.1 : Rat)
    · exact ⟨_, .inl ⟨hax, e, rfl⟩⟩
    · have hm' : m ∈ b :: r := by
        rcases List.mem_cons.1 hm with rfl | hm
        · have := lt2_q hab; grind
        · exact hm
      cases r with
      | nil =>
        obtain rfl : m = b := by simpa using hm'
        exact absurd h2 e
      | cons d r =>
        obtain ⟨y, hy⟩ := onL_ex hu'.2 (by simp) (x := x) ⟨b, by simp, by grind⟩ ⟨m, hm', h2⟩
        exact ⟨y, .inr hy⟩
/-- a part by its index -/
theorem onL_at : ∀ {c : List Kn} {i : Nat}, i + 1 < c.length → ∀ {x y : Rat}, OnS (c.getD i (0, 0)) (c.getD (i + 1) (0, 0)) x y → OnL c x y
  | [], i, h, _, _, _ => by simp at h
  | [a], i, h, _, _, _ => by simp at h
  | a :: b :: r, 0, _, x, y, h => .inl h
  | a :: b :: r, i + 1, hi, x, y, h => .inr (onL_at (c := b :: r) (i := i) (by simpa using hi) h)
/-! ## Turned curves -/
theorem lt2_sw {a b : Kn} (h : Lt2 a b) : Lt2 (a.2, a.1) (b.2, b.1) := ⟨h.2, h.1⟩
theorem up_turn {c : List Kn} (h : Ris c) : Ris (turnL c) := by
  unfold Ris turnL
  rw [List.pairwise_map]
  exact h.imp fun h => lt2_sw h
theorem onS_turn {a b : Kn} (h : Lt2 a b) {x y : Rat} (h1 : OnS a b x y) : OnS (a.2, a.1) (b.2, b.1) y x := by
  have h2 := onS_bd h h1
  obtain ⟨u, v⟩ := lt2_q h
  obtain ⟨e1, e2, e3⟩ := h1
  refine ⟨h2.1, h2.2, ?_⟩
  have u' : ((b.1 : Rat) - a.1) ≠ 0 := by grind
  have v' : ((b.2 : Rat) - a.2) ≠ 0 := by grind
  dsimp only
  rw [e3]
  grind
theorem onL_turn : ∀ {c : List Kn}, Ris c → ∀ {x y : Rat}, OnL c x y → OnL (turnL c) y x
  | [], _, _, _, h => h.elim
  | [a], _, _, _, h => h.elim
  | a :: b :: r, hu, x, y, h => by
    have hu' := List.pairwise_cons.1 hu
    have hab := hu'.1 b (by simp)
    rcases h with h | h
    · exact .inl (onS_turn hab h)
    · exact .inr (onL_turn hu'.2 h)
theorem onL_turn' {c : List Kn} (hu : Ris c) {x y : Rat} (h : OnL (turnL c) y x) : OnL c x y := by
  have := onL_turn (up_turn hu) h
  rwa [turn_turn] at this
/-! ## A knot on a part -/
theorem onS_split {a k b : Kn} (h1 : Lt2 a k) (h2 : Lt2 k b) (hk : OnS a b k.1 k.2) {x y : Rat} : OnS a b x y ↔ OnS a k x y ∨ OnS k b x y := by
  obtain ⟨u1, v1⟩ := lt2_q h1
  obtain ⟨u2, v2⟩ := lt2_q h2
  have n1 : ((k.1 : Rat) - a.1) ≠ 0 := by grind
  have n2 : ((b.1 : Rat) - k.1) ≠ 0 := by grind
  have n3 : ((b.1 : Rat) - a.1) ≠ 0 := by grind
  obtain ⟨_, _, e⟩ := hk
  have s1 : ((k.2 : Rat) - a.2) / ((k.1 : Rat) - a.1) = ((b.2 : Rat) - a.2) / ((b.1 : Rat) - a.1) := by grind
  have s2 : ((b.2 : Rat) - k.2) / ((b.1 : Rat) - k.1) = ((b.2 : Rat) - a.2) / ((b.1 : Rat) - a.1) := by grind
  unfold OnS
  rw [s1, s2]
  generalize ((b.2 : Rat) - a.2) / ((b.1 : Rat) - a.1) = s at *
  constructor
  · rintro ⟨p1, p2, p3⟩
    by_cases q : x ≤ (k.1 : Rat)
    · exact .inl ⟨p1, q, p3⟩
    · exact .inr ⟨by grind, p2, by grind⟩
  · rintro (⟨p1, p2, p3⟩ | ⟨p1, p2, p3⟩)
    · exact ⟨p1, by grind, p3⟩
    · exact ⟨by grind, p2, by grind⟩
theorem lineB_iff {a k b : Kn} : lineB a k b = true ↔ (k.2 - a.2) * (b.1 - a.1) = (b.2 - a.2) * (k.1 - a.1) := by simp [lineB]
theorem line_on {a k b : Kn} (h1 : Lt2 a k) (h2 : Lt2 k b) (h : lineB a k b = true) : OnS a b k.1 k.2 := by
  rw [lineB_iff] at h
  obtain ⟨u1, v1⟩ := lt2_q h1
  obtain ⟨u2, v2⟩ := lt2_q h2
  have n3 : ((b.1 : Rat) - a.1) ≠ 0 := by grind
  have h' : ((k.2 : Rat) - a.2) * (b.1 - a.1) = (b.2 - a.2) * (k.1 - a.1) := by exact_mod_cast h
  exact ⟨by grind, by grind, by grind⟩
/-! ## What a curve gives at a fraction -/
def atR (n d : Int) : List Kn → Fr
  | a :: b :: r => if b.1 * d < n then atR n d (b :: r) else ofF (a.2 * (b.1 - a.1) * d + (n - a.1 * d) * (b.2 - a.2)) ((b.1 - a.1) * d)
  | _ => none
def atF (c : List Kn) (n d : Int) : Fr := if n < kx c 0 * d then none else atR n d c
theorem q_le {a n d : Int} (hd : 0 < d) : (a : Rat) ≤ (n : Rat) / (d : Rat) ↔ a * d ≤ n := by
  have hd' := q_pos hd
  have e : (n : Rat) / (d : Rat) < (a : Rat) ↔ (n : Rat) < (a : Rat) * d := Rat.div_lt_iff hd'
  have e2 : ((n : Rat) < (a : Rat) * d) ↔ n < a * d := by rw [← Rat.intCast_lt_intCast, Rat.intCast_mul]
  rw [← Rat.not_lt, e, e2]
  omega
theorem q_ge {a n d : Int} (hd : 0 < d) : (n : Rat) / (d : Rat) ≤ (a : Rat) ↔ n ≤ a * d := by
  have hd' := q_pos hd
  have e : (a : Rat) < (n : Rat) / (d : Rat) ↔ (a : Rat) * d < (n : Rat) := Rat.lt_div_iff hd'
  have e2 : ((a : Rat) * d < (n : Rat)) ↔ a * d < n := by rw [← Rat.intCast_lt_intCast, Rat.intCast_mul]
  rw [← Rat.not_lt, e, e2]
  omega
/-- the value that the formula of a part has -/
theorem seg_val {a b : Kn} (h : Lt2 a b) {n d : Int} (hd : 0 < d) : (((a.2 * (b.1 - a.1) * d + (n - a.1 * d) * (b.2 - a.2) : Int) : Rat)) / (((b.1 - a.1) * d : Int) : Rat) = (a.2 : Rat) + ((n : Rat) / (d : Rat) - a.1) * (((b.2 : Rat) - a.2) / ((b.1 : Rat) - a.1)) := by
  have hd' := q_pos hd
  obtain ⟨u, v⟩ := lt2_q h
  have e1 : ((a.2 * (b.1 - a.1) * d + (n - a.1 * d) * (b.2 - a.2) : Int) : Rat) = (a.2 : Rat) * (b.1 - a.1) * d + (n - a.1 * d) * (b.2 - a.2) := by norm_cast
  have e2 : (((b.1 - a.1) * d : Int) : Rat) = ((b.1 : Rat) - a.1) * d := by norm_cast
  rw [e1, e2]
  have n1 : (d : Rat) ≠ 0 := by grind
  have n2 : ((b.1 : Rat) - a.1) ≠ 0 := by grind
  grind
theorem atR_q : ∀ {c : List Kn}, Ris c → ∀ {n d : Int}, 0 < d → (∀ a r, c = a :: r → a.1 * d ≤ n) → ∀ {f : Int × Int}, atR n d c = some f → OnL c ((n : Rat) / (d : Rat)) (qv f) ∧ vB f.1 f.2 = true
  | [], _, _, _, _, _, _, h => by cases h
  | [a], _, _, _, _, _, _, h => by cases h
  | a :: b :: r, hu, n, d, hd, h0, f, h => by
    have hu' := List.pairwise_cons.1 hu
    have hab := hu'.1 b (by simp)
    have h0' := h0 a _ rfl
    unfold atR at h
    split at h
    · rename_i hlt
      have := atR_q hu'.2 hd (fun a' r' e => by injection e with e1 _; subst e1; omega) h
      exact ⟨.inr this.1, this.2⟩
    · rename_i hlt
      obtain ⟨_, h2, h3⟩ := ofF_q h
      rw [seg_val hab hd] at h3
      exact ⟨.inl ⟨(q_le hd).2 h0', (q_ge hd).2 (by omega), h3⟩, h2⟩
theorem seg_bd {a b : Kn} {n d : Int} (hab : Lt2 a b) (ba : (0 ≤ a.1 ∧ a.1 ≤ 30000) ∧ (0 ≤ a.2 ∧ a.2 ≤ 30000)) (bb : (0 ≤ b.1 ∧ b.1 ≤ 30000) ∧ (0 ≤ b.2 ∧ b.2 ≤ 30000)) (hd : 1 ≤ d ∧ d ≤ 1000000000) (h1 : a.1 * d ≤ n) (h2 : n ≤ b.1 * d) :
    (0 ≤ a.1 * d ∧ a.1 * d ≤ 30000000000000) ∧ (0 ≤ b.1 * d ∧ b.1 * d ≤ 30000000000000) ∧ (0 ≤ a.2 * (b.1 - a.1) ∧ a.2 * (b.1 - a.1) ≤ 900000000) ∧ (0 ≤ a.2 * (b.1 - a.1) * d ∧ a.2 * (b.1 - a.1) * d ≤ 900000000000000000) ∧
    (0 ≤ (n - a.1 * d) * (b.2 - a.2) ∧ (n - a.1 * d) * (b.2 - a.2) ≤ 900000000000000000) ∧ (0 < (b.1 - a.1) * d ∧ (b.1 - a.1) * d ≤ 30000000000000) := by
  obtain ⟨p1, p2⟩ := hab
  have e1 : 0 ≤ a.1 * d := Int.mul_nonneg (by omega) (by omega)
  have e2 : a.1 * d ≤ 30000 * 1000000000 := Int.mul_le_mul (by omega) (by omega) (by omega) (by omega)
  have e3 : 0 ≤ b.1 * d := Int.mul_nonneg (by omega) (by omega)
  have e4 : b.1 * d ≤ 30000 * 1000000000 := Int.mul_le_mul (by omega) (by omega) (by omega) (by omega)
  have e5 : 0 ≤ a.2 * (b.1 - a.1) := Int.mul_nonneg (by omega) (by omega)
  have e6 : a.2 * (b.1 - a.1) ≤ 30000 * 30000 := Int.mul_le_mul (by omega) (by omega) (by omega) (by omega)
  have e7 : 0 ≤ a.2 * (b.1 - a.1) * d := Int.mul_nonneg (by omega) (by omega)
  have e8 : a.2 * (b.1 - a.1) * d ≤ 900000000 * 1000000000 := Int.mul_le_mul (by omega) (by omega) (by omega) (by omega)
  have e9 : 0 ≤ (n - a.1 * d) * (b.2 - a.2) := Int.mul_nonneg (by omega) (by omega)
  have e10 : (n - a.1 * d) * (b.2 - a.2) ≤ 30000000000000 * 30000 := Int.mul_le_mul (by omega) (by omega) (by omega) (by omega)
  have e11 : 0 < (b.1 - a.1) * d := Int.mul_pos (by omega) (by omega)
  have e12 : (b.1 - a.1) * d ≤ 30000 * 1000000000 := Int.mul_le_mul (by omega) (by omega) (by omega) (by omega)
  omega
theorem atR_mk : ∀ {c : List Kn}, Ris c → Bnd c → ∀ {n d : Int}, 1 ≤ d ∧ d ≤ 1000000000 → ∀ {f : Int × Int}, OnL c ((n : Rat) / (d : Rat)) (qv f) → vB f.1 f.2 = true → atR n d c = some f
  | [], _, _, _, _, _, _, h, _ => h.elim
  | [a], _, _, _, _, _, _, h, _ => h.elim
  | a :: b :: r, hu, hb, n, d, hd, f, h, hv => by
    have hu' := List.pairwise_cons.1 hu
    have hab := hu'.1 b (by simp)
    have hd0 : 0 < d := by omega
    unfold atR
    by_cases hlt : b.1 * d < n
    · rw [if_pos hlt]
      rcases h with h | h
      · have := (q_ge (a := b.1) (n := n) hd0).1 h.2.1; omega
      · exact atR_mk hu'.2 (fun k hk => hb k (List.mem_cons_of_mem _ hk)) hd h hv
    · rw [if_neg hlt]
      have hs : OnS a b ((n : Rat) / (d : Rat)) (qv f) := by
        rcases h with h | h
        · exact h
        · have h1 := (onL_lo hu'.2 h).1
          have h2 := (q_ge (a := b.1) (n := n) hd0).2 (by omega)
          have e : (n : Rat) / (d : Rat) = b.1 := by grind
          rw [e] at h ⊢
          rw [onL_head hu'.2 h]
          exact onS_b hab
      have h1 := (q_le hd0).1 hs.1
      have h2 := (q_ge hd0).1 hs.2.1
      obtain ⟨_, _, _, q4, q5, q6⟩ := seg_bd hab (hb a (by simp)) (hb b (by simp)) hd h1 h2
      refine ofF_mk (by omega) ⟨by omega, by omega⟩ ⟨by omega, by omega⟩ hv ?_
      rw [seg_val hab hd0]
      exact hs.2.2
theorem kx_cons (a : Kn) (r : List Kn) : kx (a :: r) 0 = a.1 := rfl
theorem at_q {c : List Kn} (h : curB c = true) {n d : Int} (hd : 0 < d) {f : Int × Int} (hf : atF c n d = some f) : OnL c ((n : Rat) / (d : Rat)) (qv f) ∧ vB f.1 f.2 = true := by
  unfold atF at hf
  split at hf
  · cases hf
  · rename_i h0
    refine atR_q (cur_Up h) hd (fun a r e => ?_) hf
    subst e
    rw [kx_cons] at h0
    omega
theorem at_mk {c : List Kn} (h : curB c = true) {n d : Int} (hd : 1 ≤ d ∧ d ≤ 1000000000) {f : Int × Int} (hf : OnL c ((n : Rat) / (d : Rat)) (qv f)) (hv : vB f.1 f.2 = true) : atF c n d = some f := by
  unfold atF
  rw [if_neg]
  · exact atR_mk (cur_Up h) (cur_Bnd h) hd hf hv
  · have hl := cur_len h
    cases c with
    | nil => simp at hl
    | cons a r =>
      rw [kx_cons]
      have := (q_le (by omega)).1 (onL_lo (cur_Up h) hf).1
      omega
/-- every bounded quotient has a fraction -/
theorem ofF_tot {a b : Int} (hb : b ≠ 0) (h1 : -1000000000 ≤ a ∧ a ≤ 1000000000) (h2 : -1000000000 ≤ b ∧ b ≤ 1000000000) : ∃ f, ofF a b = some f ∧ f.2 ≤ b.natAbs := by
  have hg := gS_ne (a := a) hb
  obtain ⟨x, hx⟩ := gS_dvd_left a b
  obtain ⟨y, hy⟩ := gS_dvd_right a b
  have e1 : a / gS a b = x := by
    generalize gS a b = g at *
    subst hx
    exact Int.mul_ediv_cancel_left _ hg
  have e2 : b / gS a b = y := by
    generalize gS a b = g at *
    subst hy
    exact Int.mul_ediv_cancel_left _ hg
  have hgn : (gS a b).natAbs = Int.gcd a b := by unfold gS; split <;> omega
  have hy0 : 0 < y := by
    have hgp : 0 < (Int.gcd a b : Int) := by
      have : Int.gcd a b ≠ 0 := fun h => hb (Int.gcd_eq_zero_iff.1 h).2
      omega
    unfold gS at hy
    split at hy
    · rename_i hn
      rcases Int.lt_or_le 0 y with c | c
      · exact c
      · have : 0 ≤ -(Int.gcd a b : Int) * y := by
          have := Int.mul_nonneg (show 0 ≤ (Int.gcd a b : Int) by omega) (show 0 ≤ -y by omega)
          rw [Int.mul_neg, ← Int.neg_mul] at this
          exact this
        omega
    · rename_i hn
      rcases Int.lt_or_le 0 y with c | c
      · exact c
      · have : 0 ≤ (Int.gcd a b : Int) * -y := Int.mul_nonneg (by omega) (by omega)
        rw [Int.mul_neg] at this
        omega
  have hcop : Int.gcd x y = 1 := by
    have h3 : Int.gcd a b = (gS a b).natAbs * Int.gcd x y := by
      have h4 : Int.gcd (gS a b * x) (gS a b * y) = (gS a b).natAbs * Int.gcd x y := Int.gcd_mul_left _ _ _
      rw [← hx, ← hy] at h4
      exact h4
    have hp : 0 < Int.gcd a b := Int.gcd_pos_of_ne_zero_right _ hb
    rw [hgn] at h3
    exact Nat.eq_of_mul_eq_mul_left hp (by omega)
  have n1 : a.natAbs = (gS a b).natAbs * x.natAbs := by rw [← Int.natAbs_mul, ← hx]
  have n2 : b.natAbs = (gS a b).natAbs * y.natAbs := by rw [← Int.natAbs_mul, ← hy]
  have hg1 : 1 ≤ (gS a b).natAbs := by omega
  have m1 : x.natAbs ≤ a.natAbs := by rw [n1]; exact Nat.le_mul_of_pos_left _ hg1
  have m2 : y.natAbs ≤ b.natAbs := by rw [n2]; exact Nat.le_mul_of_pos_left _ hg1
  refine ⟨(x, y), ?_, by dsimp only; omega⟩
  unfold ofF
  rw [e1, e2, if_pos ⟨hb, ⟨by omega, by omega⟩, ⟨by omega, by omega⟩, vB_iff.2 ⟨by omega, by omega, by omega, by omega, hcop⟩⟩]
end Go.Proofs.Ytidcomcnieggaaa
