/-
  Plain: cores: the test, lengths, what is between two depths, joined and cut pieces.
-/
namespace Go.Proofs.Ytionljjdfgeggaa
set_option linter.unusedVariables false
abbrev Pc := Int × Int
def coreR : Int → List Pc → Prop
  | _, [] => True
  | l, p :: r => (l ≤ p.1 ∧ p.1 < p.2 ∧ p.2 ≤ 30000) ∧ coreR p.2 r
instance coreRdec : (l : Int) → (c : List Pc) → Decidable (coreR l c)
  | _, [] => isTrue trivial
  | l, p :: r => @instDecidableAnd _ _ _ (coreRdec p.2 r)
def coreB (c : List Pc) : Bool := decide (coreR 0 c ∧ c.length ≤ 20)
theorem coreB_iff {c : List Pc} : coreB c = true ↔ coreR 0 c ∧ c.length ≤ 20 := by simp [coreB]
theorem coreR_le {l l' : Int} (h : l' ≤ l) : ∀ {c : List Pc}, coreR l c → coreR l' c
  | [], _ => trivial
  | p :: r, hc => ⟨⟨by have := hc.1; omega, hc.1.2⟩, hc.2⟩
theorem coreR_bd {l : Int} : ∀ {c : List Pc}, coreR l c → ∀ p ∈ c, l ≤ p.1 ∧ p.1 < p.2 ∧ p.2 ≤ 30000
  | [], _, p, hp => by cases hp
  | q :: r, h, p, hp => by
    rcases List.mem_cons.1 hp with rfl | hp
    · exact h.1
    · have := coreR_bd h.2 p hp
      have := h.1
      omega
theorem getD_of_lt' (c : List Pc) {i : Nat} (h : i < c.length) : c.getD i (0, 0) = c[i] := by simp [List.getD_eq_getElem?_getD, List.getElem?_eq_getElem h]
theorem getD_mem' (c : List Pc) {i : Nat} (h : i < c.length) : c.getD i (0, 0) ∈ c := by rw [getD_of_lt' c h]; exact List.getElem_mem h
theorem core_at {c : List Pc} (h : coreR 0 c) {i : Nat} (hi : i < c.length) : 0 ≤ (c.getD i (0, 0)).1 ∧ (c.getD i (0, 0)).1 < (c.getD i (0, 0)).2 ∧ (c.getD i (0, 0)).2 ≤ 30000 :=
  coreR_bd h _ (by rw [getD_of_lt' c hi]; exact List.getElem_mem hi)
theorem drop_at {c : List Pc} {k : Nat} (h : k < c.length) : c.drop k = c.getD k (0, 0) :: c.drop (k + 1) := by rw [getD_of_lt' c h]; exact List.drop_eq_getElem_cons h
/-! ## Lengths -/
def lenL : List Pc → Int
  | [] => 0
  | p :: r => (p.2 - p.1) + lenL r
theorem lenL_app : ∀ (c d : List Pc), lenL (c ++ d) = lenL c + lenL d
  | [], d => by simp [lenL]
  | p :: r, d => by simp only [List.cons_append, lenL, lenL_app r d]; omega
theorem lenL_bd : ∀ {c : List Pc} {l : Int}, coreR l c → 0 ≤ lenL c ∧ lenL c ≤ 30000 - l ∨ c = []
  | [], l, h => .inr rfl
  | p :: r, l, h => by
    have := h.1
    refine .inl ?_
    simp only [lenL]
    rcases lenL_bd h.2 with h2 | rfl
    · omega
    · simp only [lenL]; omega
theorem lenL_bd0 {c : List Pc} (h : coreR 0 c) : 0 ≤ lenL c ∧ lenL c ≤ 30000 := by
  rcases lenL_bd h with h | rfl
  · omega
  · simp [lenL]
theorem lenL_take {c : List Pc} (h : coreR 0 c) (k : Nat) : 0 ≤ lenL (c.take k) ∧ lenL (c.take k) + lenL (c.drop k) = lenL c ∧ 0 ≤ lenL (c.drop k) := by
  have e : lenL (c.take k) + lenL (c.drop k) = lenL c := by rw [← lenL_app, List.take_append_drop]
  have nn : ∀ d : List Pc, (∀ p ∈ d, p.1 < p.2) → 0 ≤ lenL d := by
    intro d
    induction d with
    | nil => intro _; simp [lenL]
    | cons p r ih =>
      intro hp
      have := ih (fun q hq => hp q (List.mem_cons_of_mem _ hq))
      have := hp p (by simp)
      simp only [lenL]; omega
  have hb := coreR_bd h
  exact ⟨nn _ fun p hp => (hb p (List.mem_of_mem_take hp)).2.1, e, nn _ fun p hp => (hb p (List.mem_of_mem_drop hp)).2.1⟩
def lengthC (c : List Pc) : Int := if coreB c = true then lenL c else -1
/-! ## Where a depth is -/
def hasR (d : Int) : List Pc → Nat → Int
  | [], _ => -1
  | p :: r, i => if p.1 ≤ d ∧ d < p.2 then (i : Int) else hasR d r (i + 1)
def hasC (c : List Pc) (d : Int) : Int := if coreB c = true then hasR d c 0 else -1
def hasDB (d : Int) : List Pc → Bool
  | [] => false
  | p :: r => (decide (p.1 ≤ d) && decide (d < p.2)) || hasDB d r
theorem hasR_shift (d : Int) : ∀ (c : List Pc) (i j : Nat), (hasR d c i = -1 ∧ hasR d c j = -1) ∨ (∃ k : Nat, k < c.length ∧ hasR d c i = ((i + k : Nat) : Int) ∧ hasR d c j = ((j + k : Nat) : Int))
  | [], i, j => .inl ⟨rfl, rfl⟩
  | p :: r, i, j => by
    unfold hasR
    split
    · exact .inr ⟨0, by simp, by simp, by simp⟩
    · rcases hasR_shift d r (i + 1) (j + 1) with h | ⟨k, hk, h1, h2⟩
      · exact .inl h
      · exact .inr ⟨k + 1, by simpa using hk, by rw [h1]; congr 1; omega, by rw [h2]; congr 1; omega⟩
theorem hasR_hit {d : Int} : ∀ {c : List Pc} {i k : Nat}, hasR d c i = ((i + k : Nat) : Int) → k < c.length ∧ (c.getD k (0, 0)).1 ≤ d ∧ d < (c.getD k (0, 0)).2
  | [], i, k, h => by simp [hasR] at h; omega
  | p :: r, i, k, h => by
    unfold hasR at h
    split at h
    · rename_i hp
      obtain rfl : k = 0 := by omega
      exact ⟨by simp, hp⟩
    · cases k with
      | zero =>
        exfalso
        rcases hasR_shift d r (i + 1) (i + 1) with h1 | ⟨k, _, h1, _⟩ <;> omega
      | succ k =>
        have := hasR_hit (c := r) (i := i + 1) (k := k) (by rw [h]; congr 1; omega)
        exact ⟨by simpa using this.1, this.2⟩
theorem hasC_cases (c : List Pc) (d : Int) : hasC c d = -1 ∨ ∃ i : Nat, coreB c = true ∧ hasC c d = (i : Int) ∧ hasR d c 0 = (i : Int) ∧ i < c.length ∧ (c.getD i (0, 0)).1 ≤ d ∧ d < (c.getD i (0, 0)).2 := by
  unfold hasC
  split
  · rename_i h
    rcases hasR_shift d c 0 0 with h1 | ⟨k, hk, h1, _⟩
    · exact .inl h1.1
    · have h2 := hasR_hit h1
      refine .inr ⟨k, h, by rw [h1]; congr 1; omega, by rw [h1]; congr 1; omega, hk, h2.2⟩
  · exact .inl rfl
/-! ## Between two depths -/
def btw (t b : Int) : List Pc → List Pc
  | [] => []
  | p :: r => if max p.1 t < min p.2 b then (max p.1 t, min p.2 b) :: btw t b r else btw t b r
theorem btw_cons (t b : Int) (p : Pc) (r : List Pc) : btw t b (p :: r) = (if max p.1 t < min p.2 b then [(max p.1 t, min p.2 b)] else []) ++ btw t b r := by
  rw [btw]; split <;> rfl
theorem btw_len (t b : Int) : ∀ c : List Pc, (btw t b c).length ≤ c.length
  | [] => Nat.le_refl _
  | p :: r => by
    have := btw_len t b r
    rw [btw]
    split
    · simp; exact this
    · simp; omega
theorem btw_R (t b : Int) : ∀ {c : List Pc} {l : Int}, coreR l c → coreR l (btw t b c)
  | [], l, h => trivial
  | p :: r, l, h => by
    have h1 := h.1
    have ih := btw_R t b h.2
    rw [btw]
    split
    · exact ⟨⟨by dsimp only; omega, by assumption, by dsimp only; omega⟩, coreR_le (by dsimp only; omega) ih⟩
    · exact coreR_le (by omega) ih
theorem btw_core {c : List Pc} (h : coreB c = true) (t b : Int) : coreB (btw t b c) = true := by
  obtain ⟨h1, h2⟩ := coreB_iff.1 h
  exact coreB_iff.2 ⟨btw_R t b h1, Nat.le_trans (btw_len t b c) h2⟩
theorem btw_all : ∀ {c : List Pc} {l d : Int}, coreR l c → d ≤ l → btw d 30000 c = c
  | [], _, _, _, _ => rfl
  | p :: r, l, d, h, h0 => by
    have h1 := h.1
    rw [btw, if_pos (by omega), btw_all h.2 (by omega)]
    congr 1
    ext <;> (dsimp only; omega)
theorem btw_none : ∀ {c : List Pc} {l t d : Int}, coreR l c → d ≤ l → btw t d c = []
  | [], _, _, _, _, _ => rfl
  | p :: r, l, t, d, h, h0 => by
    have h1 := h.1
    rw [btw, if_neg (by omega)]
    exact btw_none h.2 (by omega)
theorem btw_self (t : Int) : ∀ c : List Pc, btw t t c = []
  | [] => rfl
  | p :: r => by rw [btw, if_neg (by omega), btw_self t r]
theorem btw_btw {t b d e : Int} (h1 : t ≤ d) (h2 : e ≤ b) : ∀ c : List Pc, btw d e (btw t b c) = btw d e c
  | [] => rfl
  | p :: r => by
    have ih := btw_btw h1 h2 r
    rw [btw]
    split
    · rw [btw, btw, ih]
      dsimp only
      rw [show max (max p.1 t) d = max p.1 d by omega, show min (min p.2 b) e = min p.2 e by omega]
    · rw [ih]
      conv => rhs; rw [btw, if_neg (by omega)]
theorem btw_lenL (t b : Int) (p : Pc) (r : List Pc) : lenL (btw t b (p :: r)) = max 0 (min p.2 b - max p.1 t) + lenL (btw t b r) := by
  rw [btw]
  split
  · simp only [lenL]; omega
  · omega
theorem btw_split {t d b : Int} (h1 : t ≤ d) (h2 : d ≤ b) : ∀ {c : List Pc} {l : Int}, coreR l c → lenL (btw t d c) + lenL (btw d b c) = lenL (btw t b c)
  | [], _, _ => rfl
  | p :: r, l, h => by
    have h3 := h.1
    have ih := btw_split h1 h2 h.2
    rw [btw_lenL, btw_lenL, btw_lenL]
    omega
theorem btw_has (d t b : Int) : ∀ c : List Pc, hasDB d (btw t b c) = (hasDB d c && (decide (d ≥ t) && decide (d < b)))
  | [] => by simp [btw, hasDB]
  | p :: r => by
    have ih := btw_has d t b r
    rw [btw]
    split
    · simp only [hasDB]
      rw [ih, Bool.eq_iff_iff]
      simp only [Bool.or_eq_true, Bool.and_eq_true, decide_eq_true_eq]
      constructor
      · rintro (h | h)
        · exact ⟨.inl (by omega), by omega⟩
        · exact ⟨.inr h.1, h.2⟩
      · rintro ⟨h | h, h'⟩
        · exact .inl (by omega)
        · exact .inr ⟨h, h'⟩
    · rw [ih, hasDB, Bool.eq_iff_iff]
      simp only [Bool.or_eq_true, Bool.and_eq_true, decide_eq_true_eq]
      constructor
      · rintro ⟨h, h'⟩; exact ⟨.inr h, h'⟩
      · rintro ⟨h | h, h'⟩
        · omega
        · exact ⟨h, h'⟩
theorem btw_most {t b : Int} (htb : t ≤ b) : ∀ {c : List Pc} {l : Int}, coreR l c → lenL (btw t b c) ≤ max 0 (b - max l t)
  | [], l, _ => by simp only [btw, lenL]; omega
  | p :: r, l, h => by
    have h3 := h.1
    have ih := btw_most htb h.2
    rw [btw_lenL]
    omega
/-! ## Joined pieces -/
def joinR : Pc → List Pc → List Pc
  | a, [] => [a]
  | a, p :: r => if a.2 = p.1 then joinR (a.1, p.2) r else a :: joinR p r
def joinL : List Pc → List Pc
  | [] => []
  | p :: r => joinR p r
theorem joinR_hd : ∀ (r : List Pc) (a : Pc), ∃ q t, joinR a r = q :: t ∧ q.1 = a.1
  | [], a => ⟨a, [], rfl, rfl⟩
  | p :: r, a => by
    rw [joinR]
    split
    · exact joinR_hd r (a.1, p.2)
    · exact ⟨a, _, rfl, rfl⟩
theorem joinR_core : ∀ {r : List Pc} {a : Pc} {l : Int}, coreR l (a :: r) → coreR l (joinR a r)
  | [], a, l, h => h
  | p :: r, a, l, h => by
    have h1 := h.1
    have h2 := h.2.1
    rw [joinR]
    split
    · exact joinR_core (r := r) (a := (a.1, p.2)) ⟨⟨h1.1, by dsimp only; omega, h2.2.2⟩, h.2.2⟩
    · exact ⟨h1, joinR_core h.2⟩
theorem joinR_length : ∀ (r : List Pc) (a : Pc), (joinR a r).length ≤ r.length + 1
  | [], a => Nat.le_refl _
  | p :: r, a => by
    rw [joinR]
    split
    · have := joinR_length r (a.1, p.2); simp; omega
    · have := joinR_length r p; simp; omega
theorem joinL_length (c : List Pc) : (joinL c).length ≤ c.length := by
  cases c with
  | nil => exact Nat.le_refl _
  | cons p r => exact joinR_length r p
theorem joinL_core {c : List Pc} (h : coreB c = true) : coreB (joinL c) = true := by
  obtain ⟨h1, h2⟩ := coreB_iff.1 h
  refine coreB_iff.2 ⟨?_, Nat.le_trans (joinL_length c) h2⟩
  cases c with
  | nil => trivial
  | cons p r => exact joinR_core h1
theorem joinR_lenL : ∀ (r : List Pc) (a : Pc), lenL (joinR a r) = lenL (a :: r)
  | [], a => rfl
  | p :: r, a => by
    rw [joinR]
    split
    · rw [joinR_lenL r (a.1, p.2)]; simp only [lenL]; omega
    · have := joinR_lenL r p
      simp only [lenL] at this ⊢
      omega
theorem joinL_lenL (c : List Pc) : lenL (joinL c) = lenL c := by
  cases c with
  | nil => rfl
  | cons p r => exact joinR_lenL r p
/-- no piece touches the next -/
def NT : List Pc → Prop
  | a :: p :: r => a.2 ≠ p.1 ∧ NT (p :: r)
  | _ => True
theorem joinR_NT : ∀ (r : List Pc) (a : Pc), NT (joinR a r)
  | [], a => trivial
  | p :: r, a => by
    rw [joinR]
    split
    · exact joinR_NT r (a.1, p.2)
    · rename_i h
      have ih := joinR_NT r p
      obtain ⟨q, t, e, hq⟩ := joinR_hd r p
      rw [e] at ih ⊢
      exact ⟨by rw [hq]; exact h, ih⟩
theorem joinL_NT (c : List Pc) : NT (joinL c) := by
  cases c with
  | nil => trivial
  | cons p r => exact joinR_NT r p
theorem join_of_NT : ∀ (r : List Pc) (a : Pc), NT (a :: r) → joinR a r = a :: r
  | [], a, _ => rfl
  | p :: r, a, h => by rw [joinR, if_neg h.1, join_of_NT r p h.2]
theorem joinL_joinL (c : List Pc) : joinL (joinL c) = joinL c := by
  have h := joinL_NT c
  cases e : joinL c with
  | nil => rfl
  | cons a r => rw [e] at h; exact join_of_NT r a h
theorem NT_at : ∀ {c : List Pc} {i : Nat}, NT c → i + 1 < c.length → (c.getD i (0, 0)).2 ≠ (c.getD (i + 1) (0, 0)).1
  | [], i, _, h => by simp at h
  | [a], i, _, h => by simp at h
  | a :: p :: r, 0, h, _ => h.1
  | a :: p :: r, i + 1, h, hi => NT_at (c := p :: r) (i := i) h.2 (by simpa using hi)
def gapsR : Int → List Pc → List Pc
  | _, [] => []
  | l, p :: r => if l < p.1 then (l, p.1) :: gapsR p.2 r else gapsR p.2 r
def gapsL : List Pc → List Pc
  | [] => []
  | p :: r => gapsR p.2 r
def gapsC (c : List Pc) : List Pc := if coreB c = true then gapsL c else []
theorem gapsL_join : ∀ (r : List Pc) (a : Pc), gapsL (joinR a r) = gapsR a.2 r
  | [], a => rfl
  | p :: r, a => by
    rw [joinR]
    split
    · rename_i h
      rw [gapsL_join r (a.1, p.2), gapsR, if_neg (by omega)]
    · have ih := gapsL_join r p
      obtain ⟨q, t, e, hq⟩ := joinR_hd r p
      rw [e] at ih ⊢
      show gapsR a.2 (q :: t) = _
      rw [gapsR, gapsR, hq, ← ih]
      rfl
theorem gapsC_join {c : List Pc} (h : coreB c = true) : gapsC (joinL c) = gapsC c := by
  unfold gapsC
  rw [if_pos h, if_pos (joinL_core h)]
  cases c with
  | nil => rfl
  | cons p r => exact gapsL_join r p
theorem gapsR_len : ∀ (c : List Pc) (l : Int), (gapsR l c).length ≤ c.length
  | [], l => Nat.le_refl _
  | p :: r, l => by
    have := gapsR_len r p.2
    rw [gapsR]
    split
    · simp; exact this
    · simp; omega
def relH (x y : Int) : Prop := (x = -1 ∧ y = -1) ∨ (0 ≤ x ∧ x ≤ y)
theorem relH_refl {d : Int} (c : List Pc) (i : Nat) : relH (hasR d c i) (hasR d c i) := by
  rcases hasR_shift d c i i with h | ⟨k, _, h, _⟩
  · exact .inl ⟨h.1, h.1⟩
  · exact .inr ⟨by omega, Int.le_refl _⟩
theorem relH_trans {x y z : Int} (h1 : relH x y) (h2 : relH y z) : relH x z := by unfold relH at *; omega
theorem join_has (d : Int) : ∀ {r : List Pc} {a : Pc} {l : Int}, coreR l (a :: r) → ∀ i, relH (hasR d (joinR a r) i) (hasR d (a :: r) i)
  | [], a, l, h, i => relH_refl _ i
  | p :: r, a, l, h, i => by
    have h1 := h.1
    have h2 := h.2.1
    rw [joinR]
    split
    · rename_i e
      refine relH_trans (join_has d (r := r) (a := (a.1, p.2)) (l := l) ⟨⟨h1.1, by dsimp only; omega, h2.2.2⟩, h.2.2⟩ i) ?_
      rw [hasR, hasR, hasR]
      dsimp only
      by_cases c1 : a.1 ≤ d ∧ d < a.2
      · rw [if_pos (by omega), if_pos c1]; exact .inr ⟨by omega, by omega⟩
      · by_cases c2 : p.1 ≤ d ∧ d < p.2
        · rw [if_pos (by omega), if_neg c1, if_pos c2]; exact .inr ⟨by omega, by omega⟩
        · rw [if_neg (by omega), if_neg c1, if_neg c2]
          rcases hasR_shift d r (i + 1) (i + 1 + 1) with h | ⟨k, _, h, h'⟩
          · exact .inl h
          · exact .inr ⟨by omega, by omega⟩
    · rw [hasR, hasR]
      by_cases c1 : a.1 ≤ d ∧ d < a.2
      · rw [if_pos c1, if_pos c1]; exact .inr ⟨by omega, Int.le_refl _⟩
      · rw [if_neg c1, if_neg c1]; exact join_has d h.2 (i + 1)
theorem joinL_has {c : List Pc} (h : coreB c = true) (d : Int) : relH (hasC (joinL c) d) (hasC c d) := by
  unfold hasC
  rw [if_pos h, if_pos (joinL_core h)]
  have h1 := (coreB_iff.1 h).1
  cases c with
  | nil => exact .inl ⟨rfl, rfl⟩
  | cons p r => exact join_has d h1 0
/-! ## A cut -/
def cutR (d : Int) : List Pc → List Pc
  | [] => []
  | p :: r => if p.1 ≤ d ∧ d < p.2 then (p.1, d) :: (d, p.2) :: r else p :: cutR d r
def cutI (c : List Pc) (d : Int) (i : Nat) : List Pc := c.take i ++ ((c.getD i (0, 0)).1, d) :: (d, (c.getD i (0, 0)).2) :: c.drop (i + 1)
theorem cutR_I {d : Int} : ∀ {c : List Pc} {j i : Nat}, hasR d c j = ((j + i : Nat) : Int) → cutR d c = cutI c d i
  | [], j, i, h => by simp [hasR] at h; omega
  | p :: r, j, i, h => by
    have h0 := hasR_hit h
    unfold hasR at h
    rw [cutR]
    split at h
    · rename_i hp
      obtain rfl : i = 0 := by omega
      rw [if_pos hp]; rfl
    · rename_i hp
      rw [if_neg hp]
      cases i with
      | zero => exact absurd h0.2 hp
      | succ i =>
        rw [cutR_I (c := r) (j := j + 1) (i := i) (by rw [h]; congr 1; omega)]
        rfl
/-- whether a core can be cut at a depth -/
def cutO (c : List Pc) (d : Int) : Bool := decide (0 ≤ hasC c d ∧ (c.getD (hasC c d).toNat (0, 0)).1 ≠ d ∧ c.length ≠ 20)
def cutC (c : List Pc) (d : Int) : List Pc := if cutO c d = true then cutI c d (hasC c d).toNat else []
theorem cutO_inv {c : List Pc} {d : Int} (h : cutO c d = true) : ∃ i : Nat, coreB c = true ∧ hasC c d = (i : Int) ∧ hasR d c 0 = ((0 + i : Nat) : Int) ∧ i < c.length ∧ (c.getD i (0, 0)).1 < d ∧ d < (c.getD i (0, 0)).2 ∧ c.length < 20 ∧ cutC c d = cutI c d i ∧ cutC c d = cutR d c := by
  have h' := h
  unfold cutO at h
  rw [decide_eq_true_eq] at h
  obtain ⟨h1, h2, h3⟩ := h
  rcases hasC_cases c d with h0 | ⟨i, q1, q2, q3, q4, q5, q6⟩
  · omega
  · have hl := (coreB_iff.1 q1).2
    rw [q2, Int.toNat_natCast] at h2
    have e1 : cutC c d = cutI c d i := by unfold cutC; rw [if_pos h', q2, Int.toNat_natCast]
    have e2 : hasR d c 0 = ((0 + i : Nat) : Int) := by rw [q3]; congr 1; omega
    exact ⟨i, q1, q2, e2, q4, by omega, q6, by omega, e1, by rw [e1, cutR_I e2]⟩
theorem cut_len (c : List Pc) (d : Int) {i : Nat} (h : i < c.length) : (cutI c d i).length = c.length + 1 := by simp [cutI]; omega
theorem cutR_core {d : Int} : ∀ {c : List Pc} {l : Int} {j i : Nat}, coreR l c → hasR d c j = ((j + i : Nat) : Int) → (c.getD i (0, 0)).1 < d → coreR l (cutR d c)
  | [], l, j, i, h, hh, hd => trivial
  | p :: r, l, j, i, h, hh, hd => by
    have h1 := h.1
    unfold hasR at hh
    rw [cutR]
    split at hh
    · rename_i hp
      obtain rfl : i = 0 := by omega
      have hd : p.1 < d := hd
      rw [if_pos hp]
      exact ⟨⟨h1.1, hd, by dsimp only; omega⟩, ⟨Int.le_refl _, hp.2, h1.2.2⟩, h.2⟩
    · rename_i hp
      rw [if_neg hp]
      cases i with
      | zero =>
        exfalso
        rcases hasR_shift d r (j + 1) (j + 1) with h1 | ⟨k, _, h1, _⟩ <;> omega
      | succ i => exact ⟨h1, cutR_core (c := r) (j := j + 1) (i := i) h.2 (by rw [hh]; congr 1; omega) hd⟩
theorem cut_core {c : List Pc} {d : Int} (h : cutO c d = true) : coreB (cutC c d) = true := by
  obtain ⟨i, q1, q2, q3, q4, q5, q6, q7, q8, q9⟩ := cutO_inv h
  refine coreB_iff.2 ⟨?_, ?_⟩
  · rw [q9]; exact cutR_core (coreB_iff.1 q1).1 q3 q5
  · rw [q8, cut_len c d q4]; omega
theorem cut_has {d : Int} (e : Int) : ∀ {c : List Pc} {l : Int} (j : Nat), coreR l c → 0 ≤ hasR d c j → ((hasR e c j < 0 ∨ e < d) → hasR e (cutR d c) j = hasR e c j) ∧ (0 ≤ hasR e c j → d ≤ e → hasR e (cutR d c) j = hasR e c j + 1)
  | [], l, j, h, hh => by simp [hasR] at hh
  | p :: r, l, j, h, hh => by
    have h1 := h.1
    unfold hasR at hh
    rw [cutR]
    split at hh
    · rename_i hp
      rw [if_pos hp, hasR, hasR, hasR]
      dsimp only
      by_cases c1 : p.1 ≤ e ∧ e < p.2
      · rw [if_pos c1]
        by_cases c2 : e < d
        · rw [if_pos (by omega)]
          exact ⟨fun _ => rfl, fun _ _ => by omega⟩
        · rw [if_neg (by omega), if_pos (by omega)]
          exact ⟨fun _ => by omega, fun _ _ => by omega⟩
      · rw [if_neg c1, if_neg (by omega), if_neg (by omega)]
        rcases hasR_shift e r (j + 1) (j + 1 + 1) with h2 | ⟨k, hk, h2, h3⟩
        · exact ⟨fun _ => by omega, fun _ _ => by omega⟩
        · have h4 := hasR_hit h2
          have h5 := coreR_bd h.2 _ (getD_mem' r hk)
          exact ⟨fun _ => by omega, fun _ _ => by omega⟩
    · rename_i hp
      rw [if_neg hp, hasR, hasR]
      have hlt : p.2 ≤ d := by
        rcases hasR_shift d r (j + 1) (j + 1) with h2 | ⟨k, hk, h2, _⟩
        · omega
        · have h4 := hasR_hit h2
          have h5 := coreR_bd h.2 _ (getD_mem' r hk)
          omega
      by_cases c1 : p.1 ≤ e ∧ e < p.2
      · rw [if_pos c1, if_pos c1]
        exact ⟨fun _ => rfl, fun _ _ => by omega⟩
      · rw [if_neg c1, if_neg c1]
        exact cut_has e (j + 1) h.2 hh
theorem cutC_has {c : List Pc} {d : Int} (h : cutO c d = true) (e : Int) : ((hasC c e < 0 ∨ e < d) → hasC (cutC c d) e = hasC c e) ∧ (0 ≤ hasC c e → d ≤ e → hasC (cutC c d) e = hasC c e + 1) := by
  obtain ⟨i, q1, q2, q3, q4, q5, q6, q7, q8, q9⟩ := cutO_inv h
  have hc := cut_core h
  have := cut_has (d := d) e (c := c) (l := 0) 0 (coreB_iff.1 q1).1 (by omega)
  have e1 : hasC c e = hasR e c 0 := if_pos q1
  have e2 : hasC (cutC c d) e = hasR e (cutR d c) 0 := by unfold hasC; rw [if_pos hc, q9]
  rw [e1, e2]
  exact this
theorem cut_at {c : List Pc} {d : Int} {i : Nat} (h : i < c.length) : (cutI c d i).getD (i + 1) (0, 0) = (d, (c.getD i (0, 0)).2) := by
  unfold cutI
  rw [List.getD_eq_getElem?_getD, List.getElem?_append_right (by simp; omega)]
  have : i + 1 - (c.take i).length = 1 := by simp; omega
  rw [this]; rfl
/-- at the same depth there is no second cut -/
theorem cut_twice {c : List Pc} {d : Int} (h : cutO c d = true) : cutO (cutC c d) d = false := by
  obtain ⟨i, q1, q2, q3, q4, q5, q6, q7, q8, q9⟩ := cutO_inv h
  have h1 := (cutC_has h d).2 (by omega) (Int.le_refl _)
  rw [Bool.eq_false_iff]
  intro h2
  unfold cutO at h2
  rw [decide_eq_true_eq] at h2
  apply h2.2.1
  have : (hasC (cutC c d) d).toNat = i + 1 := by rw [h1]; omega
  rw [this, q8, cut_at q4]
theorem cut_lenL {d : Int} : ∀ (c : List Pc), lenL (cutR d c) = lenL c
  | [] => rfl
  | p :: r => by
    rw [cutR]
    split
    · simp only [lenL]; omega
    · simp only [lenL, cut_lenL r]
theorem cut_joinR {d : Int} : ∀ (r : List Pc) (a : Pc), joinR a (cutR d r) = joinR a r
  | [], a => rfl
  | p :: r, a => by
    rw [cutR]
    split
    · conv => rhs; rw [joinR]
      conv => lhs; rw [joinR]
      dsimp only
      split
      · rw [joinR, if_pos rfl]
      · rw [joinR, if_pos rfl]
    · rw [joinR, joinR, cut_joinR r, cut_joinR r]
theorem cut_joinL {d : Int} (c : List Pc) : joinL (cutR d c) = joinL c := by
  cases c with
  | nil => rfl
  | cons p r =>
    rw [cutR]
    split
    · show joinR (p.1, d) ((d, p.2) :: r) = joinR p r
      rw [joinR, if_pos rfl]
    · exact cut_joinR r p
theorem cut_btw {d : Int} : ∀ {c : List Pc} {l : Int} {j i : Nat}, coreR l c → 0 ≤ l → hasR d c j = ((j + i : Nat) : Int) → (c.getD i (0, 0)).1 < d → btw 0 d (cutR d c) ++ btw d 30000 (cutR d c) = cutR d c
  | [], l, j, i, h, h0, hh, hd => rfl
  | p :: r, l, j, i, h, h0, hh, hd => by
    have h1 := h.1
    unfold hasR at hh
    rw [cutR]
    split at hh
    · rename_i hp
      obtain rfl : i = 0 := by omega
      have hd : p.1 < d := hd
      rw [if_pos hp]
      have n1 : btw 0 d r = [] := btw_none h.2 (by omega)
      have n2 : btw d 30000 r = r := btw_all h.2 (by omega)
      have e1 : btw 0 d ((p.1, d) :: (d, p.2) :: r) = [(p.1, d)] := by
        rw [btw, if_pos (by dsimp only; omega), btw, if_neg (by dsimp only; omega), n1]
        dsimp only
        rw [show max p.1 0 = p.1 by omega, show min d d = d by omega]
      have e2 : btw d 30000 ((p.1, d) :: (d, p.2) :: r) = (d, p.2) :: r := by
        rw [btw, if_neg (by dsimp only; omega), btw, if_pos (by dsimp only; omega), n2]
        dsimp only
        rw [show max d d = d by omega, show min p.2 30000 = p.2 by omega]
      rw [e1, e2]; rfl
    · rename_i hp
      rw [if_neg hp]
      cases i with
      | zero =>
        exfalso
        rcases hasR_shift d r (j + 1) (j + 1) with h1 | ⟨k, _, h1, _⟩ <;> omega
      | succ i =>
        have hh' : hasR d r (j + 1) = ((j + 1 + i : Nat) : Int) := by rw [hh]; congr 1; omega
        have ih := cut_btw (c := r) (j := j + 1) (i := i) h.2 (by omega) hh' hd
        have hlt : p.2 ≤ d := by
          have h4 := hasR_hit hh'
          have h5 := coreR_bd h.2 _ (getD_mem' r h4.1)
          omega
        rw [btw, if_pos (by omega), btw, if_neg (by omega), List.cons_append, ih]
        congr 1
        ext <;> (dsimp only; omega)
end Go.Proofs.Ytionljjdfgeggaa
