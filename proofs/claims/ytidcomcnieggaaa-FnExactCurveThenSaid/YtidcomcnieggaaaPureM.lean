/-
  Plain: lean curves; a knot more; parts of curves.
-/
import Derived.Test.YtidcomcnieggaaaPureL
namespace Go.Proofs.Ytidcomcnieggaaa
set_option linter.unusedVariables false

/-! ## Lean curves -/
def leanR (a : Kn) : List Kn → List Kn
  | k :: b :: r => if lineB a k b = true then leanR a (b :: r) else k :: leanR k (b :: r)
  | r => r
def leanF : List Kn → List Kn
  | [] => []
  | a :: r => a :: leanR a r
theorem leanR_nil (a : Kn) : leanR a [] = [] := rfl
theorem leanR_one (a k : Kn) : leanR a [k] = [k] := rfl
theorem leanR_cons (a k b : Kn) (r : List Kn) : leanR a (k :: b :: r) = if lineB a k b = true then leanR a (b :: r) else k :: leanR k (b :: r) := by rw [leanR]
theorem leanR_sub : ∀ (r : List Kn) (a : Kn), (leanR a r).Sublist r
  | [], a => List.Sublist.refl _
  | [k], a => List.Sublist.refl _
  | k :: b :: r, a => by
    rw [leanR_cons]
    split
    · exact (leanR_sub (b :: r) a).cons k
    · exact (leanR_sub (b :: r) k).cons_cons k
theorem leanR_ne : ∀ (r : List Kn) (a : Kn), r ≠ [] → leanR a r ≠ []
  | [], a, h => absurd rfl h
  | [k], a, _ => by simp [leanR]
  | k :: b :: r, a, _ => by
    rw [leanR_cons]
    split
    · exact leanR_ne (b :: r) a (by simp)
    · simp
theorem leanR_last : ∀ (r : List Kn) (a : Kn), (leanR a r).getLast? = r.getLast?
  | [], a => rfl
  | [k], a => rfl
  | k :: b :: r, a => by
    rw [leanR_cons]
    split
    · rw [leanR_last (b :: r) a, List.getLast?_cons_cons]
    · have h := leanR_ne (b :: r) k (by simp)
      cases e : leanR k (b :: r) with
      | nil => exact absurd e h
      | cons x y => rw [List.getLast?_cons_cons, ← e, leanR_last (b :: r) k, List.getLast?_cons_cons]
theorem leanF_sub (c : List Kn) : (leanF c).Sublist c := by
  cases c with
  | nil => exact List.Sublist.refl _
  | cons a r => exact (leanR_sub r a).cons_cons a
theorem leanF_cur {c : List Kn} (h : curB c = true) : curB (leanF c) = true := by
  obtain ⟨h1, h2, h3, h4⟩ := curB_iff'.1 h
  have hs := leanF_sub c
  refine curB_iff'.2 ⟨h1.sublist hs, fun k hk => h2 k (hs.subset hk), ?_, Nat.le_trans hs.length_le h4⟩
  cases c with
  | nil => simp at h3
  | cons a r =>
    have : leanR a r ≠ [] := leanR_ne r a (by intro e; subst e; simp at h3)
    have := List.length_pos_iff.2 this
    simp [leanF]; omega
theorem leanF_len (c : List Kn) : (leanF c).length ≤ c.length := (leanF_sub c).length_le
/-- the same values -/
theorem leanR_on : ∀ (r : List Kn) (a : Kn), Ris (a :: r) → ∀ {x y : Rat}, OnL (a :: leanR a r) x y ↔ OnL (a :: r) x y
  | [], a, _, x, y => Iff.rfl
  | [k], a, _, x, y => Iff.rfl
  | k :: b :: r, a, hu, x, y => by
    have hu' := List.pairwise_cons.1 hu
    have hak := hu'.1 k (by simp)
    have hkb := (List.pairwise_cons.1 hu'.2).1 b (by simp)
    rw [leanR_cons]
    split
    · rename_i hl
      have hu2 : Ris (a :: b :: r) := List.pairwise_cons.2 ⟨fun z hz => hu'.1 z (List.mem_cons_of_mem _ hz), (List.pairwise_cons.1 hu'.2).2⟩
      rw [leanR_on (b :: r) a hu2]
      show OnS a b x y ∨ OnL (b :: r) x y ↔ OnS a k x y ∨ (OnS k b x y ∨ OnL (b :: r) x y)
      rw [onS_split hak hkb (line_on hak hkb hl), or_assoc]
    · show OnS a k x y ∨ OnL (k :: leanR k (b :: r)) x y ↔ OnS a k x y ∨ OnL (k :: b :: r) x y
      rw [leanR_on (b :: r) k hu'.2]
theorem leanF_on {c : List Kn} (h : curB c = true) {x y : Rat} : OnL (leanF c) x y ↔ OnL c x y := by
  have h1 := cur_Up h
  cases c with
  | nil => exact Iff.rfl
  | cons a r => exact leanR_on r a h1
/-- no three knots that follow each other lie on a line -/
def NL : List Kn → Prop
  | a :: k :: b :: r => lineB a k b = false ∧ NL (k :: b :: r)
  | _ => True
def colB (a k b : Kn) : Prop := (k.2 - a.2) * (b.1 - a.1) = (b.2 - a.2) * (k.1 - a.1)
theorem col_trans {a k b c : Kn} (h1 : Lt2 a k) (h2 : Lt2 a b) (h3 : Lt2 a c) (e1 : colB a k b) (e2 : colB a b c) : colB a k c := by
  unfold colB at *
  obtain ⟨p, _⟩ := h1
  obtain ⟨q, _⟩ := h2
  obtain ⟨r, _⟩ := h3
  have hb : b.1 - a.1 ≠ 0 := by omega
  refine Int.eq_of_mul_eq_mul_right hb ?_
  generalize k.2 - a.2 = k2 at *
  generalize k.1 - a.1 = k1 at *
  generalize b.2 - a.2 = b2 at *
  generalize b.1 - a.1 = b1 at *
  generalize c.2 - a.2 = c2 at *
  generalize c.1 - a.1 = c1 at *
  have h4 : k2 * c1 * b1 = b2 * k1 * c1 := by rw [← e1]; grind
  have h5 : c2 * k1 * b1 = b2 * c1 * k1 := by rw [e2]; grind
  rw [h4, h5]; grind
/-- the next knot of a lean rest lies on the line to the next one -/
theorem leanR_head : ∀ (r : List Kn) (a b : Kn), Ris (a :: b :: r) → ∃ x t, leanR a (b :: r) = x :: t ∧ colB a b x ∧ Lt2 a x
  | [], a, b, hu => ⟨b, [], rfl, by unfold colB; rw [Int.mul_comm], (List.pairwise_cons.1 hu).1 b (by simp)⟩
  | c :: r, a, b, hu => by
    have hu' := List.pairwise_cons.1 hu
    have hab := hu'.1 b (by simp)
    have hac := hu'.1 c (by simp)
    rw [leanR_cons]
    split
    · rename_i hl
      have hu2 : Ris (a :: c :: r) := List.pairwise_cons.2 ⟨fun z hz => hu'.1 z (List.mem_cons_of_mem _ hz), (List.pairwise_cons.1 hu'.2).2⟩
      obtain ⟨x, t, e, h1, h2⟩ := leanR_head r a c hu2
      exact ⟨x, t, e, col_trans hab hac h2 (lineB_iff.1 hl) h1, h2⟩
    · exact ⟨b, _, rfl, by unfold colB; rw [Int.mul_comm], hab⟩
theorem line_next {a k b x : Kn} (h1 : Lt2 a k) (h2 : Lt2 k b) (h3 : Lt2 k x) (hc : colB k b x) (hl : lineB a k b = false) : lineB a k x = false := by
  rw [Bool.eq_false_iff]
  intro h
  rw [lineB_iff] at h
  have hn : ¬ (k.2 - a.2) * (b.1 - a.1) = (b.2 - a.2) * (k.1 - a.1) := fun e => by rw [lineB_iff.2 e] at hl; cases hl
  apply hn
  unfold colB at hc
  obtain ⟨p, _⟩ := h1
  obtain ⟨q, _⟩ := h2
  obtain ⟨r, _⟩ := h3
  have hx : x.1 - k.1 ≠ 0 := by omega
  have e1 : b.1 - a.1 = (b.1 - k.1) + (k.1 - a.1) := by omega
  have e2 : b.2 - a.2 = (b.2 - k.2) + (k.2 - a.2) := by omega
  have e3 : x.1 - a.1 = (x.1 - k.1) + (k.1 - a.1) := by omega
  have e4 : x.2 - a.2 = (x.2 - k.2) + (k.2 - a.2) := by omega
  rw [e3, e4] at h
  rw [e1, e2]
  generalize k.2 - a.2 = k2 at *
  generalize k.1 - a.1 = k1 at *
  generalize b.2 - k.2 = b2 at *
  generalize b.1 - k.1 = b1 at *
  generalize x.2 - k.2 = x2 at *
  generalize x.1 - k.1 = x1 at *
  have h' : k2 * x1 = x2 * k1 := by grind
  have key : k2 * b1 = b2 * k1 := by
    refine Int.eq_of_mul_eq_mul_right hx ?_
    have t1 : k2 * b1 * x1 = x2 * k1 * b1 := by rw [← h']; grind
    have t2 : b2 * k1 * x1 = x2 * b1 * k1 := by rw [← hc]; grind
    rw [t1, t2]; grind
  grind
theorem leanR_NL : ∀ (r : List Kn) (a : Kn), Ris (a :: r) → NL (a :: leanR a r)
  | [], a, _ => trivial
  | [k], a, _ => trivial
  | k :: b :: r, a, hu => by
    have hu' := List.pairwise_cons.1 hu
    have hak := hu'.1 k (by simp)
    have hkb := (List.pairwise_cons.1 hu'.2).1 b (by simp)
    rw [leanR_cons]
    split
    · have hu2 : Ris (a :: b :: r) := List.pairwise_cons.2 ⟨fun z hz => hu'.1 z (List.mem_cons_of_mem _ hz), (List.pairwise_cons.1 hu'.2).2⟩
      exact leanR_NL (b :: r) a hu2
    · rename_i hl
      have ih := leanR_NL (b :: r) k hu'.2
      obtain ⟨x, t, e, h1, h2⟩ := leanR_head r k b hu'.2
      rw [e] at ih ⊢
      exact ⟨line_next hak hkb h2 h1 (by simpa using hl), ih⟩
theorem leanF_NL {c : List Kn} (h : curB c = true) : NL (leanF c) := by
  have h1 := cur_Up h
  cases c with
  | nil => trivial
  | cons a r => exact leanR_NL r a h1
theorem lean_of_NL : ∀ (r : List Kn) (a : Kn), NL (a :: r) → leanR a r = r
  | [], a, _ => rfl
  | [k], a, _ => rfl
  | k :: b :: r, a, h => by
    rw [leanR_cons, if_neg (by rw [h.1]; simp), lean_of_NL (b :: r) k h.2]
theorem leanF_leanF {c : List Kn} (h : curB c = true) : leanF (leanF c) = leanF c := by
  have h1 := leanF_NL h
  cases c with
  | nil => rfl
  | cons a r => show a :: leanR a (leanR a r) = a :: leanR a r; rw [lean_of_NL _ _ h1]
theorem NL_at : ∀ {c : List Kn} {i : Nat}, NL c → i + 2 < c.length → lineB (c.getD i (0, 0)) (c.getD (i + 1) (0, 0)) (c.getD (i + 2) (0, 0)) = false
  | [], i, _, h => by simp at h
  | [a], i, _, h => by simp at h
  | [a, b], i, _, h => by simp at h; omega
  | a :: k :: b :: r, 0, h, _ => h.1
  | a :: k :: b :: r, i + 1, h, hi => NL_at (c := k :: b :: r) (i := i) h.2 (by simpa using hi)
theorem line_sw (a k b : Kn) : lineB (a.2, a.1) (k.2, k.1) (b.2, b.1) = lineB a k b := by
  unfold lineB
  congr 1
  apply propext
  dsimp only
  constructor
  · intro h; rw [Int.mul_comm, ← h, Int.mul_comm]
  · intro h; rw [Int.mul_comm, ← h, Int.mul_comm]
theorem turn_cons (a : Kn) (r : List Kn) : turnL (a :: r) = (a.2, a.1) :: turnL r := rfl
theorem leanR_turn : ∀ (r : List Kn) (a : Kn), leanR (a.2, a.1) (turnL r) = turnL (leanR a r)
  | [], a => rfl
  | [k], a => rfl
  | k :: b :: r, a => by
    rw [turn_cons, turn_cons, leanR_cons, leanR_cons, line_sw, ← turn_cons]
    split
    · exact leanR_turn (b :: r) a
    · rw [turn_cons k, ← leanR_turn (b :: r) k]
theorem leanF_turn (c : List Kn) : leanF (turnL c) = turnL (leanF c) := by
  cases c with
  | nil => rfl
  | cons a r => show (a.2, a.1) :: leanR (a.2, a.1) (turnL r) = (a.2, a.1) :: turnL (leanR a r); rw [leanR_turn]
/-! ## A knot more -/
def insI (c : List Kn) (k : Kn) : Nat := c.countP (fun z => decide (z.1 < k.1))
def insK (c : List Kn) (k : Kn) : List Kn := c.take (insI c k) ++ k :: c.drop (insI c k)
def addO (c : List Kn) (k : Kn) : Bool := curB c && curB (insK c k)
def addK (c : List Kn) (k : Kn) : List Kn := if addO c k = true then insK c k else []
theorem insI_le (c : List Kn) (k : Kn) : insI c k ≤ c.length := List.countP_le_length
theorem insK_len (c : List Kn) (k : Kn) : (insK c k).length = c.length + 1 := by
  have := insI_le c k
  simp [insK]; omega
theorem countP_app {l r : List Kn} {p : Kn → Bool} (h1 : ∀ z ∈ l, p z = true) (h2 : ∀ z ∈ r, p z = false) : (l ++ r).countP p = l.length := by
  rw [List.countP_append, List.countP_eq_length.2 h1, List.countP_eq_zero.2 (fun z hz => by rw [h2 z hz]; simp)]
  rfl
/-- wherever a knot can be, it is put -/
theorem ins_at {l r : List Kn} {k : Kn} (h : Ris (l ++ k :: r)) : insI (l ++ r) k = l.length := by
  obtain ⟨h1, h2, h3⟩ := List.pairwise_append.1 h
  refine countP_app (fun z hz => ?_) (fun z hz => ?_)
  · have := (h3 z hz k (by simp)).1; simpa using this
  · have := ((List.pairwise_cons.1 h2).1 z hz).1
    simp; omega
theorem insK_at {l r : List Kn} {k : Kn} (h : Ris (l ++ k :: r)) : insK (l ++ r) k = l ++ k :: r := by
  unfold insK
  rw [ins_at h, List.take_left, List.drop_left]
theorem insK_turn {c : List Kn} {k : Kn} (h : Ris (insK c k)) : insK (turnL c) (k.2, k.1) = turnL (insK c k) := by
  have e : turnL (insK c k) = turnL (c.take (insI c k)) ++ (k.2, k.1) :: turnL (c.drop (insI c k)) := by unfold insK turnL; simp
  have e2 : turnL c = turnL (c.take (insI c k)) ++ turnL (c.drop (insI c k)) := by
    unfold turnL
    rw [← List.map_append, List.take_append_drop]
  have hu := up_turn h
  rw [e] at hu ⊢
  rw [e2]
  exact insK_at hu
theorem addO_iff {c : List Kn} {k : Kn} : addO c k = true ↔ curB c = true ∧ curB (insK c k) = true := by simp [addO]
theorem addO_turn {c : List Kn} {k : Kn} (h : addO c k = true) : addO (turnL c) (k.2, k.1) = true ∧ addK (turnL c) (k.2, k.1) = turnL (addK c k) := by
  obtain ⟨h1, h2⟩ := addO_iff.1 h
  have e := insK_turn (cur_Up h2)
  have h3 : addO (turnL c) (k.2, k.1) = true := addO_iff.2 ⟨turn_cur h1, by rw [e]; exact turn_cur h2⟩
  refine ⟨h3, ?_⟩
  unfold addK
  rw [if_pos h3, if_pos h, e]
theorem addL_eq {c : List Kn} {k : Kn} (h : addO c k = true) : addK c k = insK c k := if_pos h
theorem addO_twice {c : List Kn} {k : Kn} (h : addO c k = true) : addO (addK c k) k = false := by
  obtain ⟨h1, h2⟩ := addO_iff.1 h
  rw [addL_eq h, Bool.eq_false_iff]
  intro h3
  obtain ⟨_, h4⟩ := addO_iff.1 h3
  have hu := cur_Up h4
  have hk : k ∈ insK c k := by simp [insK]
  unfold insK at hu hk
  generalize c.take (insI c k) ++ k :: c.drop (insI c k) = m at hu hk
  rw [← List.take_append_drop (insI m k) m] at hk
  obtain ⟨p1, p2, p3⟩ := List.pairwise_append.1 hu
  rcases List.mem_append.1 hk with hk | hk
  · have := (p3 k hk k (by simp)).1; omega
  · have := ((List.pairwise_cons.1 p2).1 k hk).1; omega
theorem ins_filter {c : List Kn} {k : Kn} (h : Ris (insK c k)) : (insK c k).filter (fun z => decide (z ≠ k)) = c := by
  unfold insK at h ⊢
  obtain ⟨p1, p2, p3⟩ := List.pairwise_append.1 h
  rw [List.filter_append, List.filter_cons_of_neg (by simp), ← List.filter_append, List.take_append_drop]
  rw [List.filter_eq_self]
  intro z hz
  rw [← List.take_append_drop (insI c k) c] at hz
  rw [decide_eq_true_eq]
  rintro rfl
  rcases List.mem_append.1 hz with hz | hz
  · have := (p3 z hz z (by simp)).1; omega
  · have := ((List.pairwise_cons.1 p2).1 z hz).1; omega
/-- a knot on the curve changes no value -/
theorem on_ins : ∀ (l : List Kn) {r : List Kn} {k : Kn}, Ris (l ++ k :: r) → Ris (l ++ r) → OnL (l ++ r) k.1 k.2 → ∀ {x y : Rat}, OnL (l ++ r) x y → OnL (l ++ k :: r) x y
  | [], r, k, hu, hc, hk, x, y, h => by
    cases r with
    | nil => exact hk.elim
    | cons b r =>
      have h1 := (onL_lo hc hk).1
      have := lt2_q ((List.pairwise_cons.1 hu).1 b (by simp))
      grind
  | [a], r, k, hu, hc, hk, x, y, h => by
    cases r with
    | nil => exact hk.elim
    | cons b r =>
      have hu' := List.pairwise_cons.1 hu
      have hak := hu'.1 k (by simp)
      have hkb := (List.pairwise_cons.1 hu'.2).1 b (by simp)
      have hs : OnS a b k.1 k.2 := by
        rcases hk with hk | hk
        · exact hk
        · have := (onL_lo (List.pairwise_cons.1 hc).2 hk).1
          have := lt2_q hkb
          grind
      rcases h with h | h
      · rcases (onS_split hak hkb hs).1 h with h | h
        · exact .inl h
        · exact .inr (.inl h)
      · exact .inr (.inr h)
  | a :: b :: l, r, k, hu, hc, hk, x, y, h => by
    have hu' := List.pairwise_cons.1 hu
    have hc' := List.pairwise_cons.1 hc
    have hbk : Lt2 b k := (List.pairwise_cons.1 hu'.2).1 k (by simp)
    have hk' : OnL ((b :: l) ++ r) k.1 k.2 := by
      rcases hk with hk | hk
      · have := hk.2.1
        have := lt2_q hbk
        grind
      · exact hk
    rcases h with h | h
    · exact .inl h
    · exact .inr (on_ins (b :: l) hu'.2 hc'.2 hk' h)
theorem ins_on {c : List Kn} {k : Kn} (h : addO c k = true) (hk : OnL c k.1 k.2) {x y : Rat} (hx : OnL c x y) : OnL (insK c k) x y := by
  obtain ⟨h1, h2⟩ := addO_iff.1 h
  have h3 := cur_Up h2
  have h4 := cur_Up h1
  unfold insK at h3 ⊢
  rw [← List.take_append_drop (insI c k) c] at hk hx h4
  exact on_ins _ h3 h4 hk hx
/-- a knot in the middle of the first part is left out of the lean curve -/
theorem lean_mid {a b k : Kn} {r : List Kn} (h : Ris (a :: k :: b :: r)) (hl : lineB a k b = true) : leanF (a :: k :: b :: r) = leanF (a :: b :: r) := by
  show a :: leanR a (k :: b :: r) = a :: leanR a (b :: r)
  rw [leanR_cons, if_pos hl]
/-! ## Parts of curves -/
theorem cur_take {c : List Kn} (h : curB c = true) {k : Nat} (h1 : 2 ≤ k) (h2 : k ≤ c.length) : curB (c.take k) = true := by
  obtain ⟨p1, p2, p3, p4⟩ := curB_iff'.1 h
  have hs := List.take_sublist k c
  exact curB_iff'.2 ⟨p1.sublist hs, fun z hz => p2 z (hs.subset hz), by simp; omega, by simp; omega⟩
theorem cur_short {c : List Kn} (h : c.length < 2) : curB c = false := by
  rw [Bool.eq_false_iff]
  intro h1
  have := cur_len h1
  omega
theorem cur_rev {c : List Kn} (h : curB c = true) : curB c.reverse = false := by
  rw [Bool.eq_false_iff]
  intro h1
  have hl := cur_len h
  have u1 := cur_up h (i := 0) (j := c.length - 1) (by omega) (by omega)
  have u2 := cur_up h1 (i := 0) (j := c.length - 1) (by omega) (by simp; omega)
  have e1 : kx c.reverse 0 = kx c (c.length - 1) := by
    rw [kx_of _ (by simp; omega), kx_of _ (by omega), List.getElem_reverse]; simp
  have e2 : kx c.reverse (c.length - 1) = kx c 0 := by
    rw [kx_of _ (by simp; omega), kx_of _ (by omega), List.getElem_reverse]
    congr 2; omega
  omega
theorem cur_twice {a : Kn} {r : List Kn} : curB (a :: a :: r) = false := by
  rw [Bool.eq_false_iff]
  intro h
  have := ((List.pairwise_cons.1 (cur_Up h)).1 a (by simp)).1
  omega
end Go.Proofs.Ytidcomcnieggaaa
