/-
  The plain machine: an object gets another number.
-/
import Derived.Test.YtionljjdfgeggaaDenB
namespace Go.Proofs.Ytionljjdfgeggaa
open Go.RowKit
set_option linter.unusedVariables false
set_option linter.unusedSimpArgs false
def renN (i j k : Nat) : Nat := bif Nat.beq k i then j else k
def renC (i j : Nat) : TC → TC
  | .v x => .v x
  | .s k n => .s (renN i j k) n
def renD (i j : Nat) : DV → DV
  | .val v => .val v
  | .sl k off n => .sl (renN i j k) off n
  | .ptr k off => .ptr (renN i j k) off
  | .tup l => .tup (l.map (renC i j))
def renT (i j : Nat) : DT → DT
  | [] => []
  | (k, v) :: r => (k, renD i j v) :: renT i j r
def renH (i j : Nat) : DH → DH
  | [] => []
  | (k, o) :: r => bif Nat.beq k i then (j, o) :: renH i j r else bif Nat.beq k j then renH i j r else (k, o) :: renH i j r
theorem beq_t {k i : Nat} (h : k = i) : Nat.beq k i = true := by subst h; exact Nat.beq_refl _
theorem beq_f {k i : Nat} (h : k ≠ i) : Nat.beq k i = false := by
  cases hb : Nat.beq k i
  · rfl
  · exact absurd (Nat.eq_of_beq_eq_true hb) h
theorem renN_i (i j : Nat) : renN i j i = j := by unfold renN; rw [beq_t rfl]; rfl
theorem renN_ne {i j k : Nat} (h : k ≠ i) : renN i j k = k := by unfold renN; rw [beq_f h]; rfl
theorem lk_renT (i j : Nat) : ∀ (T : DT) (t : Nat), lk (renT i j T) t = (lk T t).map (renD i j)
  | [], t => rfl
  | (k, v) :: r, t => by
    rw [renT, lk_cons, lk_cons, lk_renT i j r t]
    split <;> rfl
theorem lk_renH (i j : Nat) : ∀ (H : DH) (t : Nat), lk (renH i j H) t = if t = j then lk H i else if t = i then none else lk H t
  | [], t => by simp [renH, lk]
  | (k, o) :: r, t => by
    have ih := lk_renH i j r t
    unfold renH
    by_cases e : k = i
    · rw [beq_t e, cond_true, lk_cons, ih, lk_cons, lk_cons]
      subst e
      by_cases e2 : t = j
      · subst e2; simp
      · by_cases e3 : t = k
        · subst e3; simp [e2, Ne.symm e2]
        · simp [e2, e3, Ne.symm e2, Ne.symm e3]
    · rw [beq_f e, cond_false]
      by_cases e1 : k = j
      · rw [beq_t e1, cond_true, ih, lk_cons, lk_cons]
        subst e1
        by_cases e2 : t = k
        · subst e2; simp [e]
        · simp [e2, e, Ne.symm e2]
      · rw [beq_f e1, cond_false, lk_cons, ih, lk_cons, lk_cons]
        by_cases e2 : t = j
        · subst e2; simp [e, e1]
        · by_cases e3 : t = i
          · subst e3; simp [e2, e]
          · simp [e2, e3, e]
section
variable {P : Program} {C : Ctx} {N : Nat} {QD : Exit → DT → DH → Prop} {T : DT} {H : DH}
theorem TCRel.ren {ρ : Nat → Loc} {G G' : DG} {i j : Nat} (hG : ∀ t, G' t = if t = j then G i else if t = i then none else G t) {c : TC} {y : Value} (hj : j ∉ c.ids) (h : TCRel ρ G c y) : TCRel (up ρ j (ρ i)) G' (renC i j c) y := by
  cases c with
  | v x => exact h
  | s id n =>
    intro o ho
    have hj : id ≠ j := fun e => hj (by simp [TC.ids, e])
    by_cases e : id = i
    · subst e
      rw [renN_i] at ho ⊢
      rw [hG, if_pos rfl] at ho
      rw [up_same]
      exact h o ho
    · rw [renN_ne e] at ho ⊢
      rw [hG, if_neg hj, if_neg e] at ho
      rw [up_ne _ _ hj]
      exact h o ho
theorem VRel.ren {ρ : Nat → Loc} {G G' : DG} {i j : Nat} (hG : ∀ t, G' t = if t = j then G i else if t = i then none else G t) {d : DV} {y : Value} (hj : j ∉ d.ids) (h : VRel ρ G d y) : VRel (up ρ j (ρ i)) G' (renD i j d) y := by
  cases d with
  | val x => exact h
  | sl id off n =>
    intro o ho
    have hj : id ≠ j := fun e => hj (by simp [DV.ids, e])
    by_cases e : id = i
    · subst e
      rw [renN_i] at ho ⊢
      rw [hG, if_pos rfl] at ho
      rw [up_same]
      exact h o ho
    · rw [renN_ne e] at ho ⊢
      rw [hG, if_neg hj, if_neg e] at ho
      rw [up_ne _ _ hj]
      exact h o ho
  | ptr id off =>
    intro o ho
    have hj : id ≠ j := fun e => hj (by simp [DV.ids, e])
    by_cases e : id = i
    · subst e
      rw [renN_i] at ho
      rw [hG, if_pos rfl] at ho
      rw [renN_i, up_same]
      exact h o ho
    · rw [renN_ne e] at ho
      rw [hG, if_neg hj, if_neg e] at ho
      rw [renN_ne e, up_ne _ _ hj]
      exact h o ho
  | tup l =>
    obtain ⟨vs, e1, e2, e3⟩ := h
    refine ⟨vs, e1, by simpa using e2, fun k c x hc hx => ?_⟩
    rw [List.getElem?_map] at hc
    cases hk : l[k]? with
    | none => rw [hk] at hc; cases hc
    | some c0 =>
      rw [hk] at hc
      injection hc with hc
      subst hc
      refine TCRel.ren hG (fun hid => hj ?_) (e3 k c0 x hk hx)
      simp only [DV.ids, List.mem_flatMap]
      exact ⟨c0, List.mem_of_getElem? hk, hid⟩
theorem HRel.ren {ρ : Nat → Loc} {G G' : DG} {i j : Nat} {w : World} (hG : ∀ t, G' t = if t = j then G i else if t = i then none else G t) (hij : i ≠ j) (h : HRel C G ρ w) : HRel C G' (up ρ j (ρ i)) w := by
  have key : ∀ t o, G' t = some o → ∃ s, G s = some o ∧ up ρ j (ρ i) t = ρ s ∧ ((t = j ∧ s = i) ∨ (t ≠ j ∧ t ≠ i ∧ s = t)) := by
    intro t o ho
    rw [hG] at ho
    by_cases e : t = j
    · subst e; rw [if_pos rfl] at ho; exact ⟨i, ho, up_same _ _ _, .inl ⟨rfl, rfl⟩⟩
    · rw [if_neg e] at ho
      by_cases e2 : t = i
      · rw [if_pos e2] at ho; cases ho
      · rw [if_neg e2] at ho; exact ⟨t, ho, up_ne _ _ e, .inr ⟨e, e2, rfl⟩⟩
  constructor
  · intro t o ho
    obtain ⟨s, h1, h2, _⟩ := key t o ho
    rw [h2]; exact h.obj s o h1
  · intro t o g ho hg
    obtain ⟨s, h1, h2, _⟩ := key t o ho
    rw [h2] at hg; exact h.inn s o g h1 hg
  · intro t t' o o' g hne ho ho' hown hb hf
    obtain ⟨s, h1, h2, h3⟩ := key t o ho
    obtain ⟨s', h1', h2', h3'⟩ := key t' o' ho'
    rw [h2] at hb
    rw [h2'] at hf
    exact h.sep s s' o o' g (by omega) h1 h1' hown hb hf
  · intro t o g ho hown hb
    obtain ⟨s, h1, h2, _⟩ := key t o ho
    rw [h2] at hb; exact h.old s o g h1 hown hb
  · exact h.fr
theorem Sim.ren {a : Act} {w : World} (h : Sim C N T H a w) (i j : Nat) (hij : Nat.beq i j = false) (hT : T.all (fun p => !p.2.ids.elem j) = true) : Sim C N (renT i j T) (renH i j H) a w := by
  obtain ⟨ρ, hs⟩ := h
  have hne : i ≠ j := by rintro rfl; rw [Nat.beq_refl] at hij; cases hij
  have hG := lk_renH i j H
  refine ⟨up ρ j (ρ i), { hs with heap := hs.heap.ren hG hne, tm := ?_ }⟩
  intro k v hk
  rw [lk_renT] at hk
  cases hv : lk T k with
  | none => rw [hv] at hk; cases hk
  | some v0 =>
    rw [hv] at hk
    injection hk with hk
    subst hk
    refine VRel.ren hG ?_ (hs.tm k v0 hv)
    have := List.all_eq_true.1 hT _ (lk_mem hv)
    simpa using this
theorem DW.ren {c : Code} (i j : Nat) (hij : Nat.beq i j = false) (hT : T.all (fun p => !p.2.ids.elem j) = true) (h : DW P C N c QD (renT i j T) (renH i j H)) : DW P C N c QD T H := fun a w hs => h a w (hs.ren i j hij hT)
/-! ## A row of the call's own, its end forgotten -/
def okTr1 (id m : Nat) : DV → Bool
  | .sl i off n => !(Nat.beq i id) || (Nat.beq off 0 && Nat.ble n m)
  | d => !d.ids.elem id
theorem ORel.trunc {w : World} {r : Loc} {e : TypeId} {sz m : Nat} {l : List Int} (hsz : 0 < sz) (h : ORel w r (.row e sz l)) (hm : m * sz ≤ l.length) : ORel w r (.row e sz (l.take (m * sz))) := by
  obtain ⟨n, h1, h2⟩ := h
  have h1 : l.length = n * sz := by simpa using h1
  have hmn : m ≤ n := Nat.le_of_mul_le_mul_right (by omega) hsz
  refine ⟨m, by simp; omega, ?_⟩
  rcases h2 with ⟨e1, e2⟩ | ⟨g, cap, cur, e1, e2, e3, e4, e5, e6, e7⟩
  · subst e2
    obtain rfl : m = 0 := by omega
    exact .inl ⟨e1, rfl⟩
  · injection e1 with e1 _ ec
    refine .inr ⟨g, cap, cur, by rw [e1, ec], e2, e3, by omega, e5, e6, ?_⟩
    rw [List.map_take, ← e7, List.take_take]
    congr 1
    have : m * sz ≤ n * sz := Nat.mul_le_mul_right _ hmn
    omega
theorem Sim.trunc {a : Act} {w : World} (h : Sim C N T H a w) (id m : Nat) {e : TypeId} {sz : Nat} {l : List Int} (hsz : 0 < sz) (hg : lk H id = some (.row e sz l)) (hm : m * sz ≤ l.length) (hT : T.all (fun p => okTr1 id m p.2) = true) : Sim C N T ((id, .row e sz (l.take (m * sz))) :: H) a w := by
  obtain ⟨ρ, hs⟩ := h
  have hG : ∀ t, lk ((id, DO.row e sz (l.take (m * sz))) :: H) t = if id = t then some (.row e sz (l.take (m * sz))) else lk H t := fun t => lk_cons ..
  refine ⟨ρ, { hs with heap := ?_, tm := ?_ }⟩
  · constructor
    · intro t o ho
      rw [hG] at ho
      by_cases e' : id = t
      · subst e'; rw [if_pos rfl] at ho; injection ho with ho; subst ho
        exact (hs.heap.obj id _ hg).trunc hsz hm
      · rw [if_neg e'] at ho; exact hs.heap.obj t o ho
    · intro t o g ho hf
      rw [hG] at ho
      by_cases e' : id = t
      · subst e'; exact hs.heap.inn id _ g hg hf
      · rw [if_neg e'] at ho; exact hs.heap.inn t o g ho hf
    · intro t t' o o' g hne ho ho' hown hb
      rw [hG] at ho ho'
      by_cases e' : id = t
      · subst e'
        rw [if_neg hne] at ho'
        exact hs.heap.sep id t' _ o' g hne hg ho' rfl hb
      · rw [if_neg e'] at ho
        by_cases e2 : id = t'
        · subst e2; exact hs.heap.sep t id o _ g hne ho hg hown hb
        · rw [if_neg e2] at ho'; exact hs.heap.sep t t' o o' g hne ho ho' hown hb
    · intro t o g ho hown hb
      rw [hG] at ho
      by_cases e' : id = t
      · subst e'; exact hs.heap.old id _ g hg rfl hb
      · rw [if_neg e'] at ho; exact hs.heap.old t o g ho hown hb
    · exact hs.heap.fr
  · intro k v hk
    have hv := hs.tm k v hk
    have hok := List.all_eq_true.1 hT _ (lk_mem hk)
    dsimp only at hok
    have other : id ∉ v.ids → VRel ρ (lk ((id, DO.row e sz (l.take (m * sz))) :: H)) v (a.tmps.getD k undef) := fun hid => hv.congr fun t ht => .inr ⟨by rw [hG, if_neg (by rintro rfl; exact hid ht)], rfl⟩
    cases v with
    | sl i off n =>
      by_cases e' : i = id
      · subst e'
        unfold okTr1 at hok
        dsimp only at hok
        rw [beq_t rfl] at hok
        simp only [Bool.not_true, Bool.false_or, Bool.and_eq_true] at hok
        have h0 : off = 0 := Nat.eq_of_beq_eq_true hok.1
        have hn : n ≤ m := Nat.le_of_ble_eq_true hok.2
        subst h0
        intro o ho
        rw [hG, if_pos rfl] at ho
        injection ho with ho
        subst ho
        obtain ⟨A, c, q1, q2, q3, q4, q5, q6, q7⟩ := hv _ hg
        refine ⟨A, c, q1, q2, q3, q4, q5, ?_, q7⟩
        show (0 + n) * sz ≤ (l.take (m * sz)).length
        have : n * sz ≤ m * sz := Nat.mul_le_mul_right _ hn
        rw [List.length_take, Nat.zero_add]
        omega
      · exact other (by simp [DV.ids]; exact fun h => e' h.symm)
    | val x => exact other (by simp [DV.ids])
    | ptr i off =>
      unfold okTr1 at hok
      dsimp only at hok
      exact other (by simpa using hok)
    | tup l' =>
      unfold okTr1 at hok
      dsimp only at hok
      exact other (by simpa using hok)
theorem DW.trunc {c : Code} (id m : Nat) {e : TypeId} {sz : Nat} {l : List Int} (hsz : 0 < sz) (hg : lk H id = some (.row e sz l)) (hm : m * sz ≤ l.length) (hT : T.all (fun p => okTr1 id m p.2) = true) (h : DW P C N c QD T ((id, .row e sz (l.take (m * sz))) :: H)) : DW P C N c QD T H := fun a w hs => h a w (hs.trunc id m hsz hg hm hT)
end
end Go.Proofs.Ytionljjdfgeggaa
