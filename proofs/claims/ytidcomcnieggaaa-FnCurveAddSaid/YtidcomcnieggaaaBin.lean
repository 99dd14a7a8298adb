/-
  slices.Clone and slices.BinarySearchFunc at pairs, as the program calls them.
-/
import Derived.Test.YtidcomcnieggaaaDenF
import Derived.Test.YtidcomcnieggaaaCurD
namespace Go.Proofs.Ytidcomcnieggaaa
open Go.RowKit
set_option linter.unusedVariables false
set_option linter.unusedSimpArgs false
def gCloneKnot : List AD → Option RD
  | [.sl .i64 2 n l] => if n ≤ 1000000 then some (.one (.row 25 2 n l)) else none
  | _ => none
theorem gCloneKnot_eq {n : Nat} {l : List Int} (h : n ≤ 1000000) : gCloneKnot [.sl .i64 2 n l] = some (.one (.row 25 2 n l)) := if_pos h
theorem cloneKnot_d : DFun Try.prog 43 gCloneKnot := by
  have hE : EnvOK Try.prog [] := EnvOK.nil
  refine DFun.of tauOK (fn := Try.f43) Try.func43 rfl (by kernel_rfl) rfl rfl ?_
  intro C ds r hg hl
  unfold gCloneKnot at hg
  split at hg
  case h_2 => cases hg
  rename_i n l
  split at hg
  case isFalse => cases hg
  rename_i hsm
  cases hg
  refine ⟨by simp, ?_⟩
  obtain ⟨hn, hm, _⟩ := hl
  obtain ⟨c, rfl, rfl⟩ := flat_ex hn
  clear hn
  refine DW.seq ?_
  refine DW.region ?_
  refine DL.go0 tauOK hE rfl (GStep.assign rfl) rfl rfl ?_
  refine DL.nil ?_
  refine DW.sub (T' := [(0, _)]) (Sub.cons rfl Sub.nil) (Sub.refl _) ?_
  refine DW.seq ?_
  refine DW.seq ?_
  refine DW.region ?_
  refine DL.go0 tauOK hE rfl (GStep.move rfl) rfl rfl ?_
  refine DL.nilEq tauOK rfl rfl rfl rfl rfl rfl rfl ?_
  intro b hb
  refine DL.nil ?_
  refine DW.sub (T' := [(0, _), (4, _)]) (Sub.cons rfl (Sub.cons rfl Sub.nil)) (Sub.refl _) ?_
  refine DW.cond rfl (fun h1 => ?_) (fun h1 => ?_)
  · skip
    have h0 := hb h1
    obtain rfl : c = [] := List.eq_nil_of_length_eq_zero h0
    refine DW.seq ?_
    refine DW.region ?_
    refine DL.go0 tauOK hE rfl (GStep.assign rfl) rfl rfl ?_
    refine DL.nil ?_
    refine DW.sub (T' := [(2, _)]) (Sub.cons rfl Sub.nil) (Sub.refl _) ?_
    refine DW.ret ?_
    exact RetD.nl rfl (by omega)
  · skip
    refine DW.skip ?_
    have e : List.take (c.length * 2) (List.drop (0 * 2) (flat c)) = flat c := ys_all (flat_len c)
    refine DW.seq ?_
    refine DW.region ?_
    refine DL.go1 tauOK hE rfl (G.bs0p rfl rfl) rfl rfl rfl ?_
    refine DL.go0 tauOK hE rfl (GStep.move rfl) rfl rfl ?_
    refine DL.app tauOK [] rfl rfl rfl rfl rfl rfl rfl rfl rfl (rfl) rfl rfl rfl rfl rfl (by omega) e (Sub.nil) rfl ?_
    refine DL.go0 tauOK hE rfl (GStep.assign rfl) rfl rfl ?_
    refine DL.nil ?_
    refine DW.sub (T' := [(2, _)]) (Sub.cons rfl Sub.nil) (Sub.refl _) ?_
    refine DW.ret ?_
    rw [Nat.zero_add]
    exact RetD.s1 rfl rfl (by simp [flat, flat_len]) (by omega)
def cmpI (a b : Int) : Int := if a < b then -1 else if a > b then 1 else 0
theorem cmpI_neg (a b : Int) : cmpI a b < 0 ↔ a < b := by
  unfold cmpI
  by_cases h : a < b
  · rw [if_pos h]; exact ⟨fun _ => h, fun _ => by decide⟩
  · rw [if_neg h]
    by_cases h2 : a > b
    · rw [if_pos h2]; exact ⟨fun h' => absurd h' (by decide), fun h' => absurd h' h⟩
    · rw [if_neg h2]; exact ⟨fun h' => absurd h' (by decide), fun h' => absurd h' h⟩
def gNaN : List AD → Option RD
  | [.v (.int .i64 _)] => some (.one (.v (.bool false)))
  | _ => none
def gCmp : List AD → Option RD
  | [.v (.int .i64 a), .v (.int .i64 b)] => some (.one (.v (.int .i64 (cmpI a b))))
  | _ => none
def gCmpK : List AD → Option RD
  | [.v (.agg ⟨[.int .i64 a, .int .i64 b]⟩), .v (.int .i64 t)] => some (.one (.v (.int .i64 (cmpI a t))))
  | _ => none
theorem isNaN_d : DFun Try.prog 57 gNaN := by
  have hE : EnvOK Try.prog [] := EnvOK.nil
  refine DFun.of tauOK (fn := Try.f57) Try.func57 rfl (by kernel_rfl) rfl rfl ?_
  intro C ds r hg hl
  unfold gNaN at hg
  split at hg
  case h_2 => cases hg
  rename_i a
  cases hg
  refine ⟨by simp, ?_⟩
  refine DW.seq ?_
  refine DW.region ?_
  refine DL.go0 tauOK hE rfl (GStep.assign rfl) rfl rfl ?_
  refine DL.nil ?_
  refine DW.sub (T' := [(0, _)]) (Sub.cons rfl Sub.nil) (Sub.refl _) ?_
  refine DW.seq ?_
  refine DW.region ?_
  refine DL.go0 tauOK hE rfl (GStep.move rfl) rfl rfl ?_
  refine DL.go0 tauOK hE rfl (GStep.move rfl) rfl rfl ?_
  refine DL.go0 tauOK hE rfl (GStep.binI rfl rfl rfl) rfl rfl ?_
  refine DL.go0 tauOK hE rfl (GStep.assign rfl) rfl rfl ?_
  refine DL.nil ?_
  refine DW.sub (T' := [(2, _)]) (Sub.cons rfl Sub.nil) (Sub.refl _) ?_
  refine DW.ret ?_
  exact RetD.vb rfl (by simp)
theorem compare_d : DFun Try.prog 41 gCmp := by
  have hE : EnvOK Try.prog [(57, gNaN)] := EnvOK.cons isNaN_d EnvOK.nil
  refine DFun.of tauOK (fn := Try.f41) Try.func41 rfl (by kernel_rfl) rfl rfl ?_
  intro C ds r hg hl
  unfold gCmp at hg
  split at hg
  case h_2 => cases hg
  rename_i a b
  cases hg
  refine ⟨by simp, ?_⟩
  unfold cmpI
  refine DW.seq ?_
  refine DW.region ?_
  refine DL.go0 tauOK hE rfl (GStep.assign rfl) rfl rfl ?_
  refine DL.nil ?_
  refine DW.sub (T' := [(0, _), (1, _)]) (Sub.cons rfl (Sub.cons rfl Sub.nil)) (Sub.refl _) ?_
  refine DW.seq ?_
  refine DW.region ?_
  refine DL.go0 tauOK hE rfl (GStep.move rfl) rfl rfl ?_
  refine DL.go0 tauOK hE rfl (G.call (v := .val _) (news := []) rfl (All2.cons (ArgOf.v rfl) All2.nil) (rfl) rfl rfl) rfl rfl ?_
  refine DL.go0 tauOK hE rfl (GStep.assign rfl) rfl rfl ?_
  refine DL.nil ?_
  refine DW.sub (T' := [(0, _), (1, _), (5, _)]) (Sub.cons rfl (Sub.cons rfl (Sub.cons rfl Sub.nil))) (Sub.refl _) ?_
  refine DW.seq ?_
  refine DW.region ?_
  refine DL.go0 tauOK hE rfl (GStep.move rfl) rfl rfl ?_
  refine DL.go0 tauOK hE rfl (G.call (v := .val _) (news := []) rfl (All2.cons (ArgOf.v rfl) All2.nil) (rfl) rfl rfl) rfl rfl ?_
  refine DL.go0 tauOK hE rfl (GStep.assign rfl) rfl rfl ?_
  refine DL.nil ?_
  refine DW.sub (T' := [(0, _), (1, _), (5, _), (6, _)]) (Sub.cons rfl (Sub.cons rfl (Sub.cons rfl (Sub.cons rfl Sub.nil)))) (Sub.refl _) ?_
  refine DW.seq ?_
  refine DW.seq ?_
  refine DW.region ?_
  refine DL.go0 tauOK hE rfl (GStep.move rfl) rfl rfl ?_
  refine DL.nil ?_
  refine DW.sub (T' := [(0, _), (1, _), (6, _), (11, _)]) (Sub.cons rfl (Sub.cons rfl (Sub.cons rfl (Sub.cons rfl Sub.nil)))) (Sub.refl _) ?_
  refine DW.condF rfl ?_
  refine DW.skip ?_
  refine DW.seq ?_
  refine DW.seq ?_
  refine DW.region ?_
  refine DL.go0 tauOK hE rfl (GStep.move rfl) rfl rfl ?_
  refine DL.nil ?_
  refine DW.sub (T' := [(0, _), (1, _), (13, _)]) (Sub.cons rfl (Sub.cons rfl (Sub.cons rfl Sub.nil))) (Sub.refl _) ?_
  refine DW.condF rfl ?_
  refine DW.skip ?_
  refine DW.seq ?_
  refine DW.seq ?_
  refine DW.region ?_
  refine DL.go0 tauOK hE rfl (GStep.move rfl) rfl rfl ?_
  refine DL.go0 tauOK hE rfl (GStep.move rfl) rfl rfl ?_
  refine DL.go0 tauOK hE rfl (GStep.binI rfl rfl rfl) rfl rfl ?_
  refine DL.nil ?_
  refine DW.sub (T' := [(0, _), (1, _), (16, _)]) (Sub.cons rfl (Sub.cons rfl (Sub.cons rfl Sub.nil))) (Sub.refl _) ?_
  refine DW.cond rfl (fun h1 => ?_) (fun h1 => ?_)
  · skip
    rw [if_pos (by simpa using h1)]
    refine DW.seq ?_
    refine DW.region ?_
    refine DL.go0 tauOK hE rfl (GStep.assign rfl) rfl rfl ?_
    refine DL.nil ?_
    refine DW.sub (T' := [(4, _)]) (Sub.cons rfl Sub.nil) (Sub.refl _) ?_
    refine DW.ret ?_
    exact RetD.v1 rfl rfl
  · skip
    rw [if_neg (by simpa using h1)]
    refine DW.skip ?_
    refine DW.seq ?_
    refine DW.seq ?_
    refine DW.region ?_
    refine DL.go0 tauOK hE rfl (GStep.move rfl) rfl rfl ?_
    refine DL.go0 tauOK hE rfl (GStep.move rfl) rfl rfl ?_
    refine DL.go0 tauOK hE rfl (GStep.binI rfl rfl rfl) rfl rfl ?_
    refine DL.nil ?_
    refine DW.sub (T' := [(19, _)]) (Sub.cons rfl Sub.nil) (Sub.refl _) ?_
    refine DW.cond rfl (fun h2 => ?_) (fun h2 => ?_)
    · skip
      rw [if_pos (by simpa using h2)]
      refine DW.seq ?_
      refine DW.region ?_
      refine DL.go0 tauOK hE rfl (GStep.assign rfl) rfl rfl ?_
      refine DL.nil ?_
      refine DW.sub (T' := [(4, _)]) (Sub.cons rfl Sub.nil) (Sub.refl _) ?_
      refine DW.ret ?_
      exact RetD.v1 rfl rfl
    · skip
      rw [if_neg (by simpa using h2)]
      refine DW.skip ?_
      refine DW.seq ?_
      refine DW.region ?_
      refine DL.go0 tauOK hE rfl (GStep.assign rfl) rfl rfl ?_
      refine DL.nil ?_
      refine DW.sub (T' := [(4, _)]) (Sub.cons rfl Sub.nil) (Sub.refl _) ?_
      refine DW.ret ?_
      exact RetD.v1 rfl rfl
theorem curveAdd1_d : DFun Try.prog 40 gCmpK := by
  have hE : EnvOK Try.prog [(41, gCmp)] := EnvOK.cons compare_d EnvOK.nil
  refine DFun.of tauOK (fn := Try.f40) Try.func40 rfl (by kernel_rfl) rfl rfl ?_
  intro C ds r hg hl
  unfold gCmpK at hg
  split at hg
  case h_2 => cases hg
  rename_i a b t
  cases hg
  refine ⟨by simp, ?_⟩
  refine DW.seq ?_
  refine DW.region ?_
  refine DL.go1 tauOK hE rfl (GStep.box2 rfl) rfl rfl rfl ?_
  refine DL.go0 tauOK hE rfl (GStep.assign rfl) rfl rfl ?_
  refine DL.nil ?_
  refine DW.sub (T' := [(1, _), (2, _)]) (Sub.cons rfl (Sub.cons rfl Sub.nil)) (Sub.refl _) ?_
  refine DW.seq ?_
  refine DW.region ?_
  refine DL.go0 tauOK hE rfl (G.fa rfl rfl rfl (by decide)) rfl rfl ?_
  refine DL.go0 tauOK hE rfl (G.lbf0 rfl rfl rfl) rfl rfl ?_
  refine DL.go0 tauOK hE rfl (GStep.move rfl) rfl rfl ?_
  refine DL.go0 tauOK hE rfl (G.call (v := .val _) (news := []) rfl (All2.cons (ArgOf.v rfl) (All2.cons (ArgOf.v rfl) All2.nil)) (rfl) rfl rfl) rfl rfl ?_
  refine DL.go0 tauOK hE rfl (GStep.assign rfl) rfl rfl ?_
  refine DL.nil ?_
  refine DW.sub (T' := [(4, _)]) (Sub.cons rfl Sub.nil) (Sub.refl _) ?_
  refine DW.ret ?_
  exact RetD.v1 rfl rfl
def insX (c : List Kn) (x : Int) : Nat := c.countP (fun z => decide (z.1 < x))
theorem insI_X (c : List Kn) (k : Kn) : insI c k = insX c k.1 := rfl
theorem insX_of {c : List Kn} {x : Int} {i : Nat} (hi : i ≤ c.length) (h1 : ∀ t, t < i → kx c t < x) (h2 : ∀ t, i ≤ t → t < c.length → x ≤ kx c t) : insX c x = i := by
  unfold insX
  conv => lhs; rw [← List.take_append_drop i c]
  rw [List.countP_append, List.countP_eq_length.2, List.countP_eq_zero.2]
  · simp; omega
  · intro z hz
    obtain ⟨j, hj, rfl⟩ := List.getElem_of_mem hz
    have hj' : i + j < c.length := by simp at hj; omega
    have := h2 (i + j) (by omega) hj'
    rw [kx_of c hj'] at this
    simp only [List.getElem_drop, decide_eq_true_eq]
    omega
  · intro z hz
    obtain ⟨j, hj, rfl⟩ := List.getElem_of_mem hz
    have hj' : j < i ∧ j < c.length := by simp at hj; omega
    have := h1 j hj'.1
    rw [kx_of c hj'.2] at this
    simp only [List.getElem_take, decide_eq_true_eq]
    exact this
def foundB (c : List Kn) (x : Int) : Bool := if insX c x < c.length then (cmpI (c.getD (insX c x) (0, 0)).1 x == 0) else false
def gBS : List AD → Option RD
  | [.sl .i64 2 _ l, .v (.int .i64 x), .v (.func (.func f) ⟨[]⟩ ⟨[]⟩)] => if f = 40 ∧ curB (unflat l) = true then some (.tup [.v (.int .i64 (insX (unflat l) x : Nat)), .v (.bool (foundB (unflat l) x))]) else none
  | _ => none
theorem gBS_flat {n : Nat} {c : List Kn} {x : Int} (h : curB c = true) : gBS [.sl .i64 2 n (flat c), .v (.int .i64 x), .v (.func (.func 40) #[] #[])] = some (.tup [.v (.int .i64 (insX c x : Nat)), .v (.bool (foundB c x))]) := by
  show (if _ then _ else _) = _
  rw [unflat_flat, if_pos ⟨rfl, h⟩]
theorem up_le {c : List Kn} (h : curB c = true) {i j : Nat} (hij : i ≤ j) (hj : j < c.length) : kx c i ≤ kx c j := by
  by_cases e : i = j
  · subst e; exact Int.le_refl _
  · have := (cur_up h (show i < j by omega) hj).1; omega
theorem bsearch_d : DFun Try.prog 39 gBS := by
  have hE : EnvOK Try.prog [(40, gCmpK)] := EnvOK.cons curveAdd1_d EnvOK.nil
  refine DFun.of tauOK (fn := Try.f39) Try.func39 rfl (by kernel_rfl) rfl rfl ?_
  intro C ds r hg hl
  unfold gBS at hg
  split at hg
  case h_2 => cases hg
  rename_i n l x f
  split at hg
  case isFalse => cases hg
  rename_i hcond
  obtain ⟨rfl, hc⟩ := hcond
  cases hg
  refine ⟨by simp, ?_⟩
  obtain ⟨hn, hm, _⟩ := hl
  obtain ⟨c, rfl, rfl⟩ := flat_ex hn
  clear hn
  rw [unflat_flat] at hc ⊢
  have hcl := cur_len hc
  refine DW.seq ?_
  refine DW.region ?_
  refine DL.go0 tauOK hE rfl (GStep.assign rfl) rfl rfl ?_
  refine DL.go0 tauOK hE rfl (GStep.assign rfl) rfl rfl ?_
  refine DL.nil ?_
  refine DW.sub (T' := [(0, _), (1, _), (2, _)]) (Sub.cons rfl (Sub.cons rfl (Sub.cons rfl Sub.nil))) (Sub.refl _) ?_
  refine DW.seq ?_
  refine DW.region ?_
  refine DL.go0 tauOK hE rfl (GStep.move rfl) rfl rfl ?_
  first | refine DL.go0 tauOK hE rfl (GStep.len rfl rfl rfl) rfl rfl ?_ | refine DL.go0 tauOK hE rfl (GStep.lenNil rfl rfl) rfl rfl ?_
  refine DL.go0 tauOK hE rfl (GStep.assign rfl) rfl rfl ?_
  refine DL.nil ?_
  refine DW.sub (T' := [(0, _), (1, _), (2, _), (8, _)]) (Sub.cons rfl (Sub.cons rfl (Sub.cons rfl (Sub.cons rfl Sub.nil)))) (Sub.refl _) ?_
  refine DW.seq ?_
  refine DW.region ?_
  refine DL.go0 tauOK hE rfl (GStep.move rfl) rfl rfl ?_
  refine DL.go0 tauOK hE rfl (GStep.assign rfl) rfl rfl ?_
  refine DL.go0 tauOK hE rfl (GStep.assign rfl) rfl rfl ?_
  refine DL.nil ?_
  refine DW.sub (T' := [(0, _), (1, _), (2, _), (8, _), (9, _), (10, _)]) (Sub.cons rfl (Sub.cons rfl (Sub.cons rfl (Sub.cons rfl (Sub.cons rfl (Sub.cons rfl Sub.nil)))))) (Sub.refl _) ?_
  refine DW.seq ?_
  refine DW.block ?_
  refine DW.loop (α := Nat × Nat) (fun (i, j) => [(0, .sl 0 0 c.length), (1, .val (.int .i64 x)), (2, .val (.func (.func 40) #[] #[])), (8, .val (.int .i64 c.length)), (9, .val (.int .i64 (i : Nat))), (10, .val (.int .i64 (j : Nat)))]) (fun (i, j) => [(0, .ro .i64 2 (flat c))]) (fun (i, j) => i ≤ j ∧ j ≤ c.length ∧ (∀ t, t < i → kx c t < x) ∧ (∀ t, j ≤ t → t < c.length → x ≤ kx c t)) (fun (i, j) => j - i) (0, c.length) (⟨by omega, by omega, fun t ht => by omega, fun t h1 h2 => by omega⟩) (Sub.cons rfl (Sub.cons rfl (Sub.cons rfl (Sub.cons rfl (Sub.cons rfl (Sub.cons rfl Sub.nil)))))) (Sub.cons rfl Sub.nil) ?_
  rintro ⟨i, j⟩ ⟨hij, hj, hlo, hhi⟩
  skip
  dsimp only at hij hj hlo hhi ⊢
  refine DW.seq ?_
  refine DW.seq ?_
  refine DW.region ?_
  refine DL.go0 tauOK hE rfl (GStep.move rfl) rfl rfl ?_
  refine DL.go0 tauOK hE rfl (GStep.move rfl) rfl rfl ?_
  refine DL.go0 tauOK hE rfl (GStep.binI rfl rfl rfl) rfl rfl ?_
  refine DL.nil ?_
  refine DW.sub (T' := [(0, _), (1, _), (2, _), (8, _), (9, _), (10, _), (17, _)]) (Sub.cons rfl (Sub.cons rfl (Sub.cons rfl (Sub.cons rfl (Sub.cons rfl (Sub.cons rfl (Sub.cons rfl Sub.nil))))))) (Sub.refl _) ?_
  refine DW.cond rfl (fun hlt => ?_) (fun hlt => ?_)
  · skip
    have hlt : i < j := by simpa using hlt
    obtain ⟨m, hm⟩ : ∃ m, m = (i + j) / 2 := ⟨_, rfl⟩
    have hm1 : i ≤ m ∧ m < j := by omega
    have hmc : m < c.length := by omega
    have ht : kx c m = (c.getD m (0, 0)).1 := rfl
    refine DW.skip ?_
    refine DW.block ?_
    refine DW.seq ?_
    refine DW.region ?_
    refine DL.go0 tauOK hE rfl (GStep.move rfl) rfl rfl ?_
    refine DL.go0 tauOK hE rfl (GStep.move rfl) rfl rfl ?_
    first | refine DL.go0 tauOK hE rfl (G.add rfl rfl (by omega)) rfl rfl ?_ | refine DL.go0 tauOK hE rfl (GStep.binI rfl rfl rfl) rfl rfl ?_
    refine DL.raw (v := .int .u64 ((i : Int) + (j : Int))) rfl rfl rfl (fun a w hx => conv_raw rfl Try.underlying3 (show Try.prog.underlying 74 = some (.int .u64) from by kernel_rfl) (hx _ _ rfl) (by rw [IntKind.wrap_u64]; omega)) ?_
    refine DL.raw (v := .int .u64 (((i : Int) + (j : Int)) / 2)) rfl rfl rfl (fun a w hx => half_raw rfl (hx _ _ rfl) rfl (by omega) (by omega)) ?_
    refine DL.raw (v := .int .i64 (m : Nat)) rfl rfl rfl (fun a w hx => conv_raw rfl (show Try.prog.underlying 74 = some (.int .u64) from by kernel_rfl) Try.underlying3 (hx _ _ rfl) (by rw [IntKind.wrap_i64]; omega)) ?_
    refine DL.go0 tauOK hE rfl (GStep.assign rfl) rfl rfl ?_
    refine DL.nil ?_
    refine DW.sub (T' := [(0, _), (1, _), (2, _), (8, _), (9, _), (10, _), (11, _)]) (Sub.cons rfl (Sub.cons rfl (Sub.cons rfl (Sub.cons rfl (Sub.cons rfl (Sub.cons rfl (Sub.cons rfl Sub.nil))))))) (Sub.refl _) ?_
    refine DW.seq ?_
    refine DW.region ?_
    refine DL.go0 tauOK hE rfl (GStep.move rfl) rfl rfl ?_
    refine DL.go0 tauOK hE rfl (GStep.move rfl) rfl rfl ?_
    refine DL.go0 tauOK hE rfl (GStep.move rfl) rfl rfl ?_
    refine DL.go0 tauOK hE rfl (G.ia2 (i := m) rfl rfl rfl rfl rfl rfl (by omega) (by omega)) rfl rfl ?_
    first | refine DL.go0 tauOK hE rfl (G.le2r rfl rfl rfl (by omega)) rfl rfl ?_ | refine DL.go0 tauOK hE rfl (G.le2w rfl rfl rfl (by omega)) rfl rfl ?_
    refine DL.go0 tauOK hE rfl (GStep.move rfl) rfl rfl ?_
    refine DL.swapF rfl rfl ?_
    refine DL.go0 tauOK hE rfl (G.call (v := .val _) (news := []) rfl (All2.cons (ArgOf.v rfl) (All2.cons (ArgOf.v rfl) All2.nil)) (rfl) rfl rfl) rfl rfl ?_
    refine DL.go0 tauOK hE rfl (GStep.binI rfl rfl rfl) rfl rfl ?_
    refine DL.nil ?_
    refine DW.sub (T' := [(0, _), (1, _), (2, _), (8, _), (9, _), (10, _), (11, _), (31, _)]) (Sub.cons rfl (Sub.cons rfl (Sub.cons rfl (Sub.cons rfl (Sub.cons rfl (Sub.cons rfl (Sub.cons rfl (Sub.cons rfl Sub.nil)))))))) (Sub.refl _) ?_
    refine DW.cond rfl (fun h1 => ?_) (fun h1 => ?_)
    · skip
      have h1 : (c.getD m (0, 0)).1 < x := by
        rw [decide_eq_true_eq, cmpI_neg] at h1
        exact h1
      refine DW.region ?_
      refine DL.go0 tauOK hE rfl (GStep.move rfl) rfl rfl ?_
      first | refine DL.go0 tauOK hE rfl (G.add rfl rfl (by omega)) rfl rfl ?_ | refine DL.go0 tauOK hE rfl (GStep.binI rfl rfl rfl) rfl rfl ?_
      refine DL.go0 tauOK hE rfl (GStep.assign rfl) rfl rfl ?_
      refine DL.nil ?_
      refine ⟨(m + 1, j), ⟨by omega, hj, fun t h => by have := up_le hc (show t ≤ m by omega) hmc; omega, hhi⟩, by first | omega | (dsimp only; omega), ?_, ?_⟩
      · exact Sub.cons rfl (Sub.cons rfl (Sub.cons rfl (Sub.cons rfl (Sub.cons rfl (Sub.cons rfl Sub.nil)))))
      · exact Sub.cons rfl Sub.nil
    · skip
      have h1 : x ≤ (c.getD m (0, 0)).1 := by
        rw [decide_eq_false_iff_not, cmpI_neg] at h1
        omega
      refine DW.region ?_
      refine DL.go0 tauOK hE rfl (GStep.move rfl) rfl rfl ?_
      refine DL.go0 tauOK hE rfl (GStep.assign rfl) rfl rfl ?_
      refine DL.nil ?_
      refine ⟨(i, m), ⟨by omega, by omega, hlo, fun t h h' => by have := up_le hc (show m ≤ t by omega) h'; omega⟩, by first | omega | (dsimp only; omega), ?_, ?_⟩
      · exact Sub.cons rfl (Sub.cons rfl (Sub.cons rfl (Sub.cons rfl (Sub.cons rfl (Sub.cons rfl Sub.nil)))))
      · exact Sub.cons rfl Sub.nil
  · skip
    have hlt : i = j := by simp at hlt; omega
    subst hlt
    refine DW.exit ?_
    have hX := insX_of hj hlo hhi
    unfold foundB
    rw [hX]
    by_cases hi : i < c.length
    · skip
      rw [if_pos hi]
      refine DW.seq ?_
      refine DW.region ?_
      refine DL.go0 tauOK hE rfl (GStep.move rfl) rfl rfl ?_
      refine DL.go0 tauOK hE rfl (GStep.move rfl) rfl rfl ?_
      refine DL.go0 tauOK hE rfl (GStep.move rfl) rfl rfl ?_
      refine DL.go0 tauOK hE rfl (G.tr (GStep.binI rfl rfl rfl) (by simpa using hi)) rfl rfl ?_
      refine DL.go0 tauOK hE rfl (GStep.move rfl) rfl rfl ?_
      first | refine DL.skip rfl rfl rfl ?_ | refine DL.go0 tauOK hE rfl (GStep.move rfl) rfl rfl ?_
      first | refine DL.skip rfl rfl rfl ?_ | refine DL.go0 tauOK hE rfl (GStep.move rfl) rfl rfl ?_
      first | refine DL.skip rfl rfl rfl ?_ | refine DL.go0 tauOK hE rfl (GStep.move rfl) rfl rfl ?_
      first | refine DL.skip rfl rfl rfl ?_ | refine DL.go0 tauOK hE rfl (G.ia2 rfl rfl rfl rfl rfl rfl rfl (by omega)) rfl rfl ?_
      first | refine DL.skip rfl rfl rfl ?_ | refine DL.go0 tauOK hE rfl (G.le2r rfl rfl rfl (by omega)) rfl rfl ?_ | refine DL.go0 tauOK hE rfl (G.le2w rfl rfl rfl (by omega)) rfl rfl ?_
      first | refine DL.skip rfl rfl rfl ?_ | refine DL.go0 tauOK hE rfl (GStep.move rfl) rfl rfl ?_
      refine DL.swapF rfl rfl ?_
      first | refine DL.skip rfl rfl rfl ?_ | refine DL.go0 tauOK hE rfl (G.call (v := .val _) (news := []) rfl (All2.cons (ArgOf.v rfl) (All2.cons (ArgOf.v rfl) All2.nil)) (rfl) rfl rfl) rfl rfl ?_
      first | refine DL.skip rfl rfl rfl ?_ | refine DL.go0 tauOK hE rfl (GStep.binI rfl rfl rfl) rfl rfl ?_
      first | refine DL.go0 tauOK hE rfl (GStep.pickT rfl rfl) rfl rfl ?_ | refine DL.go0 tauOK hE rfl (GStep.pickF rfl rfl) rfl rfl ?_
      refine DL.go0 tauOK hE rfl (GStep.assign rfl) rfl rfl ?_
      refine DL.go0 tauOK hE rfl (GStep.assign rfl) rfl rfl ?_
      refine DL.nil ?_
      refine DW.sub (T' := [(6, _), (7, _)]) (Sub.cons rfl (Sub.cons rfl Sub.nil)) (Sub.refl _) ?_
      refine DW.ret ?_
      exact RetD.vv rfl rfl rfl rfl
    · skip
      rw [if_neg hi]
      refine DW.seq ?_
      refine DW.region ?_
      refine DL.go0 tauOK hE rfl (GStep.move rfl) rfl rfl ?_
      refine DL.go0 tauOK hE rfl (GStep.move rfl) rfl rfl ?_
      refine DL.go0 tauOK hE rfl (GStep.move rfl) rfl rfl ?_
      refine DL.go0 tauOK hE rfl (G.fl (GStep.binI rfl rfl rfl) (by simp; omega)) rfl rfl ?_
      refine DL.go0 tauOK hE rfl (GStep.move rfl) rfl rfl ?_
      first | refine DL.skip rfl rfl rfl ?_ | refine DL.go0 tauOK hE rfl (GStep.move rfl) rfl rfl ?_
      first | refine DL.skip rfl rfl rfl ?_ | refine DL.go0 tauOK hE rfl (GStep.move rfl) rfl rfl ?_
      first | refine DL.skip rfl rfl rfl ?_ | refine DL.go0 tauOK hE rfl (GStep.move rfl) rfl rfl ?_
      first | refine DL.skip rfl rfl rfl ?_ | refine DL.go0 tauOK hE rfl (G.ia2 rfl rfl rfl rfl rfl rfl rfl (by omega)) rfl rfl ?_
      first | refine DL.skip rfl rfl rfl ?_ | refine DL.go0 tauOK hE rfl (G.le2r rfl rfl rfl (by omega)) rfl rfl ?_ | refine DL.go0 tauOK hE rfl (G.le2w rfl rfl rfl (by omega)) rfl rfl ?_
      first | refine DL.skip rfl rfl rfl ?_ | refine DL.go0 tauOK hE rfl (GStep.move rfl) rfl rfl ?_
      first | refine DL.skip rfl rfl rfl ?_ | refine DL.go0 tauOK hE rfl (G.call (v := .val _) (news := []) rfl (All2.cons (ArgOf.v rfl) (All2.cons (ArgOf.v rfl) All2.nil)) (rfl) rfl rfl) rfl rfl ?_
      first | refine DL.skip rfl rfl rfl ?_ | refine DL.go0 tauOK hE rfl (GStep.binI rfl rfl rfl) rfl rfl ?_
      first | refine DL.go0 tauOK hE rfl (GStep.pickT rfl rfl) rfl rfl ?_ | refine DL.go0 tauOK hE rfl (GStep.pickF rfl rfl) rfl rfl ?_
      refine DL.go0 tauOK hE rfl (GStep.assign rfl) rfl rfl ?_
      refine DL.go0 tauOK hE rfl (GStep.assign rfl) rfl rfl ?_
      refine DL.nil ?_
      refine DW.sub (T' := [(6, _), (7, _)]) (Sub.cons rfl (Sub.cons rfl Sub.nil)) (Sub.refl _) ?_
      refine DW.ret ?_
      exact RetD.vv rfl rfl rfl rfl
end Go.Proofs.Ytidcomcnieggaaa
