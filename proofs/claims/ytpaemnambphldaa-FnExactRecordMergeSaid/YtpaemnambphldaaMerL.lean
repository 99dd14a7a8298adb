/-
  Plain: a merged record, against the record that it comes from.
-/
import Derived.Test.YtpaemnambphldaaMer
namespace Go.Proofs.Ytpaemnambphldaa
set_option linter.unusedVariables false
def jx (m i : Nat) : Nat := if i ≤ m then i else i + 1
theorem merL_at {l a : List Int} {m i : Nat} (h : merB l a m = true) (hr : recB l a = true) (hm : m + 2 ≤ a.length) (hi : i < l.length - 1) : (merL l a m).getD i 0 = l.getD (jx m i) 0 := by
  have hb := recB_bd hr
  rw [merL_eq h]
  unfold jx
  by_cases c : i ≤ m
  · rw [if_pos c, List.getD_eq_getElem?_getD, List.getElem?_append_left (by simp; omega), List.getElem?_take, if_pos (by omega), ← List.getD_eq_getElem?_getD]
  · rw [if_neg c, List.getD_eq_getElem?_getD, List.getElem?_append_right (by simp; omega), List.getElem?_drop, ← List.getD_eq_getElem?_getD]
    congr 1
    simp; omega
theorem merA_sum {l a : List Int} {m i : Nat} (h : merB l a m = true) (hm : m + 2 ≤ a.length) (hi : i ≤ a.length - 1) : ((merA l a m).take i).sum = (a.take (jx m i)).sum := by
  rw [merA_eq h]
  unfold jx
  by_cases c : i ≤ m
  · rw [if_pos c, List.append_assoc, List.take_append_of_le_length (by simp; omega), List.take_take, Nat.min_eq_left c]
  · rw [if_neg c, List.take_append, List.take_of_length_le (by simp; omega)]
    have e1 : (a.take m ++ [a.getD m 0 + a.getD (m + 1) 0]).length = m + 1 := by simp; omega
    rw [e1]
    have e2 : a.take (i + 1) = a.take (m + 2) ++ (a.drop (m + 2)).take (i - (m + 1)) := by
      rw [show i + 1 = (m + 2) + (i - (m + 1)) from by omega, List.take_add]
    rw [e2, List.sum_append, List.sum_append, List.sum_append, take_sum a (m + 1) (by omega), take_sum a m (by omega)]
    simp
    omega
theorem jx_lt {m i n : Nat} (h : i < n - 1) : jx m i < n := by unfold jx; split <;> omega
theorem jx_mono {m i j : Nat} (h : i < j) : jx m i < jx m j := by unfold jx; split <;> split <;> omega
theorem mer_rec {l a : List Int} {m : Nat} (h : merB l a m = true) (hr : recB l a = true) (hm : m + 2 ≤ a.length) (hs : a.getD m 0 + a.getD (m + 1) 0 ≤ 10000) : recB (merL l a m) (merA l a m) = true := by
  have hb := recB_bd hr
  have hL := merL_len h hr hm
  have hA := merA_len h hm
  obtain ⟨h1, h2, h3⟩ := recB_iff.1 hr
  refine recB_iff.2 ⟨edgesB_iff.2 ⟨?_, by omega, by omega⟩, by omega, ?_⟩
  · intro i hi
    rw [hL] at hi
    rw [merL_at h hr hm hi]
    refine ⟨edges_dep h1 (jx_lt hi), fun h0 => ?_⟩
    rw [merL_at h hr hm (by omega)]
    exact edges_lt h1 (jx_mono (by omega)) (jx_lt hi)
  · intro i hi
    rw [hA] at hi
    rw [merA_eq h]
    have u1 := am_bd hr (show m < a.length by omega)
    have u2 := am_bd hr (show m + 1 < a.length by omega)
    by_cases c : i < m
    · rw [List.append_assoc, List.getD_eq_getElem?_getD, List.getElem?_append_left (by simp; omega), List.getElem?_take, if_pos c, ← List.getD_eq_getElem?_getD]
      exact am_bd hr (by omega)
    · by_cases c2 : i = m
      · subst c2
        have : (a.take i ++ [a.getD i 0 + a.getD (i + 1) 0] ++ a.drop (i + 2)).getD i 0 = a.getD i 0 + a.getD (i + 1) 0 := by
          rw [List.append_assoc, List.getD_eq_getElem?_getD, List.getElem?_append_right (by simp; omega), show i - (a.take i).length = 0 by simp; omega]
          simp
        rw [this]; omega
      · rw [List.getD_eq_getElem?_getD, List.getElem?_append_right (by simp; omega), List.getElem?_drop, ← List.getD_eq_getElem?_getD]
        exact am_bd hr (by simp; omega)
theorem mer_total {l a : List Int} {m : Nat} (h : merB l a m = true) (hr : recB l a = true) (hm : m + 2 ≤ a.length) (hs : a.getD m 0 + a.getD (m + 1) 0 ≤ 10000) : totalI (merL l a m) (merA l a m) = totalI l a := by
  have hA := merA_len h hm
  rw [total_eq hr, total_eq (mer_rec h hr hm hs)]
  have := merA_sum h hm (Nat.le_refl _)
  rw [List.take_of_length_le (by omega), List.take_of_length_le (by unfold jx; split <;> omega)] at this
  exact this
theorem mer_at {l a : List Int} {m i : Nat} (h : merB l a m = true) (hm : m + 2 ≤ a.length) (hi : i < a.length - 1) : (merA l a m).getD i 0 = (a.take (jx m (i + 1))).sum - (a.take (jx m i)).sum := by
  have hA := merA_len h hm
  have := take_sum (merA l a m) i (by omega)
  rw [merA_sum h hm (by omega), merA_sum h hm (by omega)] at this
  omega
theorem mer_bin {l a : List Int} {m i : Nat} (h : merB l a m = true) (hr : recB l a = true) (hm : m + 2 ≤ a.length) (hi : i < a.length - 1) :
    betF l a ((merL l a m).getD i 0) ((merL l a m).getD (i + 1) 0) = some ((merA l a m).getD i 0, 1) := by
  have hb := recB_bd hr
  rw [merL_at h hr hm (by omega), merL_at h hr hm (by omega), mer_at h hm hi]
  exact bet_edges hr (Nat.le_of_lt (jx_mono (by omega))) (jx_lt (by omega))
theorem mer_bet {l a : List Int} {m i : Nat} (h : merB l a m = true) (hr : recB l a = true) (hm : m + 2 ≤ a.length) (hs : a.getD m 0 + a.getD (m + 1) 0 ≤ 10000) (hi : i < l.length - 1) :
    betF l a (l.getD 0 0) ((merL l a m).getD i 0) = some ((a.take (jx m i)).sum, 1) ∧ betF (merL l a m) (merA l a m) (l.getD 0 0) ((merL l a m).getD i 0) = some ((a.take (jx m i)).sum, 1) := by
  have hb := recB_bd hr
  have e0 : (merL l a m).getD 0 0 = l.getD 0 0 := by rw [merL_at h hr hm (by omega)]; rfl
  have hL := merL_len h hr hm
  constructor
  · rw [merL_at h hr hm hi, bet_edges hr (Nat.zero_le _) (jx_lt hi)]
    simp
  · rw [← e0, bet_edges (mer_rec h hr hm hs) (Nat.zero_le _) (by omega), merA_sum h hm (by omega)]
    simp
theorem mer_two {l a : List Int} {m : Nat} (h : merB l a m = true) (hr : recB l a = true) (hm : m + 2 ≤ a.length) (h2 : a.length = 2) : merL l a m = [l.getD 0 0, l.getD 2 0] ∧ merA l a m = [a.getD 0 0 + a.getD 1 0] := by
  have hb := recB_bd hr
  obtain rfl : m = 0 := by omega
  have h3 : l.length = 3 := by omega
  rw [merL_eq h, merA_eq h]
  match l, h3 with
  | [p, q, r], _ =>
    match a, h2 with
    | [x, y], _ => exact ⟨rfl, rfl⟩
end Go.Proofs.Ytpaemnambphldaa
