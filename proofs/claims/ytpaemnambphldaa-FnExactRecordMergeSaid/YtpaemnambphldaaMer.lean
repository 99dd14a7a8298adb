/-
  Merging two neighbouring bins of a record.
-/
import Derived.Test.YtpaemnambphldaaRecE
import Derived.Test.YtpaemnambphldaaDenA
import Derived.Test.YtpaemnambphldaaPureC
namespace Go.Proofs.Ytpaemnambphldaa
open Go.RowKit
set_option linter.unusedVariables false
set_option linter.unusedSimpArgs false

def merB (l a : List Int) (k : Int) : Bool := recB l a && (decide (k ≥ 0) && decide (k ≤ (a.length : Int) - 2)) && !decide (a.getD k.toNat 0 + a.getD (k.toNat + 1) 0 > 10000)
def merL (l a : List Int) (k : Int) : List Int := if merB l a k = true then l.take (k.toNat + 1) ++ l.drop (k.toNat + 2) else []
def merA (l a : List Int) (k : Int) : List Int := if merB l a k = true then a.take k.toNat ++ [a.getD k.toNat 0 + a.getD (k.toNat + 1) 0] ++ a.drop (k.toNat + 2) else []
def gMerge : List AD → Option RD
  | [.sl .i64 1 _ l, .sl .i64 1 _ a, .v (.int .i64 k)] => some (.tup [.row 3 1 (merL l a k).length (merL l a k), .row 3 1 (merA l a k).length (merA l a k), .v (.bool (merB l a k))])
  | _ => none
theorem merB_iff {l a : List Int} {k : Int} (h : merB l a k = true) : ∃ m : Nat, k = m ∧ recB l a = true ∧ m + 2 ≤ a.length ∧ a.getD m 0 + a.getD (m + 1) 0 ≤ 10000 := by
  simp only [merB, Bool.and_eq_true, decide_eq_true_eq, Bool.not_eq_true', decide_eq_false_iff_not] at h
  obtain ⟨⟨h1, h2, h3⟩, h4⟩ := h
  obtain ⟨m, rfl⟩ := Int.eq_ofNat_of_zero_le h2
  refine ⟨m, rfl, h1, by omega, ?_⟩
  rw [Int.toNat_natCast] at h4
  omega
theorem merL_no {l a : List Int} {k : Int} (h : merB l a k = false) : merL l a k = [] := by simp [merL, h]
theorem merA_no {l a : List Int} {k : Int} (h : merB l a k = false) : merA l a k = [] := by simp [merA, h]
theorem merL_eq {l a : List Int} {m : Nat} (h : merB l a m = true) : merL l a m = l.take (m + 1) ++ l.drop (m + 2) := by simp [merL, h]
theorem merA_eq {l a : List Int} {m : Nat} (h : merB l a m = true) : merA l a m = a.take m ++ [a.getD m 0 + a.getD (m + 1) 0] ++ a.drop (m + 2) := by simp [merA, h]
theorem merL_len {l a : List Int} {m : Nat} (h : merB l a m = true) (hr : recB l a = true) (hm : m + 2 ≤ a.length) : (merL l a m).length = l.length - 1 := by
  have := recB_bd hr
  rw [merL_eq h]; simp; omega
theorem merA_len {l a : List Int} {m : Nat} (h : merB l a m = true) (hm : m + 2 ≤ a.length) : (merA l a m).length = a.length - 1 := by
  rw [merA_eq h]; simp; omega
theorem am_bd {l a : List Int} (h : recB l a = true) {j : Nat} (hj : j < a.length) : 0 ≤ a.getD j 0 ∧ a.getD j 0 ≤ 10000 := (recB_iff.1 h).2.2 j hj
theorem del_mid (a : List Int) (m : Nat) (h : m + 2 ≤ a.length) (z : Int) : (a.take (m + 1) ++ a.drop (m + 2)).set m z = a.take m ++ [z] ++ a.drop (m + 2) := by
  rw [List.take_succ_eq_append_getElem (show m < a.length by omega), List.append_assoc, List.set_append, if_neg (by simp; omega), show m - (a.take m).length = 0 by simp; omega]
  simp

theorem recordMerge_ds : DFun Try.prog 21 gMerge := by
  have hE : EnvOK Try.prog [(13, gValid), (33, gIn)] := EnvOK.cons recordValid_ds (EnvOK.cons l6In_ds EnvOK.nil)
  refine DFun.of tauOK (fn := Try.f21) Try.func21 rfl (by kernel_rfl) rfl rfl ?_
  intro C ds r hg hl
  unfold gMerge at hg
  split at hg
  case h_2 => cases hg
  rename_i n l m a k
  cases hg
  refine ⟨by simp, ?_⟩
  obtain ⟨hn, hm, hn', hm', _⟩ := hl
  obtain rfl : n = l.length := by omega
  obtain rfl : m = a.length := by omega
  clear hn hn'
  refine DW.seq ?_
  refine DW.region ?_
  refine DL.go0 tauOK hE rfl (GStep.assign rfl) rfl rfl ?_
  refine DL.go0 tauOK hE rfl (GStep.assign rfl) rfl rfl ?_
  refine DL.go0 tauOK hE rfl (GStep.assign rfl) rfl rfl ?_
  refine DL.nil ?_
  refine DW.sub (T' := [(0, _), (1, _), (2, _)]) (Sub.cons rfl (Sub.cons rfl (Sub.cons rfl Sub.nil))) (Sub.refl _) ?_
  refine DW.seq ?_
  refine DW.cut 35 (!merB l a k) [0, 1, 2] ?_ ?_
  · cases hc1 : recB l a <;> cases c1 : decide (k ≥ 0) <;> cases c2 : decide (k ≤ (a.length : Int) - 2) <;> cases c3 : decide (a.getD k.toNat 0 + a.getD (k.toNat + 1) 0 > 10000) <;> (
      (try have q_hc1 := of_decide_eq_true hc1); (try have q_hc1 := of_decide_eq_false hc1)
      (try have q_c1 := of_decide_eq_true c1); (try have q_c1 := of_decide_eq_false c1)
      (try have q_c2 := of_decide_eq_true c2); (try have q_c2 := of_decide_eq_false c2)
      (try have q_c3 := of_decide_eq_true c3); (try have q_c3 := of_decide_eq_false c3)
      refine DW.draw tauOK hE mixed 25 (by kernel_rfl) ?_
      refine DR.go0 rfl (GStep.move rfl) rfl rfl ?_
      refine DR.go0 rfl (GStep.move rfl) rfl rfl ?_
      refine DR.go0 rfl (G.call (v := .val _) (news := []) rfl (All2.cons (ArgOf.ro rfl rfl (by simp [flat_len])) (All2.cons (ArgOf.ro rfl rfl (by simp [flat_len])) All2.nil)) rfl rfl rfl) rfl rfl ?_
      try rw [hc1]
      try rw [c1]
      try rw [c2]
      try rw [c3]
      refine DR.go0 rfl (GStep.not rfl) rfl rfl ?_
      refine DR.go0 rfl (GStep.move rfl) rfl rfl ?_
      first | refine DR.skip rfl rfl rfl ?_ | refine DR.go0 rfl (GStep.move rfl) rfl rfl ?_
      first | refine DR.skip rfl rfl rfl ?_ | refine DR.go0 rfl (GStep.move rfl) rfl rfl ?_
      first | refine DR.skip rfl rfl rfl ?_ | refine DR.go0 rfl (GStep.len rfl rfl rfl) rfl rfl ?_ | refine DR.go0 rfl (GStep.lenNil rfl rfl) rfl rfl ?_
      try rw [hc1]
      try rw [c1]
      try rw [c2]
      try rw [c3]
      first | refine DR.skip rfl rfl rfl ?_ | refine DR.go0 rfl (G.sub rfl rfl (by omega)) rfl rfl ?_ | refine DR.go0 rfl (GStep.binI rfl rfl rfl) rfl rfl ?_
      try rw [hc1]
      try rw [c1]
      try rw [c2]
      try rw [c3]
      first | refine DR.skip rfl rfl rfl ?_ | refine DR.go0 rfl (G.call (v := .val _) (news := []) rfl (All2.cons (ArgOf.v rfl) (All2.cons (ArgOf.v rfl) (All2.cons (ArgOf.v rfl) All2.nil))) rfl rfl rfl) rfl rfl ?_
      try rw [hc1]
      try rw [c1]
      try rw [c2]
      try rw [c3]
      first | refine DR.skip rfl rfl rfl ?_ | refine DR.go0 rfl (GStep.not rfl) rfl rfl ?_
      first | refine DR.go0 rfl (GStep.pickT rfl rfl) rfl rfl ?_ | refine DR.go0 rfl (GStep.pickF rfl rfl) rfl rfl ?_
      refine DR.go0 rfl (GStep.move rfl) rfl rfl ?_
      first | refine DR.skip rfl rfl rfl ?_ | refine DR.go0 rfl (GStep.move rfl) rfl rfl ?_
      first | refine DR.skip rfl rfl rfl ?_ | refine DR.go0 rfl (GStep.move rfl) rfl rfl ?_
      first | refine DR.skip rfl rfl rfl ?_ | refine DR.go0 rfl (G.ia1 (i := k.toNat) rfl rfl rfl rfl rfl rfl (by omega) (by omega)) rfl rfl ?_
      first | refine DR.skip rfl rfl rfl ?_ | refine DR.go0 rfl (G.le1r rfl rfl rfl (by omega)) rfl rfl ?_ | refine DR.go0 rfl (G.le1w rfl rfl rfl (by omega)) rfl rfl ?_
      first | refine DR.skip rfl rfl rfl ?_ | refine DR.go0 rfl (GStep.move rfl) rfl rfl ?_
      first | refine DR.skip rfl rfl rfl ?_ | refine DR.go0 rfl (GStep.move rfl) rfl rfl ?_
      first | refine DR.skip rfl rfl rfl ?_ | refine DR.go0 rfl (G.add rfl rfl (by omega)) rfl rfl ?_ | refine DR.go0 rfl (GStep.binI rfl rfl rfl) rfl rfl ?_
      try rw [hc1]
      try rw [c1]
      try rw [c2]
      try rw [c3]
      first | refine DR.skip rfl rfl rfl ?_ | refine DR.go0 rfl (G.ia1 (i := k.toNat + 1) rfl rfl rfl rfl rfl rfl (by omega) (by omega)) rfl rfl ?_
      first | refine DR.skip rfl rfl rfl ?_ | refine DR.go0 rfl (G.le1r rfl rfl rfl (by omega)) rfl rfl ?_ | refine DR.go0 rfl (G.le1w rfl rfl rfl (by omega)) rfl rfl ?_
      first | refine DR.skip rfl rfl rfl ?_ | refine DR.go0 rfl (G.add rfl rfl (by have u1 := am_bd hc1 (show k.toNat < a.length by omega); have u2 := am_bd hc1 (show k.toNat + 1 < a.length by omega); omega)) rfl rfl ?_
      try rw [hc1]
      try rw [c1]
      try rw [c2]
      try rw [c3]
      first | refine DR.skip rfl rfl rfl ?_ | refine DR.go0 rfl (GStep.binI rfl rfl rfl) rfl rfl ?_
      try rw [hc1]
      try rw [c1]
      try rw [c2]
      try rw [c3]
      first | refine DR.go0 rfl (GStep.pickT rfl rfl) rfl rfl ?_ | refine DR.go0 rfl (GStep.pickF rfl rfl) rfl rfl ?_
      refine DR.nil ?_
      refine DL.nil ?_
      exact ⟨rfl, _, rfl, by unfold merB; rw [hc1, c1, c2, c3]; rfl, SubK.cons rfl (SubK.cons rfl (SubK.cons rfl (SubK.nil))), Sub.refl _⟩)
  refine DW.sub (T' := [(0, _), (1, _), (2, _), (35, _)]) (Sub.cons rfl (Sub.cons rfl (Sub.cons rfl (Sub.cons rfl Sub.nil)))) (Sub.refl _) ?_
  refine DW.cond rfl (fun h1 => ?_) (fun h1 => ?_)
  · skip
    have h1 : merB l a k = false := by simpa using h1
    rw [merL_no h1, merA_no h1, h1]
    refine DW.seq ?_
    refine DW.region ?_
    refine DL.go1 tauOK hE rfl (G.bs0i rfl rfl) rfl rfl rfl ?_
    refine DL.go1 tauOK hE rfl (G.bs0i rfl rfl) rfl rfl rfl ?_
    refine DL.go0 tauOK hE rfl (GStep.assign rfl) rfl rfl ?_
    refine DL.go0 tauOK hE rfl (GStep.assign rfl) rfl rfl ?_
    refine DL.go0 tauOK hE rfl (GStep.assign rfl) rfl rfl ?_
    refine DL.nil ?_
    refine DW.sub (T' := [(6, _), (7, _), (8, _)]) (Sub.cons rfl (Sub.cons rfl (Sub.cons rfl Sub.nil))) (Sub.refl _) ?_
    refine DW.ret ?_
    exact RetD.ssv rfl rfl rfl (by omega) rfl rfl rfl (by omega) (by decide) rfl rfl
  · skip
    have h1 : merB l a k = true := by simpa using h1
    obtain ⟨m, rfl, hr, hm2, hs⟩ := merB_iff h1
    have hb := recB_bd hr
    have u1 := am_bd hr (show m < a.length by omega)
    have u2 := am_bd hr (show m + 1 < a.length by omega)
    refine DW.skip ?_
    have y1 : List.take ((m + 1 - 0) * 1) (List.drop ((0 + 0) * 1) l) = l.take (m + 1) := by simp
    have y2 : List.take ((l.length - (m + 2)) * 1) (List.drop ((0 + (m + 2)) * 1) l) = l.drop (m + 2) := by rw [List.take_of_length_le (by simp)]; simp
    have y3 : List.take ((m - 0) * 1) (List.drop ((0 + 0) * 1) a) = a.take m := by simp
    have y4 : List.take ((a.length - (m + 2)) * 1) (List.drop ((0 + (m + 2)) * 1) a) = a.drop (m + 2) := by rw [List.take_of_length_le (by simp)]; simp
    refine DW.seq ?_
    refine DW.drawM tauOK hE pick_d mixed 12 (by kernel_rfl) (by kernel_rfl) ?_
    refine DM.go1 rfl (G.bs0i rfl rfl) rfl rfl rfl ?_
    refine DM.go0 rfl (GStep.move rfl) rfl rfl ?_
    refine DM.go0 rfl (GStep.move rfl) rfl rfl ?_
    first | refine DM.go0 rfl (G.add rfl rfl (by omega)) rfl rfl ?_ | refine DM.go0 rfl (GStep.binI rfl rfl rfl) rfl rfl ?_
    refine DM.go0 rfl (GStep.slice (l := 0) (h := m + 1) rfl rfl rfl rfl rfl rfl rfl (rfl) (by omega) (by omega) (by omega)) rfl rfl ?_
    refine DM.app rfl rfl rfl rfl rfl rfl rfl rfl rfl rfl (rfl) rfl rfl rfl rfl rfl (by omega) y1 rfl ?_
    refine DM.go0 rfl (GStep.move rfl) rfl rfl ?_
    refine DM.go0 rfl (GStep.move rfl) rfl rfl ?_
    first | refine DM.go0 rfl (G.add rfl rfl (by omega)) rfl rfl ?_ | refine DM.go0 rfl (GStep.binI rfl rfl rfl) rfl rfl ?_
    refine DM.go0 rfl (GStep.slice (l := m + 2) (h := _) rfl rfl rfl rfl rfl rfl rfl (by omega) (rfl) (by omega) (by omega)) rfl rfl ?_
    refine DM.app rfl rfl rfl rfl rfl rfl rfl rfl rfl rfl (by simp; omega) rfl rfl rfl rfl rfl (by omega) y2 rfl ?_
    refine DM.go0 rfl (GStep.assign rfl) rfl rfl ?_
    refine DM.nil (by kernel_rfl) ?_
    refine DL.nil ?_
    refine DW.sub (T' := [(1, _), (2, _), (9, _)]) (Sub.cons rfl (Sub.cons rfl (Sub.cons rfl Sub.nil))) (Sub.refl _) ?_
    refine DW.seq ?_
    refine DW.drawM tauOK hE pick_d mixed 18 (by kernel_rfl) (by kernel_rfl) ?_
    refine DM.go1 rfl (G.bs0i rfl rfl) rfl rfl rfl ?_
    refine DM.go0 rfl (GStep.move rfl) rfl rfl ?_
    refine DM.go0 rfl (GStep.move rfl) rfl rfl ?_
    refine DM.go0 rfl (GStep.slice (l := 0) (h := m) rfl rfl rfl rfl rfl rfl rfl (rfl) (by omega) (by omega) (by omega)) rfl rfl ?_
    refine DM.app rfl rfl rfl rfl rfl rfl rfl rfl rfl rfl (rfl) rfl rfl rfl rfl rfl (by omega) y3 rfl ?_
    refine DM.go0 rfl (GStep.move rfl) rfl rfl ?_
    refine DM.go0 rfl (GStep.move rfl) rfl rfl ?_
    refine DM.go0 rfl (G.ia1 rfl rfl rfl rfl rfl rfl rfl (by omega)) rfl rfl ?_
    first | refine DM.go0 rfl (G.le1r rfl rfl rfl (by omega)) rfl rfl ?_ | refine DM.go0 rfl (G.le1w rfl rfl rfl (by omega)) rfl rfl ?_
    refine DM.go0 rfl (GStep.move rfl) rfl rfl ?_
    refine DM.go0 rfl (GStep.move rfl) rfl rfl ?_
    first | refine DM.go0 rfl (G.add rfl rfl (by omega)) rfl rfl ?_ | refine DM.go0 rfl (GStep.binI rfl rfl rfl) rfl rfl ?_
    refine DM.go0 rfl (G.ia1 (i := m + 1) rfl rfl rfl rfl rfl rfl (by omega) (by omega)) rfl rfl ?_
    first | refine DM.go0 rfl (G.le1r rfl rfl rfl (by omega)) rfl rfl ?_ | refine DM.go0 rfl (G.le1w rfl rfl rfl (by omega)) rfl rfl ?_
    first | refine DM.go0 rfl (G.add rfl rfl (by omega)) rfl rfl ?_ | refine DM.go0 rfl (GStep.binI rfl rfl rfl) rfl rfl ?_
    refine DM.go1 rfl (G.bs1i rfl rfl rfl) rfl rfl rfl ?_
    refine DM.app rfl rfl rfl rfl rfl rfl rfl rfl rfl rfl (by simp; omega) rfl rfl rfl rfl rfl (by omega) rfl rfl ?_
    refine DM.go0 rfl (GStep.assign rfl) rfl rfl ?_
    refine DM.nil (by kernel_rfl) ?_
    refine DL.nil ?_
    refine DW.sub (T' := [(1, _), (2, _), (9, _), (10, _)]) (Sub.cons rfl (Sub.cons rfl (Sub.cons rfl (Sub.cons rfl Sub.nil)))) (Sub.refl _) ?_
    refine DW.sub (T' := [(1, .sl 1 0 a.length), (2, .val (.int .i64 (m : Nat))), (9, .sl 48 0 (l.length - 1)), (10, .sl 65 0 (m + 1))]) (H' := [(1, .ro .i64 1 a), (48, .row 3 1 (l.take (m + 1) ++ l.drop (m + 2))), (65, .row 3 1 (a.take m ++ [a.getD m 0 + a.getD (m + 1) 0]))]) (Sub.cons (by first | rfl | exact sl_of rfl (by first | omega | (simp; omega))) (Sub.cons (by first | rfl | exact int_of rfl (by omega)) (Sub.cons (by first | rfl | exact sl_of rfl (by first | omega | (simp; omega))) (Sub.cons (by first | rfl | exact sl_of rfl (by first | omega | (simp; omega))) Sub.nil)))) (Sub.cons rfl (Sub.cons (by first | rfl | exact row_of rfl (by simp)) (Sub.cons (by first | rfl | exact row_of rfl (by simp)) Sub.nil))) ?_
    refine DW.seq ?_
    refine DW.region ?_
    refine DL.go0 tauOK hE rfl (GStep.move rfl) rfl rfl ?_
    refine DL.go0 tauOK hE rfl (GStep.move rfl) rfl rfl ?_
    refine DL.go0 tauOK hE rfl (GStep.move rfl) rfl rfl ?_
    refine DL.go0 tauOK hE rfl (GStep.move rfl) rfl rfl ?_
    first | refine DL.go0 tauOK hE rfl (G.add rfl rfl (by omega)) rfl rfl ?_ | refine DL.go0 tauOK hE rfl (GStep.binI rfl rfl rfl) rfl rfl ?_
    refine DL.go0 tauOK hE rfl (GStep.slice (l := m + 2) (h := _) rfl rfl rfl rfl rfl rfl rfl (by omega) (rfl) (by omega) (by omega)) rfl rfl ?_
    refine DL.app tauOK [(66, _)] rfl rfl rfl rfl rfl rfl rfl rfl rfl (by simp; omega) rfl rfl rfl rfl rfl (by omega) y4 (Sub.cons rfl Sub.nil) rfl ?_
    refine DL.go0 tauOK hE rfl (GStep.assign rfl) rfl rfl ?_
    refine DL.go0 tauOK hE rfl (GStep.assign rfl) rfl rfl ?_
    refine DL.go0 tauOK hE rfl (GStep.assign rfl) rfl rfl ?_
    refine DL.nil ?_
    refine DW.sub (T' := [(6, _), (7, _), (8, _)]) (Sub.cons rfl (Sub.cons rfl (Sub.cons rfl Sub.nil))) (Sub.refl _) ?_
    rw [← merL_eq h1, ← merA_eq h1, ← h1, show m + 1 + (a.length - (m + 2)) = a.length - 1 from by omega]
    have hL := merL_len h1 hr hm2
    have hA := merA_len h1 hm2
    rw [hL, hA]
    refine DW.ret ?_
    exact RetD.ssv rfl rfl (by omega) (by omega) rfl rfl (by omega) (by omega) (by decide) rfl rfl
theorem recordMerge_di : DFun Try.prog 22 gMerge := by
  have hE : EnvOK Try.prog [(15, gValid), (38, gClone1)] := EnvOK.cons recordValid_di (EnvOK.cons clone1_d EnvOK.nil)
  refine DFun.of tauOK (fn := Try.f22) Try.func22 rfl (by kernel_rfl) rfl rfl ?_
  intro C ds r hg hl
  unfold gMerge at hg
  split at hg
  case h_2 => cases hg
  rename_i n l m a k
  cases hg
  refine ⟨by simp, ?_⟩
  obtain ⟨hn, hm, hn', hm', _⟩ := hl
  obtain rfl : n = l.length := by omega
  obtain rfl : m = a.length := by omega
  clear hn hn'
  have e1 : decide (k ≥ 0) = !decide (k < 0) := by by_cases h : k < 0 <;> simp [h] <;> omega
  have e2 : decide (k ≤ (a.length : Int) - 2) = !decide (k > (a.length : Int) - 2) := by by_cases h : k > (a.length : Int) - 2 <;> simp [h] <;> omega
  refine DW.seq ?_
  refine DW.region ?_
  refine DL.go0 tauOK hE rfl (GStep.assign rfl) rfl rfl ?_
  refine DL.go0 tauOK hE rfl (GStep.assign rfl) rfl rfl ?_
  refine DL.go0 tauOK hE rfl (GStep.assign rfl) rfl rfl ?_
  refine DL.nil ?_
  refine DW.sub (T' := [(0, _), (1, _), (2, _)]) (Sub.cons rfl (Sub.cons rfl (Sub.cons rfl Sub.nil))) (Sub.refl _) ?_
  refine DW.seq ?_
  refine DW.cut 37 (!merB l a k) [0, 1, 2] ?_ ?_
  · cases hc1 : recB l a <;> cases c1 : decide (k < 0) <;> cases c2 : decide (k > (a.length : Int) - 2) <;> cases c3 : decide (a.getD k.toNat 0 + a.getD (k.toNat + 1) 0 > 10000) <;> (
      (try have q_hc1 := of_decide_eq_true hc1); (try have q_hc1 := of_decide_eq_false hc1)
      (try have q_c1 := of_decide_eq_true c1); (try have q_c1 := of_decide_eq_false c1)
      (try have q_c2 := of_decide_eq_true c2); (try have q_c2 := of_decide_eq_false c2)
      (try have q_c3 := of_decide_eq_true c3); (try have q_c3 := of_decide_eq_false c3)
      refine DW.draw tauOK hE mixed 28 (by kernel_rfl) ?_
      refine DR.go0 rfl (GStep.move rfl) rfl rfl ?_
      refine DR.go0 rfl (GStep.move rfl) rfl rfl ?_
      refine DR.go0 rfl (G.call (v := .val _) (news := []) rfl (All2.cons (ArgOf.ro rfl rfl (by simp [flat_len])) (All2.cons (ArgOf.ro rfl rfl (by simp [flat_len])) All2.nil)) rfl rfl rfl) rfl rfl ?_
      try rw [hc1]
      try rw [c1]
      try rw [c2]
      try rw [c3]
      refine DR.go0 rfl (GStep.not rfl) rfl rfl ?_
      refine DR.go0 rfl (GStep.move rfl) rfl rfl ?_
      first | refine DR.skip rfl rfl rfl ?_ | refine DR.go0 rfl (GStep.move rfl) rfl rfl ?_
      first | refine DR.skip rfl rfl rfl ?_ | refine DR.go0 rfl (GStep.binI rfl rfl rfl) rfl rfl ?_
      try rw [hc1]
      try rw [c1]
      try rw [c2]
      try rw [c3]
      first | refine DR.go0 rfl (GStep.pickT rfl rfl) rfl rfl ?_ | refine DR.go0 rfl (GStep.pickF rfl rfl) rfl rfl ?_
      refine DR.go0 rfl (GStep.move rfl) rfl rfl ?_
      first | refine DR.skip rfl rfl rfl ?_ | refine DR.go0 rfl (GStep.move rfl) rfl rfl ?_
      first | refine DR.skip rfl rfl rfl ?_ | refine DR.go0 rfl (GStep.move rfl) rfl rfl ?_
      first | refine DR.skip rfl rfl rfl ?_ | refine DR.go0 rfl (GStep.len rfl rfl rfl) rfl rfl ?_ | refine DR.go0 rfl (GStep.lenNil rfl rfl) rfl rfl ?_
      try rw [hc1]
      try rw [c1]
      try rw [c2]
      try rw [c3]
      first | refine DR.skip rfl rfl rfl ?_ | refine DR.go0 rfl (G.sub rfl rfl (by omega)) rfl rfl ?_ | refine DR.go0 rfl (GStep.binI rfl rfl rfl) rfl rfl ?_
      try rw [hc1]
      try rw [c1]
      try rw [c2]
      try rw [c3]
      first | refine DR.skip rfl rfl rfl ?_ | refine DR.go0 rfl (GStep.binI rfl rfl rfl) rfl rfl ?_
      try rw [hc1]
      try rw [c1]
      try rw [c2]
      try rw [c3]
      first | refine DR.go0 rfl (GStep.pickT rfl rfl) rfl rfl ?_ | refine DR.go0 rfl (GStep.pickF rfl rfl) rfl rfl ?_
      refine DR.go0 rfl (GStep.move rfl) rfl rfl ?_
      first | refine DR.skip rfl rfl rfl ?_ | refine DR.go0 rfl (GStep.move rfl) rfl rfl ?_
      first | refine DR.skip rfl rfl rfl ?_ | refine DR.go0 rfl (GStep.move rfl) rfl rfl ?_
      first | refine DR.skip rfl rfl rfl ?_ | refine DR.go0 rfl (G.ia1 (i := k.toNat) rfl rfl rfl rfl rfl rfl (by omega) (by omega)) rfl rfl ?_
      first | refine DR.skip rfl rfl rfl ?_ | refine DR.go0 rfl (G.le1r rfl rfl rfl (by omega)) rfl rfl ?_ | refine DR.go0 rfl (G.le1w rfl rfl rfl (by omega)) rfl rfl ?_
      first | refine DR.skip rfl rfl rfl ?_ | refine DR.go0 rfl (GStep.move rfl) rfl rfl ?_
      first | refine DR.skip rfl rfl rfl ?_ | refine DR.go0 rfl (GStep.move rfl) rfl rfl ?_
      first | refine DR.skip rfl rfl rfl ?_ | refine DR.go0 rfl (G.add rfl rfl (by omega)) rfl rfl ?_ | refine DR.go0 rfl (GStep.binI rfl rfl rfl) rfl rfl ?_
      try rw [hc1]
      try rw [c1]
      try rw [c2]
      try rw [c3]
      first | refine DR.skip rfl rfl rfl ?_ | refine DR.go0 rfl (G.ia1 (i := k.toNat + 1) rfl rfl rfl rfl rfl rfl (by omega) (by omega)) rfl rfl ?_
      first | refine DR.skip rfl rfl rfl ?_ | refine DR.go0 rfl (G.le1r rfl rfl rfl (by omega)) rfl rfl ?_ | refine DR.go0 rfl (G.le1w rfl rfl rfl (by omega)) rfl rfl ?_
      first | refine DR.skip rfl rfl rfl ?_ | refine DR.go0 rfl (G.add rfl rfl (by have u1 := am_bd hc1 (show k.toNat < a.length by omega); have u2 := am_bd hc1 (show k.toNat + 1 < a.length by omega); omega)) rfl rfl ?_
      try rw [hc1]
      try rw [c1]
      try rw [c2]
      try rw [c3]
      first | refine DR.skip rfl rfl rfl ?_ | refine DR.go0 rfl (GStep.binI rfl rfl rfl) rfl rfl ?_
      try rw [hc1]
      try rw [c1]
      try rw [c2]
      try rw [c3]
      first | refine DR.go0 rfl (GStep.pickT rfl rfl) rfl rfl ?_ | refine DR.go0 rfl (GStep.pickF rfl rfl) rfl rfl ?_
      refine DR.nil ?_
      refine DL.nil ?_
      exact ⟨rfl, _, rfl, by unfold merB; rw [e1, e2, hc1, c1, c2, c3]; rfl, SubK.cons rfl (SubK.cons rfl (SubK.cons rfl (SubK.nil))), Sub.refl _⟩)
  refine DW.sub (T' := [(0, _), (1, _), (2, _), (37, _)]) (Sub.cons rfl (Sub.cons rfl (Sub.cons rfl (Sub.cons rfl Sub.nil)))) (Sub.refl _) ?_
  refine DW.cond rfl (fun h1 => ?_) (fun h1 => ?_)
  · skip
    have h1 : merB l a k = false := by simpa using h1
    rw [merL_no h1, merA_no h1, h1]
    refine DW.seq ?_
    refine DW.region ?_
    refine DL.go0 tauOK hE rfl (GStep.assign rfl) rfl rfl ?_
    refine DL.go0 tauOK hE rfl (GStep.assign rfl) rfl rfl ?_
    refine DL.go0 tauOK hE rfl (GStep.assign rfl) rfl rfl ?_
    refine DL.nil ?_
    refine DW.sub (T' := [(6, _), (7, _), (8, _)]) (Sub.cons rfl (Sub.cons rfl (Sub.cons rfl Sub.nil))) (Sub.refl _) ?_
    refine DW.ret ?_
    exact RetD.nnv rfl (by omega) rfl (by omega) rfl rfl
  · skip
    have h1 : merB l a k = true := by simpa using h1
    obtain ⟨m, rfl, hr, hm2, hs⟩ := merB_iff h1
    have hb := recB_bd hr
    have u1 := am_bd hr (show m < a.length by omega)
    have u2 := am_bd hr (show m + 1 < a.length by omega)
    have g1 : gClone1 [.sl .i64 1 a.length a] = some (.one (.row 3 1 a.length a)) := if_pos (by omega)
    have g2 : gClone1 [.sl .i64 1 l.length l] = some (.one (.row 3 1 l.length l)) := if_pos (by omega)
    have d1 : gDel a [.int .i64 ((m : Int) + 1), .int .i64 ((m : Int) + 2)] = some (a.take (m + 1) ++ a.drop (m + 2)) := gDel_eq a (m + 1) (m + 2) (by omega) (by omega) _ _ (by omega) (by omega)
    have d2 : gDel l [.int .i64 ((m : Int) + 1), .int .i64 ((m : Int) + 2)] = some (l.take (m + 1) ++ l.drop (m + 2)) := gDel_eq l (m + 1) (m + 2) (by omega) (by omega) _ _ (by omega) (by omega)
    have la : (a.take (m + 1) ++ a.drop (m + 2)).length = (a.length - 1) * 1 := by simp; omega
    have ll : (l.take (m + 1) ++ l.drop (m + 2)).length = (l.length - 1) * 1 := by simp; omega
    have ga : (a.take (m + 1) ++ a.drop (m + 2)).getD m 0 = a.getD m 0 := by
      rw [List.getD_eq_getElem?_getD, List.getElem?_append_left (by simp; omega), List.getElem?_take, if_pos (by omega), ← List.getD_eq_getElem?_getD]
    refine DW.skip ?_
    refine DW.seq ?_
    refine DW.region ?_
    refine DL.go0 tauOK hE rfl (GStep.move rfl) rfl rfl ?_
    refine DL.go1 tauOK hE rfl (G.call (v := .sl _ 0 _) (news := [.row _ _ _]) rfl (All2.cons (ArgOf.ro rfl rfl (by simp [flat_len])) All2.nil) g1 rfl rfl) rfl rfl rfl ?_
    refine DL.go0 tauOK hE rfl (GStep.move rfl) rfl rfl ?_
    first | refine DL.go0 tauOK hE rfl (G.add rfl rfl (by omega)) rfl rfl ?_ | refine DL.go0 tauOK hE rfl (GStep.binI rfl rfl rfl) rfl rfl ?_
    refine DL.go0 tauOK hE rfl (GStep.move rfl) rfl rfl ?_
    first | refine DL.go0 tauOK hE rfl (G.add rfl rfl (by omega)) rfl rfl ?_ | refine DL.go0 tauOK hE rfl (GStep.binI rfl rfl rfl) rfl rfl ?_
    refine DL.cons delete_dc rfl rfl rfl rfl rfl rfl rfl (by omega) (ValsOf.cons rfl (ValsOf.cons rfl ValsOf.nil)) d1 (la) rfl ?_
    refine DL.go0 tauOK hE rfl (GStep.assign rfl) rfl rfl ?_
    refine DL.nil ?_
    refine DW.sub (T' := [(0, _), (1, _), (2, _), (9, _)]) (Sub.cons rfl (Sub.cons rfl (Sub.cons rfl (Sub.cons rfl Sub.nil)))) (Sub.refl _) ?_
    refine DW.seq ?_
    refine DW.draw tauOK hE mixed 11 (by kernel_rfl) ?_
    refine DR.go0 rfl (GStep.move rfl) rfl rfl ?_
    refine DR.go0 rfl (GStep.move rfl) rfl rfl ?_
    refine DR.go0 rfl (G.ia1 rfl rfl rfl rfl rfl rfl rfl (by omega)) rfl rfl ?_
    first | refine DR.go0 rfl (G.le1r rfl rfl rfl (by omega)) rfl rfl ?_ | refine DR.go0 rfl (G.le1w rfl rfl rfl (by omega)) rfl rfl ?_
    refine DR.go0 rfl (GStep.move rfl) rfl rfl ?_
    refine DR.go0 rfl (GStep.move rfl) rfl rfl ?_
    first | refine DR.go0 rfl (G.add rfl rfl (by omega)) rfl rfl ?_ | refine DR.go0 rfl (GStep.binI rfl rfl rfl) rfl rfl ?_
    refine DR.go0 rfl (G.ia1 (i := m + 1) rfl rfl rfl rfl rfl rfl (by omega) (by omega)) rfl rfl ?_
    first | refine DR.go0 rfl (G.le1r rfl rfl rfl (by omega)) rfl rfl ?_ | refine DR.go0 rfl (G.le1w rfl rfl rfl (by omega)) rfl rfl ?_
    refine DR.go0 rfl (G.add rfl rfl (by rw [ga]; omega)) rfl rfl ?_
    refine DR.go0 rfl (G.ia1 rfl rfl rfl rfl rfl rfl rfl (by omega)) rfl rfl ?_
    refine DR.nil ?_
    refine DL.se1 tauOK rfl rfl rfl rfl rfl rfl rfl (by omega) ?_
    refine DL.nil ?_
    refine DW.sub (T' := [(0, _), (2, _), (9, _)]) (Sub.cons rfl (Sub.cons rfl (Sub.cons rfl Sub.nil))) (Sub.refl _) ?_
    rw [ga, del_mid a m hm2]
    refine DW.seq ?_
    refine DW.region ?_
    refine DL.go0 tauOK hE rfl (GStep.move rfl) rfl rfl ?_
    refine DL.go1 tauOK hE rfl (G.call (v := .sl _ 0 _) (news := [.row _ _ _]) rfl (All2.cons (ArgOf.ro rfl rfl (by simp [flat_len])) All2.nil) g2 rfl rfl) rfl rfl rfl ?_
    refine DL.go0 tauOK hE rfl (GStep.move rfl) rfl rfl ?_
    first | refine DL.go0 tauOK hE rfl (G.add rfl rfl (by omega)) rfl rfl ?_ | refine DL.go0 tauOK hE rfl (GStep.binI rfl rfl rfl) rfl rfl ?_
    refine DL.go0 tauOK hE rfl (GStep.move rfl) rfl rfl ?_
    first | refine DL.go0 tauOK hE rfl (G.add rfl rfl (by omega)) rfl rfl ?_ | refine DL.go0 tauOK hE rfl (GStep.binI rfl rfl rfl) rfl rfl ?_
    refine DL.cons delete_dc rfl rfl rfl rfl rfl rfl rfl (by omega) (ValsOf.cons rfl (ValsOf.cons rfl ValsOf.nil)) d2 (ll) rfl ?_
    refine DL.go0 tauOK hE rfl (GStep.move rfl) rfl rfl ?_
    refine DL.go0 tauOK hE rfl (GStep.assign rfl) rfl rfl ?_
    refine DL.go0 tauOK hE rfl (GStep.assign rfl) rfl rfl ?_
    refine DL.go0 tauOK hE rfl (GStep.assign rfl) rfl rfl ?_
    refine DL.nil ?_
    refine DW.sub (T' := [(6, _), (7, _), (8, _)]) (Sub.cons rfl (Sub.cons rfl (Sub.cons rfl Sub.nil))) (Sub.refl _) ?_
    have hL := merL_len h1 hr hm2
    have hA := merA_len h1 hm2
    rw [← merL_eq h1, ← merA_eq h1, ← h1, hL, hA]
    refine DW.ret ?_
    exact RetD.ssv rfl rfl (by omega) (by omega) rfl rfl (by omega) (by omega) (by decide) rfl rfl
end Go.Proofs.Ytpaemnambphldaa
