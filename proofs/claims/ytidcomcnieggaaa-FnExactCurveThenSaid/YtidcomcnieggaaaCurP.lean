/-
  What curves give at numbers and at fractions, and slopes: the program's functions and the reference's, walked by the plain machine.
-/
import Derived.Test.YtidcomcnieggaaaCurD
import Derived.Test.YtidcomcnieggaaaPureN
import Derived.Test.YtidcomcnieggaaaFracD
import Derived.Test.YtidcomcnieggaaaCurAt
namespace Go.Proofs.Ytidcomcnieggaaa
open Go.RowKit
set_option linter.unusedVariables false
set_option linter.unusedSimpArgs false
theorem drop_at' {c : List Kn} {k : Nat} (h : k < c.length) : c.drop k = c.getD k (0, 0) :: c.drop (k + 1) := by rw [getD_of_lt c h]; exact List.drop_eq_getElem_cons h
theorem atR_go' {c : List Kn} {k : Nat} (hk1 : 1 ≤ k) (hk : k < c.length) (n d : Int) : atR n d (c.drop (k - 1)) = if kx c k * d < n then atR n d (c.drop k) else ofF (ky c (k - 1) * (kx c k - kx c (k - 1)) * d + (n - kx c (k - 1) * d) * (ky c k - ky c (k - 1))) ((kx c k - kx c (k - 1)) * d) := by
  rw [drop_at' (show k - 1 < c.length by omega), show k - 1 + 1 = k by omega, drop_at' hk]
  rfl
/-! ## Slopes -/
def curSl (c : List Kn) (k : Int) : Fr := if curB c = true ∧ 0 ≤ k ∧ k ≤ (c.length : Int) - 2 then slF c k.toNat else none
def slB (c : List Kn) (k : Int) : Bool := curB c && (decide (k ≥ 0) && decide (k ≤ (c.length : Int) - 2))
theorem curSl_no {c : List Kn} {k : Int} (h : slB c k = false) : curSl c k = none := by
  unfold curSl
  rw [if_neg]
  rintro ⟨h1, h2, h3⟩
  have : slB c k = true := by unfold slB; rw [h1]; simp; omega
  rw [h] at this; cases this
theorem slB_inv {c : List Kn} {k : Int} (h : slB c k = true) : ∃ i : Nat, k = i ∧ curB c = true ∧ i + 1 < c.length ∧ curSl c k = slF c i := by
  unfold slB at h
  simp only [Bool.and_eq_true, decide_eq_true_eq] at h
  obtain ⟨h1, h2, h3⟩ := h
  obtain ⟨i, rfl⟩ := Int.eq_ofNat_of_zero_le h2
  have := cur_len h1
  refine ⟨i, rfl, h1, by omega, ?_⟩
  unfold curSl
  rw [if_pos ⟨h1, h2, h3⟩, Int.toNat_natCast]
def gSl : List AD → Option RD
  | [.sl .i64 2 _ l, .v (.int .i64 k)] => some (rF (curSl (unflat l) k))
  | _ => none
theorem gSl_flat {n : Nat} {c : List Kn} {k : Int} : gSl [.sl .i64 2 n (flat c), .v (.int .i64 k)] = some (rF (curSl c k)) := by simp [gSl, unflat_flat]
/-! ## At numbers -/
def gCurAt : List AD → Option RD
  | [.sl .i64 2 _ l, .v (.int .i64 x)] => some (rF (curAt (unflat l) x))
  | _ => none
theorem gCurAt_flat {n : Nat} {c : List Kn} {x : Int} : gCurAt [.sl .i64 2 n (flat c), .v (.int .i64 x)] = some (rF (curAt c x)) := by simp [gCurAt, unflat_flat]
theorem curveAtX_di : DFun Try.prog 16 gCurAt := by
  have hE : EnvOK Try.prog [(38, gCur), (45, gAt)] := EnvOK.cons curveValid_di (EnvOK.cons curveAt_dp EnvOK.nil)
  refine DFun.of tauOK (fn := Try.f16) Try.func16 rfl (by kernel_rfl) rfl rfl ?_
  intro C ds r hg hl
  unfold gCurAt at hg
  split at hg
  case h_2 => cases hg
  rename_i n l x
  cases hg
  refine ⟨by simp, ?_⟩
  obtain ⟨hn, hm, _⟩ := hl
  obtain ⟨c, rfl, rfl⟩ := flat_ex hn
  clear hn
  rw [unflat_flat]
  refine DW.seq ?_
  refine DW.region ?_
  refine DL.go1 tauOK hE rfl (GStep.alloc2 rfl) rfl rfl rfl ?_
  refine DL.go0 tauOK hE rfl (GStep.assign rfl) rfl rfl ?_
  refine DL.nil ?_
  refine DW.sub (T' := [(0, _), (1, _), (4, _)]) (Sub.cons rfl (Sub.cons rfl (Sub.cons rfl Sub.nil))) (Sub.refl _) ?_
  refine DW.seq ?_
  refine DW.seq ?_
  refine DW.region ?_
  refine DL.go0 tauOK hE rfl (GStep.move rfl) rfl rfl ?_
  refine DL.go0 tauOK hE rfl (G.call (v := .val _) (news := []) rfl (All2.cons (ArgOf.ro rfl rfl (by simp [flat_len])) All2.nil) (gCur_flat) rfl rfl) rfl rfl ?_
  refine DL.go0 tauOK hE rfl (GStep.not rfl) rfl rfl ?_
  refine DL.nil ?_
  refine DW.sub (T' := [(0, _), (1, _), (4, _), (8, _)]) (Sub.cons rfl (Sub.cons rfl (Sub.cons rfl (Sub.cons rfl Sub.nil)))) (Sub.refl _) ?_
  cases hc : curB c
  · refine DW.condT rfl ?_
    rw [curAt_no hc]
    refine DW.seq ?_
    refine DW.region ?_
    refine DL.go0 tauOK hE rfl (G.b00 rfl) rfl rfl ?_
    refine DL.sb2 tauOK rfl rfl rfl rfl rfl rfl rfl ?_
    refine DL.go0 tauOK hE rfl (GStep.assign rfl) rfl rfl ?_
    refine DL.nil ?_
    refine DW.sub (T' := [(4, _), (5, _)]) (Sub.cons rfl (Sub.cons rfl Sub.nil)) (Sub.refl _) ?_
    refine DW.ret ?_
    exact RetD.cv (RV.cell rfl rfl rfl) rfl rfl
  · skip
    rw [curAt_cur hc]
    refine DW.condF rfl ?_
    refine DW.skip ?_
    refine DW.seq ?_
    refine DW.region ?_
    refine DL.go0 tauOK hE rfl (GStep.move rfl) rfl rfl ?_
    refine DL.go0 tauOK hE rfl (GStep.move rfl) rfl rfl ?_
    refine DL.go0 tauOK hE rfl (G.b01 rfl rfl rfl) rfl rfl ?_
    refine DL.go0 tauOK hE rfl (G.call (v := .tup [.v _, .v _]) (news := []) rfl (All2.cons (ArgOf.ro rfl rfl (by simp [flat_len])) (All2.cons (ArgOf.v rfl) All2.nil)) (gAt_flat hc (by omega)) rfl rfl) rfl rfl ?_
    refine DL.go0 tauOK hE rfl (GStep.extr rfl rfl) rfl rfl ?_
    refine DL.go0 tauOK hE rfl (GStep.extr rfl rfl) rfl rfl ?_
    refine DL.sb2 tauOK rfl rfl rfl rfl rfl rfl rfl ?_
    refine DL.go0 tauOK hE rfl (GStep.assign rfl) rfl rfl ?_
    refine DL.nil ?_
    refine DW.sub (T' := [(4, _), (5, _)]) (Sub.cons rfl (Sub.cons rfl Sub.nil)) (Sub.refl _) ?_
    refine DW.ret ?_
    exact RetD.cv (RV.cell rfl rfl rfl) rfl rfl
end Go.Proofs.Ytidcomcnieggaaa
