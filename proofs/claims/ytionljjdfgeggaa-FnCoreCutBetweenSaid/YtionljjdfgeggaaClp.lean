/-
  slices.Clone at pieces, as the program calls it.
-/
import Derived.Test.YtionljjdfgeggaaDenC
import Derived.Test.YtionljjdfgeggaaPairs
namespace Go.Proofs.Ytionljjdfgeggaa
open Go.RowKit
set_option linter.unusedVariables false
set_option linter.unusedSimpArgs false
def gClonePiece : List AD → Option RD
  | [.sl .i64 2 n l] => if n ≤ 1000000 then some (.one (.row 38 2 n l)) else none
  | _ => none
theorem gClonePiece_eq {n : Nat} {l : List Int} (h : n ≤ 1000000) : gClonePiece [.sl .i64 2 n l] = some (.one (.row 38 2 n l)) := if_pos h
theorem clonePiece_d : DFun Try.prog 46 gClonePiece := by
  have hE : EnvOK Try.prog [] := EnvOK.nil
  refine DFun.of tauOK (fn := Try.f46) Try.func46 rfl (by kernel_rfl) rfl rfl ?_
  intro C ds r hg hl
  unfold gClonePiece at hg
  split at hg
  case h_2 => cases hg
  rename_i n l
  split at hg
  case isFalse => cases hg
  rename_i hsm
  cases hg
  refine ⟨by simp, ?_⟩
  obtain ⟨hn, hm, _⟩ := hl
  obtain ⟨c, rfl, rfl⟩ := flat_ex hn
  clear hn
  refine DW.seq ?_
  refine DW.region ?_
  refine DL.go0 tauOK hE rfl (GStep.assign rfl) rfl rfl ?_
  refine DL.nil ?_
  refine DW.sub (T' := [(0, _)]) (Sub.cons rfl Sub.nil) (Sub.refl _) ?_
  refine DW.seq ?_
  refine DW.seq ?_
  refine DW.region ?_
  refine DL.go0 tauOK hE rfl (GStep.move rfl) rfl rfl ?_
  refine DL.nilEq tauOK rfl rfl rfl rfl rfl rfl rfl ?_
  intro b hb
  refine DL.nil ?_
  refine DW.sub (T' := [(0, _), (4, _)]) (Sub.cons rfl (Sub.cons rfl Sub.nil)) (Sub.refl _) ?_
  refine DW.cond rfl (fun h1 => ?_) (fun h1 => ?_)
  · skip
    have h0 := hb h1
    obtain rfl : c = [] := List.eq_nil_of_length_eq_zero h0
    refine DW.seq ?_
    refine DW.region ?_
    refine DL.go0 tauOK hE rfl (GStep.assign rfl) rfl rfl ?_
    refine DL.nil ?_
    refine DW.sub (T' := [(2, _)]) (Sub.cons rfl Sub.nil) (Sub.refl _) ?_
    refine DW.ret ?_
    exact RetD.nl rfl (by omega)
  · skip
    refine DW.skip ?_
    have e : List.take (c.length * 2) (List.drop (0 * 2) (flat c)) = flat c := ys_all (flat_len c)
    refine DW.seq ?_
    refine DW.region ?_
    refine DL.go1 tauOK hE rfl (G.bs0p rfl rfl) rfl rfl rfl ?_
    refine DL.go0 tauOK hE rfl (GStep.move rfl) rfl rfl ?_
    refine DL.app tauOK [] rfl rfl rfl rfl rfl rfl rfl rfl rfl (rfl) rfl rfl rfl rfl rfl (by omega) e (Sub.nil) rfl ?_
    refine DL.go0 tauOK hE rfl (GStep.assign rfl) rfl rfl ?_
    refine DL.nil ?_
    refine DW.sub (T' := [(2, _)]) (Sub.cons rfl Sub.nil) (Sub.refl _) ?_
    refine DW.ret ?_
    rw [Nat.zero_add]
    exact RetD.s1 rfl rfl (by simp [flat, flat_len]) (by omega)
end Go.Proofs.Ytionljjdfgeggaa
