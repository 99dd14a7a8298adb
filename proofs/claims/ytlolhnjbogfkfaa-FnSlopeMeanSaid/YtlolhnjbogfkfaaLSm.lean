/-
  The walk of the statement FnSlopeMean.
-/
import Derived.Test.YtlolhnjbogfkfaaCurQ
import Derived.Test.YtlolhnjbogfkfaaDrawS
namespace Go.Proofs.Ytlolhnjbogfkfaa
open Go.RowKit
set_option linter.unusedVariables false
set_option linter.unusedSimpArgs false
theorem curSl_some' {c : List Kn} {k : Int} {f : Int × Int} (h : curSl c k = some f) : ∃ i : Nat, k = i ∧ curB c = true ∧ i + 1 < c.length ∧ slF c i = some f := by
  cases hb : slB c k
  · rw [curSl_no hb] at h; cases h
  · obtain ⟨i, h1, h2, h3, h4⟩ := slB_inv hb
    exact ⟨i, h1, h2, h3, by rw [← h4]; exact h⟩
theorem curSl_at' {c : List Kn} {i : Nat} (hc : curB c = true) (hi : i + 1 < c.length) : curSl c i = slF c i := by
  unfold curSl
  rw [if_pos ⟨hc, by omega, by omega⟩, Int.toNat_natCast]
theorem fnSlopeMean_dl : DFun Try.prog 3 gL1 := by
  have hE : EnvOK Try.prog [(13, gSl), (14, gSl), (15, gLess)] := EnvOK.cons curveSlope_di (EnvOK.cons curveSlope_ds (EnvOK.cons fracLess_di EnvOK.nil))
  refine DFun.of tauOK (fn := Try.f3) Try.func3 rfl (by kernel_rfl) rfl rfl ?_
  intro C ds r hg hl
  obtain ⟨bs, rfl, rfl, hb, hbl⟩ := gL1_inv hg hl
  clear hg hl
  refine ⟨by simp, ?_⟩
  refine DW.seq ?_
  refine DW.region ?_
  refine DL.go0 tauOK hE rfl (GStep.assign rfl) rfl rfl ?_
  refine DL.nil ?_
  refine DW.sub (T' := [(0, _)]) (Sub.cons rfl Sub.nil) (Sub.refl _) ?_
  refine DW.seq ?_
  refine DW.seq ?_
  refine DW.region ?_
  refine DL.go0 tauOK hE rfl (GStep.move rfl) rfl rfl ?_
  first | refine DL.go0 tauOK hE rfl (GStep.len rfl rfl rfl) rfl rfl ?_ | refine DL.go0 tauOK hE rfl (GStep.lenNil rfl rfl) rfl rfl ?_
  refine DL.go0 tauOK hE rfl (GStep.binI rfl rfl rfl) rfl rfl ?_
  refine DL.nil ?_
  refine DW.sub (T' := [(0, _), (18, _)]) (Sub.cons rfl (Sub.cons rfl Sub.nil)) (Sub.refl _) ?_
  refine DW.cond rfl (fun h1 => ?_) (fun h1 => ?_)
  · skip
    refine DW.seq ?_
    refine DW.region ?_
    refine DL.go0 tauOK hE rfl (GStep.assign rfl) rfl rfl ?_
    refine DL.nil ?_
    refine DW.sub (T' := [(2, _)]) (Sub.cons rfl Sub.nil) (Sub.refl _) ?_
    refine DW.ret ?_
    exact RetD.vb rfl (by first | rfl | simp)
  · skip
    have gd : gDraw (OnN 31000) [.sl .u8 1 bs.length bs] = some (OnN 31000) := if_pos hb
    refine DW.skip ?_
    refine DW.seq ?_
    refine DW.region ?_
    refine DL.go0 tauOK hE rfl (GStep.move rfl) rfl rfl ?_
    refine DL.rel DrawCurveSlope_dr rfl rfl rfl rfl rfl (All2.cons (ArgOf.ro rfl rfl (by simp [flat_len])) All2.nil) (gd) ?_
    rintro r ⟨c, k, rfl, e1, e2, bc, k0, k1⟩
    refine ⟨by simp [resN, rws], ?_⟩
    show DL _ _ _ _ _ _ ((21, .tup [.s 21 _, .v _]) :: _) ((21, .row _ _ _) :: _)
    refine DL.go0 tauOK hE rfl (GStep.move rfl) rfl rfl ?_
    refine DL.go0 tauOK hE rfl (GStep.extr rfl rfl) rfl rfl ?_
    refine DL.go0 tauOK hE rfl (GStep.extr rfl rfl) rfl rfl ?_
    refine DL.go0 tauOK hE rfl (GStep.assign rfl) rfl rfl ?_
    refine DL.go0 tauOK hE rfl (GStep.assign rfl) rfl rfl ?_
    refine DL.nil ?_
    refine DW.sub (T' := [(3, _), (4, _)]) (Sub.cons rfl (Sub.cons rfl Sub.nil)) (Sub.refl _) ?_
    refine DW.seq ?_
    refine DW.region ?_
    refine DL.go0 tauOK hE rfl (GStep.move rfl) rfl rfl ?_
    refine DL.go0 tauOK hE rfl (GStep.move rfl) rfl rfl ?_
    refine DL.go0 tauOK hE rfl (G.call (v := .tup [.v _, .v _]) (news := []) rfl (All2.cons (ArgOf.row rfl rfl (by simp [flat_len])) (All2.cons (ArgOf.v rfl) All2.nil)) (gSl_flat) rfl rfl) rfl rfl ?_
    refine DL.go0 tauOK hE rfl (GStep.move rfl) rfl rfl ?_
    refine DL.go0 tauOK hE rfl (GStep.extr rfl rfl) rfl rfl ?_
    refine DL.go0 tauOK hE rfl (GStep.extr rfl rfl) rfl rfl ?_
    refine DL.go1 tauOK hE rfl (GStep.alloc2 rfl) rfl rfl rfl ?_
    refine DL.sb2 tauOK rfl rfl rfl rfl rfl rfl rfl ?_
    refine DL.go0 tauOK hE rfl (GStep.assign rfl) rfl rfl ?_
    refine DL.nil ?_
    refine DW.sub (T' := [(3, _), (4, _), (5, _), (6, _)]) (Sub.cons rfl (Sub.cons rfl (Sub.cons rfl (Sub.cons rfl Sub.nil)))) (Sub.refl _) ?_
    refine DW.seq ?_
    refine DW.region ?_
    refine DL.go0 tauOK hE rfl (GStep.move rfl) rfl rfl ?_
    refine DL.go0 tauOK hE rfl (GStep.move rfl) rfl rfl ?_
    refine DL.go0 tauOK hE rfl (G.call (v := .tup [.v _, .v _]) (news := []) rfl (All2.cons (ArgOf.row rfl rfl (by simp [flat_len])) (All2.cons (ArgOf.v rfl) All2.nil)) (gSl_flat) rfl rfl) rfl rfl ?_
    refine DL.go0 tauOK hE rfl (GStep.move rfl) rfl rfl ?_
    refine DL.go0 tauOK hE rfl (GStep.extr rfl rfl) rfl rfl ?_
    refine DL.go0 tauOK hE rfl (GStep.extr rfl rfl) rfl rfl ?_
    refine DL.go1 tauOK hE rfl (GStep.alloc2 rfl) rfl rfl rfl ?_
    refine DL.sb2 tauOK rfl rfl rfl rfl rfl rfl rfl ?_
    refine DL.go0 tauOK hE rfl (GStep.assign rfl) rfl rfl ?_
    refine DL.nil ?_
    refine DW.sub (T' := [(3, _), (5, _), (6, _), (7, _), (8, _)]) (Sub.cons rfl (Sub.cons rfl (Sub.cons rfl (Sub.cons rfl (Sub.cons rfl Sub.nil))))) (Sub.refl _) ?_
    refine DW.seq ?_
    refine DW.seq ?_
    cases hs : curSl c k
    · skip
      refine DW.region ?_
      refine DL.go0 tauOK hE rfl (GStep.move rfl) rfl rfl ?_
      refine DL.go0 tauOK hE rfl (GStep.move rfl) rfl rfl ?_
      refine DL.go0 tauOK hE rfl (GStep.neqB rfl rfl rfl) rfl rfl ?_
      refine DL.go0 tauOK hE rfl (GStep.move rfl) rfl rfl ?_
      first | refine DL.skip rfl rfl rfl ?_ | refine DL.go0 tauOK hE rfl (G.lb2 rfl rfl rfl) rfl rfl ?_
      first | refine DL.skip rfl rfl rfl ?_ | refine DL.go0 tauOK hE rfl (G.lb2 rfl rfl rfl) rfl rfl ?_
      first | refine DL.skip rfl rfl rfl ?_ | refine DL.go0 tauOK hE rfl (GStep.neqP rfl rfl rfl) rfl rfl ?_
      first | refine DL.go0 tauOK hE rfl (GStep.pickT rfl rfl) rfl rfl ?_ | refine DL.go0 tauOK hE rfl (GStep.pickF rfl rfl) rfl rfl ?_
      refine DL.go0 tauOK hE rfl (GStep.move rfl) rfl rfl ?_
      first | refine DL.skip rfl rfl rfl ?_ | refine DL.go0 tauOK hE rfl (GStep.move rfl) rfl rfl ?_
      first | refine DL.skip rfl rfl rfl ?_ | refine DL.go0 tauOK hE rfl (GStep.not rfl) rfl rfl ?_
      first | refine DL.go0 tauOK hE rfl (GStep.pickT rfl rfl) rfl rfl ?_ | refine DL.go0 tauOK hE rfl (GStep.pickF rfl rfl) rfl rfl ?_
      refine DL.nil ?_
      refine DW.sub (T' := [(3, _), (5, _), (6, _), (7, _), (8, _), (47, _)]) (Sub.cons rfl (Sub.cons rfl (Sub.cons rfl (Sub.cons rfl (Sub.cons rfl (Sub.cons rfl Sub.nil)))))) (Sub.refl _) ?_
      refine DW.condT rfl ?_
      refine DW.seq ?_
      refine DW.region ?_
      refine DL.go0 tauOK hE rfl (GStep.move rfl) rfl rfl ?_
      refine DL.go0 tauOK hE rfl (GStep.move rfl) rfl rfl ?_
      refine DL.go0 tauOK hE rfl (GStep.eqlB rfl rfl rfl) rfl rfl ?_
      refine DL.go0 tauOK hE rfl (GStep.move rfl) rfl rfl ?_
      first | refine DL.skip rfl rfl rfl ?_ | refine DL.go0 tauOK hE rfl (G.lb2 rfl rfl rfl) rfl rfl ?_
      first | refine DL.skip rfl rfl rfl ?_ | refine DL.go0 tauOK hE rfl (G.lb2 rfl rfl rfl) rfl rfl ?_
      first | refine DL.skip rfl rfl rfl ?_ | refine DL.go0 tauOK hE rfl (GStep.eqlP rfl rfl rfl) rfl rfl ?_
      first | refine DL.go0 tauOK hE rfl (GStep.pickT rfl rfl) rfl rfl ?_ | refine DL.go0 tauOK hE rfl (GStep.pickF rfl rfl) rfl rfl ?_
      refine DL.go0 tauOK hE rfl (GStep.assign rfl) rfl rfl ?_
      refine DL.nil ?_
      refine DW.sub (T' := [(2, _)]) (Sub.cons rfl Sub.nil) (Sub.refl _) ?_
      refine DW.ret ?_
      exact RetD.vb rfl (by first | rfl | simp)
    · skip
      rename_i f
      obtain ⟨i0, rfl, hc, hi0, hf⟩ := curSl_some' hs
      have hcl := cur_len hc
      obtain ⟨f1, f2⟩ := f
      obtain ⟨_, hfv, _⟩ := ofF_some hf
      have hfp := vB_pos hfv
      have hec := ends_cur hc
      obtain ⟨q, hq, _⟩ := sl_tot hec (i := 0) (by simp [endsL])
      obtain ⟨q1, q2⟩ := q
      obtain ⟨m1, m2⟩ := sl_mean hc hq
      have p1 : curSl (endsL c) 0 = some (q1, q2) := (curSl_at' (i := 0) hec (by simp [endsL])).trans hq
      refine DW.region ?_
      refine DL.go0 tauOK hE rfl (GStep.move rfl) rfl rfl ?_
      refine DL.go0 tauOK hE rfl (GStep.move rfl) rfl rfl ?_
      refine DL.go0 tauOK hE rfl (GStep.neqB rfl rfl rfl) rfl rfl ?_
      refine DL.go0 tauOK hE rfl (GStep.move rfl) rfl rfl ?_
      first | refine DL.skip rfl rfl rfl ?_ | refine DL.go0 tauOK hE rfl (G.lb2 rfl rfl rfl) rfl rfl ?_
      first | refine DL.skip rfl rfl rfl ?_ | refine DL.go0 tauOK hE rfl (G.lb2 rfl rfl rfl) rfl rfl ?_
      first | refine DL.skip rfl rfl rfl ?_ | refine DL.go0 tauOK hE rfl (G.fl (GStep.neqP rfl rfl rfl) (by simp)) rfl rfl ?_
      first | refine DL.go0 tauOK hE rfl (GStep.pickT rfl rfl) rfl rfl ?_ | refine DL.go0 tauOK hE rfl (GStep.pickF rfl rfl) rfl rfl ?_
      refine DL.go0 tauOK hE rfl (GStep.move rfl) rfl rfl ?_
      first | refine DL.skip rfl rfl rfl ?_ | refine DL.go0 tauOK hE rfl (GStep.move rfl) rfl rfl ?_
      first | refine DL.skip rfl rfl rfl ?_ | refine DL.go0 tauOK hE rfl (GStep.not rfl) rfl rfl ?_
      first | refine DL.go0 tauOK hE rfl (GStep.pickT rfl rfl) rfl rfl ?_ | refine DL.go0 tauOK hE rfl (GStep.pickF rfl rfl) rfl rfl ?_
      refine DL.nil ?_
      refine DW.sub (T' := [(3, _), (5, _), (6, _), (7, _), (8, _), (47, _)]) (Sub.cons rfl (Sub.cons rfl (Sub.cons rfl (Sub.cons rfl (Sub.cons rfl (Sub.cons rfl Sub.nil)))))) (Sub.refl _) ?_
      refine DW.condF rfl ?_
      refine DW.skip ?_
      refine DW.seq ?_
      refine DW.draw tauOK hE mixed 15 (by kernel_rfl) ?_
      refine DR.go0 rfl (GStep.move rfl) rfl rfl ?_
      refine DR.go0 rfl (G.ia2 (i := 0) rfl rfl rfl rfl rfl rfl rfl (by omega)) rfl rfl ?_
      first | refine DR.go0 rfl (G.le2r rfl rfl rfl (by omega)) rfl rfl ?_ | refine DR.go0 rfl (G.le2w rfl rfl rfl (by omega)) rfl rfl ?_
      refine DR.go0 rfl (GStep.move rfl) rfl rfl ?_
      refine DR.go0 rfl (GStep.move rfl) rfl rfl ?_
      first | refine DR.go0 rfl (GStep.len rfl rfl rfl) rfl rfl ?_ | refine DR.go0 rfl (GStep.lenNil rfl rfl) rfl rfl ?_
      first | refine DR.go0 rfl (G.sub rfl rfl (by omega)) rfl rfl ?_ | refine DR.go0 rfl (GStep.binI rfl rfl rfl) rfl rfl ?_
      refine DR.go0 rfl (G.ia2 (i := c.length - 1) rfl rfl rfl rfl rfl rfl (by omega) (by omega)) rfl rfl ?_
      first | refine DR.go0 rfl (G.le2r rfl rfl rfl (by omega)) rfl rfl ?_ | refine DR.go0 rfl (G.le2w rfl rfl rfl (by omega)) rfl rfl ?_
      refine DR.go1 rfl (G.bs2p rfl rfl rfl rfl) rfl rfl rfl ?_
      refine DR.go0 rfl (G.call (v := .tup [.v _, .v _]) (news := []) rfl (All2.cons (ArgOf.row rfl rfl (by simp [flat_len])) (All2.cons (ArgOf.v rfl) All2.nil)) ((gSl_flat (c := endsL c)).trans (congrArg (fun f => some (rF f)) p1)) rfl rfl) rfl rfl ?_
      refine DR.go0 rfl (GStep.move rfl) rfl rfl ?_
      refine DR.go0 rfl (GStep.extr rfl rfl) rfl rfl ?_
      refine DR.go0 rfl (GStep.extr rfl rfl) rfl rfl ?_
      refine DR.go1 rfl (GStep.alloc2 rfl) rfl rfl rfl ?_
      refine DR.nil ?_
      refine DL.sb2 tauOK rfl rfl rfl rfl rfl rfl rfl ?_
      refine DL.go0 tauOK hE rfl (GStep.assign rfl) rfl rfl ?_
      refine DL.nil ?_
      refine DW.sub (T' := [(3, _), (5, _), (9, _), (10, _)]) (Sub.cons rfl (Sub.cons rfl (Sub.cons rfl (Sub.cons rfl Sub.nil)))) (Sub.refl _) ?_
      refine DW.seq ?_
      refine DW.region ?_
      refine DL.go0 tauOK hE rfl (GStep.assign rfl) rfl rfl ?_
      refine DL.nil ?_
      refine DW.sub (T' := [(3, _), (5, _), (9, _), (10, _), (11, _)]) (Sub.cons rfl (Sub.cons rfl (Sub.cons rfl (Sub.cons rfl (Sub.cons rfl Sub.nil))))) (Sub.refl _) ?_
      refine DW.seq ?_
      refine DW.region ?_
      refine DL.go0 tauOK hE rfl (GStep.assign rfl) rfl rfl ?_
      refine DL.nil ?_
      refine DW.sub (T' := [(3, _), (5, _), (9, _), (10, _), (11, _), (12, _)]) (Sub.cons rfl (Sub.cons rfl (Sub.cons rfl (Sub.cons rfl (Sub.cons rfl (Sub.cons rfl Sub.nil)))))) (Sub.refl _) ?_
      refine DW.seq ?_
      refine DW.seq ?_
      refine DW.region ?_
      refine DL.go0 tauOK hE rfl (GStep.assign rfl) rfl rfl ?_
      refine DL.nil ?_
      refine DW.sub (T' := [(3, _), (5, _), (9, _), (10, _), (11, _), (12, _), (13, _)]) (Sub.cons rfl (Sub.cons rfl (Sub.cons rfl (Sub.cons rfl (Sub.cons rfl (Sub.cons rfl (Sub.cons rfl Sub.nil))))))) (Sub.refl _) ?_
      refine DW.block ?_
      refine DW.loop (α := Nat × Bool × Bool) (fun (i, lo, hi) => [(3, .sl 21 0 c.length), (5, .ptr 5 0), (9, .ptr 9 0), (10, .val (.bool true)), (11, .val (.bool lo)), (12, .val (.bool hi)), (13, .val (.int .i64 (i : Nat)))]) (fun (i, lo, hi) => [(21, .row 31 2 (flat c)), (5, .box 27 [f1, f2]), (9, .box 27 [q1, q2])]) (fun (i, lo, hi) => i + 1 ≤ c.length ∧ lo = lowB c (q1, q2) i ∧ hi = highB c (q1, q2) i) (fun (i, lo, hi) => c.length - i) (0, false, false) (⟨by omega, rfl, rfl⟩) (Sub.cons rfl (Sub.cons rfl (Sub.cons rfl (Sub.cons rfl (Sub.cons rfl (Sub.cons rfl (Sub.cons rfl Sub.nil))))))) (Sub.cons rfl (Sub.cons rfl (Sub.cons rfl Sub.nil))) ?_
      rintro ⟨i, lo, hi⟩ ⟨hi1, hlo, hhi⟩
      skip
      refine DW.seq ?_
      refine DW.seq ?_
      refine DW.region ?_
      refine DL.go0 tauOK hE rfl (GStep.move rfl) rfl rfl ?_
      first | refine DL.go0 tauOK hE rfl (G.add rfl rfl (by omega)) rfl rfl ?_ | refine DL.go0 tauOK hE rfl (GStep.binI rfl rfl rfl) rfl rfl ?_
      refine DL.go0 tauOK hE rfl (GStep.move rfl) rfl rfl ?_
      first | refine DL.go0 tauOK hE rfl (GStep.len rfl rfl rfl) rfl rfl ?_ | refine DL.go0 tauOK hE rfl (GStep.lenNil rfl rfl) rfl rfl ?_
      refine DL.go0 tauOK hE rfl (GStep.binI rfl rfl rfl) rfl rfl ?_
      refine DL.nil ?_
      refine DW.sub (T' := [(3, _), (5, _), (9, _), (10, _), (11, _), (12, _), (13, _), (74, _)]) (Sub.cons rfl (Sub.cons rfl (Sub.cons rfl (Sub.cons rfl (Sub.cons rfl (Sub.cons rfl (Sub.cons rfl (Sub.cons rfl Sub.nil)))))))) (Sub.refl _) ?_
      refine DW.cond rfl (fun hlt => ?_) (fun hlt => ?_)
      · skip
        have hlt : i + 1 < c.length := by simp at hlt; omega
        obtain ⟨s, hs1, _⟩ := sl_tot hc hlt
        obtain ⟨s1, s2⟩ := s
        have p2 : curSl c i = some (s1, s2) := (curSl_at' hc hlt).trans hs1
        have eL := lowB_succ c (q1, q2) i
        have eH := highB_succ c (q1, q2) i
        rw [hs1] at eL eH
        rw [← hlo] at eL
        rw [← hhi] at eH
        refine DW.skip ?_
        refine DW.seq ?_
        refine DW.block ?_
        refine DW.seq ?_
        refine DW.region ?_
        refine DL.go0 tauOK hE rfl (GStep.move rfl) rfl rfl ?_
        refine DL.go0 tauOK hE rfl (GStep.move rfl) rfl rfl ?_
        refine DL.go0 tauOK hE rfl (G.call (v := .tup [.v _, .v _]) (news := []) rfl (All2.cons (ArgOf.row rfl rfl (by simp [flat_len])) (All2.cons (ArgOf.v rfl) All2.nil)) (gSl_flat.trans (congrArg (fun f => some (rF f)) p2)) rfl rfl) rfl rfl ?_
        refine DL.go0 tauOK hE rfl (GStep.move rfl) rfl rfl ?_
        refine DL.go0 tauOK hE rfl (GStep.extr rfl rfl) rfl rfl ?_
        refine DL.go0 tauOK hE rfl (GStep.extr rfl rfl) rfl rfl ?_
        refine DL.go1 tauOK hE rfl (GStep.alloc2 rfl) rfl rfl rfl ?_
        refine DL.sb2 tauOK rfl rfl rfl rfl rfl rfl rfl ?_
        refine DL.go0 tauOK hE rfl (GStep.assign rfl) rfl rfl ?_
        refine DL.nil ?_
        refine DW.sub (T' := [(3, _), (5, _), (9, _), (10, _), (11, _), (12, _), (13, _), (14, _), (15, _)]) (Sub.cons rfl (Sub.cons rfl (Sub.cons rfl (Sub.cons rfl (Sub.cons rfl (Sub.cons rfl (Sub.cons rfl (Sub.cons rfl (Sub.cons rfl Sub.nil))))))))) (Sub.refl _) ?_
        cases lo
        · skip
          refine DW.seq ?_
          refine DW.region ?_
          refine DL.go0 tauOK hE rfl (GStep.move rfl) rfl rfl ?_
          refine DL.go0 tauOK hE rfl (GStep.move rfl) rfl rfl ?_
          first | refine DL.skip rfl rfl rfl ?_ | refine DL.go0 tauOK hE rfl (GStep.move rfl) rfl rfl ?_
          first | refine DL.skip rfl rfl rfl ?_ | refine DL.go0 tauOK hE rfl (GStep.move rfl) rfl rfl ?_
          first | refine DL.skip rfl rfl rfl ?_ | refine DL.go0 tauOK hE rfl (G.lb2 rfl rfl rfl) rfl rfl ?_
          first | refine DL.skip rfl rfl rfl ?_ | refine DL.go0 tauOK hE rfl (G.lb2 rfl rfl rfl) rfl rfl ?_
          first | refine DL.skip rfl rfl rfl ?_ | refine DL.go0 tauOK hE rfl (G.call (v := .val _) (news := []) rfl (All2.cons (ArgOf.v rfl) (All2.cons (ArgOf.v rfl) All2.nil)) (rfl) rfl rfl) rfl rfl ?_
          first | refine DL.skip rfl rfl rfl ?_ | refine DL.go0 tauOK hE rfl (GStep.not rfl) rfl rfl ?_
          first | refine DL.skip rfl rfl rfl ?_ | refine DL.go0 tauOK hE rfl (GStep.pickT rfl rfl) rfl rfl ?_ | refine DL.go0 tauOK hE rfl (GStep.pickF rfl rfl) rfl rfl ?_
          first | refine DL.go0 tauOK hE rfl (GStep.pickT rfl rfl) rfl rfl ?_ | refine DL.go0 tauOK hE rfl (GStep.pickF rfl rfl) rfl rfl ?_
          refine DL.go0 tauOK hE rfl (GStep.assign rfl) rfl rfl ?_
          refine DL.nil ?_
          refine DW.sub (T' := [(3, _), (5, _), (9, _), (10, _), (11, _), (12, _), (13, _), (14, _), (15, _)]) (Sub.cons rfl (Sub.cons rfl (Sub.cons rfl (Sub.cons rfl (Sub.cons rfl (Sub.cons rfl (Sub.cons rfl (Sub.cons rfl (Sub.cons rfl Sub.nil))))))))) (Sub.refl _) ?_
          cases hi
          · skip
            refine DW.region ?_
            refine DL.go0 tauOK hE rfl (GStep.move rfl) rfl rfl ?_
            refine DL.go0 tauOK hE rfl (GStep.move rfl) rfl rfl ?_
            first | refine DL.skip rfl rfl rfl ?_ | refine DL.go0 tauOK hE rfl (GStep.move rfl) rfl rfl ?_
            first | refine DL.skip rfl rfl rfl ?_ | refine DL.go0 tauOK hE rfl (GStep.move rfl) rfl rfl ?_
            first | refine DL.skip rfl rfl rfl ?_ | refine DL.go0 tauOK hE rfl (G.lb2 rfl rfl rfl) rfl rfl ?_
            first | refine DL.skip rfl rfl rfl ?_ | refine DL.go0 tauOK hE rfl (G.lb2 rfl rfl rfl) rfl rfl ?_
            first | refine DL.skip rfl rfl rfl ?_ | refine DL.go0 tauOK hE rfl (G.call (v := .val _) (news := []) rfl (All2.cons (ArgOf.v rfl) (All2.cons (ArgOf.v rfl) All2.nil)) (rfl) rfl rfl) rfl rfl ?_
            first | refine DL.skip rfl rfl rfl ?_ | refine DL.go0 tauOK hE rfl (GStep.not rfl) rfl rfl ?_
            first | refine DL.skip rfl rfl rfl ?_ | refine DL.go0 tauOK hE rfl (GStep.pickT rfl rfl) rfl rfl ?_ | refine DL.go0 tauOK hE rfl (GStep.pickF rfl rfl) rfl rfl ?_
            first | refine DL.go0 tauOK hE rfl (GStep.pickT rfl rfl) rfl rfl ?_ | refine DL.go0 tauOK hE rfl (GStep.pickF rfl rfl) rfl rfl ?_
            refine DL.go0 tauOK hE rfl (GStep.assign rfl) rfl rfl ?_
            refine DL.nil ?_
            refine DW.sub (T' := [(3, _), (5, _), (9, _), (10, _), (11, _), (12, _), (13, _)]) (Sub.cons rfl (Sub.cons rfl (Sub.cons rfl (Sub.cons rfl (Sub.cons rfl (Sub.cons rfl (Sub.cons rfl Sub.nil))))))) (Sub.refl _) ?_
            refine DW.region ?_
            refine DL.go0 tauOK hE rfl (GStep.move rfl) rfl rfl ?_
            first | refine DL.go0 tauOK hE rfl (G.add rfl rfl (by omega)) rfl rfl ?_ | refine DL.go0 tauOK hE rfl (GStep.binI rfl rfl rfl) rfl rfl ?_
            refine DL.go0 tauOK hE rfl (GStep.assign rfl) rfl rfl ?_
            refine DL.nil ?_
            refine ⟨(i + 1, _, _), ⟨hlt, eL.symm, eH.symm⟩, by first | omega | (dsimp only; omega), ?_, ?_⟩
            · exact Sub.cons rfl (Sub.cons rfl (Sub.cons rfl (Sub.cons rfl (Sub.cons rfl (Sub.cons rfl (Sub.cons rfl Sub.nil))))))
            · exact Sub.cons rfl (Sub.cons rfl (Sub.cons rfl Sub.nil))
          · skip
            refine DW.region ?_
            refine DL.go0 tauOK hE rfl (GStep.move rfl) rfl rfl ?_
            refine DL.go0 tauOK hE rfl (GStep.move rfl) rfl rfl ?_
            first | refine DL.skip rfl rfl rfl ?_ | refine DL.go0 tauOK hE rfl (GStep.move rfl) rfl rfl ?_
            first | refine DL.skip rfl rfl rfl ?_ | refine DL.go0 tauOK hE rfl (GStep.move rfl) rfl rfl ?_
            first | refine DL.skip rfl rfl rfl ?_ | refine DL.go0 tauOK hE rfl (G.lb2 rfl rfl rfl) rfl rfl ?_
            first | refine DL.skip rfl rfl rfl ?_ | refine DL.go0 tauOK hE rfl (G.lb2 rfl rfl rfl) rfl rfl ?_
            first | refine DL.skip rfl rfl rfl ?_ | refine DL.go0 tauOK hE rfl (G.call (v := .val _) (news := []) rfl (All2.cons (ArgOf.v rfl) (All2.cons (ArgOf.v rfl) All2.nil)) (rfl) rfl rfl) rfl rfl ?_
            first | refine DL.skip rfl rfl rfl ?_ | refine DL.go0 tauOK hE rfl (GStep.not rfl) rfl rfl ?_
            first | refine DL.skip rfl rfl rfl ?_ | refine DL.go0 tauOK hE rfl (GStep.pickT rfl rfl) rfl rfl ?_ | refine DL.go0 tauOK hE rfl (GStep.pickF rfl rfl) rfl rfl ?_
            first | refine DL.go0 tauOK hE rfl (GStep.pickT rfl rfl) rfl rfl ?_ | refine DL.go0 tauOK hE rfl (GStep.pickF rfl rfl) rfl rfl ?_
            refine DL.go0 tauOK hE rfl (GStep.assign rfl) rfl rfl ?_
            refine DL.nil ?_
            refine DW.sub (T' := [(3, _), (5, _), (9, _), (10, _), (11, _), (12, _), (13, _)]) (Sub.cons rfl (Sub.cons rfl (Sub.cons rfl (Sub.cons rfl (Sub.cons rfl (Sub.cons rfl (Sub.cons rfl Sub.nil))))))) (Sub.refl _) ?_
            refine DW.region ?_
            refine DL.go0 tauOK hE rfl (GStep.move rfl) rfl rfl ?_
            first | refine DL.go0 tauOK hE rfl (G.add rfl rfl (by omega)) rfl rfl ?_ | refine DL.go0 tauOK hE rfl (GStep.binI rfl rfl rfl) rfl rfl ?_
            refine DL.go0 tauOK hE rfl (GStep.assign rfl) rfl rfl ?_
            refine DL.nil ?_
            refine ⟨(i + 1, _, true), ⟨hlt, eL.symm, eH.symm⟩, by first | omega | (dsimp only; omega), ?_, ?_⟩
            · exact Sub.cons rfl (Sub.cons rfl (Sub.cons rfl (Sub.cons rfl (Sub.cons rfl (Sub.cons rfl (Sub.cons rfl Sub.nil))))))
            · exact Sub.cons rfl (Sub.cons rfl (Sub.cons rfl Sub.nil))
        · skip
          refine DW.seq ?_
          refine DW.region ?_
          refine DL.go0 tauOK hE rfl (GStep.move rfl) rfl rfl ?_
          refine DL.go0 tauOK hE rfl (GStep.move rfl) rfl rfl ?_
          first | refine DL.skip rfl rfl rfl ?_ | refine DL.go0 tauOK hE rfl (GStep.move rfl) rfl rfl ?_
          first | refine DL.skip rfl rfl rfl ?_ | refine DL.go0 tauOK hE rfl (GStep.move rfl) rfl rfl ?_
          first | refine DL.skip rfl rfl rfl ?_ | refine DL.go0 tauOK hE rfl (G.lb2 rfl rfl rfl) rfl rfl ?_
          first | refine DL.skip rfl rfl rfl ?_ | refine DL.go0 tauOK hE rfl (G.lb2 rfl rfl rfl) rfl rfl ?_
          first | refine DL.skip rfl rfl rfl ?_ | refine DL.go0 tauOK hE rfl (G.call (v := .val _) (news := []) rfl (All2.cons (ArgOf.v rfl) (All2.cons (ArgOf.v rfl) All2.nil)) (rfl) rfl rfl) rfl rfl ?_
          first | refine DL.skip rfl rfl rfl ?_ | refine DL.go0 tauOK hE rfl (GStep.not rfl) rfl rfl ?_
          first | refine DL.skip rfl rfl rfl ?_ | refine DL.go0 tauOK hE rfl (GStep.pickT rfl rfl) rfl rfl ?_ | refine DL.go0 tauOK hE rfl (GStep.pickF rfl rfl) rfl rfl ?_
          first | refine DL.go0 tauOK hE rfl (GStep.pickT rfl rfl) rfl rfl ?_ | refine DL.go0 tauOK hE rfl (GStep.pickF rfl rfl) rfl rfl ?_
          refine DL.go0 tauOK hE rfl (GStep.assign rfl) rfl rfl ?_
          refine DL.nil ?_
          refine DW.sub (T' := [(3, _), (5, _), (9, _), (10, _), (11, _), (12, _), (13, _), (14, _), (15, _)]) (Sub.cons rfl (Sub.cons rfl (Sub.cons rfl (Sub.cons rfl (Sub.cons rfl (Sub.cons rfl (Sub.cons rfl (Sub.cons rfl (Sub.cons rfl Sub.nil))))))))) (Sub.refl _) ?_
          cases hi
          · skip
            refine DW.region ?_
            refine DL.go0 tauOK hE rfl (GStep.move rfl) rfl rfl ?_
            refine DL.go0 tauOK hE rfl (GStep.move rfl) rfl rfl ?_
            first | refine DL.skip rfl rfl rfl ?_ | refine DL.go0 tauOK hE rfl (GStep.move rfl) rfl rfl ?_
            first | refine DL.skip rfl rfl rfl ?_ | refine DL.go0 tauOK hE rfl (GStep.move rfl) rfl rfl ?_
            first | refine DL.skip rfl rfl rfl ?_ | refine DL.go0 tauOK hE rfl (G.lb2 rfl rfl rfl) rfl rfl ?_
            first | refine DL.skip rfl rfl rfl ?_ | refine DL.go0 tauOK hE rfl (G.lb2 rfl rfl rfl) rfl rfl ?_
            first | refine DL.skip rfl rfl rfl ?_ | refine DL.go0 tauOK hE rfl (G.call (v := .val _) (news := []) rfl (All2.cons (ArgOf.v rfl) (All2.cons (ArgOf.v rfl) All2.nil)) (rfl) rfl rfl) rfl rfl ?_
            first | refine DL.skip rfl rfl rfl ?_ | refine DL.go0 tauOK hE rfl (GStep.not rfl) rfl rfl ?_
            first | refine DL.skip rfl rfl rfl ?_ | refine DL.go0 tauOK hE rfl (GStep.pickT rfl rfl) rfl rfl ?_ | refine DL.go0 tauOK hE rfl (GStep.pickF rfl rfl) rfl rfl ?_
            first | refine DL.go0 tauOK hE rfl (GStep.pickT rfl rfl) rfl rfl ?_ | refine DL.go0 tauOK hE rfl (GStep.pickF rfl rfl) rfl rfl ?_
            refine DL.go0 tauOK hE rfl (GStep.assign rfl) rfl rfl ?_
            refine DL.nil ?_
            refine DW.sub (T' := [(3, _), (5, _), (9, _), (10, _), (11, _), (12, _), (13, _)]) (Sub.cons rfl (Sub.cons rfl (Sub.cons rfl (Sub.cons rfl (Sub.cons rfl (Sub.cons rfl (Sub.cons rfl Sub.nil))))))) (Sub.refl _) ?_
            refine DW.region ?_
            refine DL.go0 tauOK hE rfl (GStep.move rfl) rfl rfl ?_
            first | refine DL.go0 tauOK hE rfl (G.add rfl rfl (by omega)) rfl rfl ?_ | refine DL.go0 tauOK hE rfl (GStep.binI rfl rfl rfl) rfl rfl ?_
            refine DL.go0 tauOK hE rfl (GStep.assign rfl) rfl rfl ?_
            refine DL.nil ?_
            refine ⟨(i + 1, true, _), ⟨hlt, eL.symm, eH.symm⟩, by first | omega | (dsimp only; omega), ?_, ?_⟩
            · exact Sub.cons rfl (Sub.cons rfl (Sub.cons rfl (Sub.cons rfl (Sub.cons rfl (Sub.cons rfl (Sub.cons rfl Sub.nil))))))
            · exact Sub.cons rfl (Sub.cons rfl (Sub.cons rfl Sub.nil))
          · skip
            refine DW.region ?_
            refine DL.go0 tauOK hE rfl (GStep.move rfl) rfl rfl ?_
            refine DL.go0 tauOK hE rfl (GStep.move rfl) rfl rfl ?_
            first | refine DL.skip rfl rfl rfl ?_ | refine DL.go0 tauOK hE rfl (GStep.move rfl) rfl rfl ?_
            first | refine DL.skip rfl rfl rfl ?_ | refine DL.go0 tauOK hE rfl (GStep.move rfl) rfl rfl ?_
            first | refine DL.skip rfl rfl rfl ?_ | refine DL.go0 tauOK hE rfl (G.lb2 rfl rfl rfl) rfl rfl ?_
            first | refine DL.skip rfl rfl rfl ?_ | refine DL.go0 tauOK hE rfl (G.lb2 rfl rfl rfl) rfl rfl ?_
            first | refine DL.skip rfl rfl rfl ?_ | refine DL.go0 tauOK hE rfl (G.call (v := .val _) (news := []) rfl (All2.cons (ArgOf.v rfl) (All2.cons (ArgOf.v rfl) All2.nil)) (rfl) rfl rfl) rfl rfl ?_
            first | refine DL.skip rfl rfl rfl ?_ | refine DL.go0 tauOK hE rfl (GStep.not rfl) rfl rfl ?_
            first | refine DL.skip rfl rfl rfl ?_ | refine DL.go0 tauOK hE rfl (GStep.pickT rfl rfl) rfl rfl ?_ | refine DL.go0 tauOK hE rfl (GStep.pickF rfl rfl) rfl rfl ?_
            first | refine DL.go0 tauOK hE rfl (GStep.pickT rfl rfl) rfl rfl ?_ | refine DL.go0 tauOK hE rfl (GStep.pickF rfl rfl) rfl rfl ?_
            refine DL.go0 tauOK hE rfl (GStep.assign rfl) rfl rfl ?_
            refine DL.nil ?_
            refine DW.sub (T' := [(3, _), (5, _), (9, _), (10, _), (11, _), (12, _), (13, _)]) (Sub.cons rfl (Sub.cons rfl (Sub.cons rfl (Sub.cons rfl (Sub.cons rfl (Sub.cons rfl (Sub.cons rfl Sub.nil))))))) (Sub.refl _) ?_
            refine DW.region ?_
            refine DL.go0 tauOK hE rfl (GStep.move rfl) rfl rfl ?_
            first | refine DL.go0 tauOK hE rfl (G.add rfl rfl (by omega)) rfl rfl ?_ | refine DL.go0 tauOK hE rfl (GStep.binI rfl rfl rfl) rfl rfl ?_
            refine DL.go0 tauOK hE rfl (GStep.assign rfl) rfl rfl ?_
            refine DL.nil ?_
            refine ⟨(i + 1, true, true), ⟨hlt, eL.symm, eH.symm⟩, by first | omega | (dsimp only; omega), ?_, ?_⟩
            · exact Sub.cons rfl (Sub.cons rfl (Sub.cons rfl (Sub.cons rfl (Sub.cons rfl (Sub.cons rfl (Sub.cons rfl Sub.nil))))))
            · exact Sub.cons rfl (Sub.cons rfl (Sub.cons rfl Sub.nil))
      · skip
        have hlt : i = c.length - 1 := by simp at hlt; omega
        subst hlt
        rw [m1] at hlo
        rw [m2] at hhi
        subst hlo hhi
        refine DW.exit ?_
        refine DW.seq ?_
        refine DW.region ?_
        refine DL.go0 tauOK hE rfl (GStep.move rfl) rfl rfl ?_
        refine DL.go0 tauOK hE rfl (GStep.move rfl) rfl rfl ?_
        first | refine DL.skip rfl rfl rfl ?_ | refine DL.go0 tauOK hE rfl (GStep.move rfl) rfl rfl ?_
        first | refine DL.go0 tauOK hE rfl (GStep.pickT rfl rfl) rfl rfl ?_ | refine DL.go0 tauOK hE rfl (GStep.pickF rfl rfl) rfl rfl ?_
        refine DL.go0 tauOK hE rfl (GStep.move rfl) rfl rfl ?_
        first | refine DL.skip rfl rfl rfl ?_ | refine DL.go0 tauOK hE rfl (GStep.move rfl) rfl rfl ?_
        first | refine DL.go0 tauOK hE rfl (GStep.pickT rfl rfl) rfl rfl ?_ | refine DL.go0 tauOK hE rfl (GStep.pickF rfl rfl) rfl rfl ?_
        refine DL.go0 tauOK hE rfl (GStep.move rfl) rfl rfl ?_
        first | refine DL.skip rfl rfl rfl ?_ | refine DL.go0 tauOK hE rfl (G.fa rfl rfl rfl (by decide)) rfl rfl ?_
        first | refine DL.skip rfl rfl rfl ?_ | refine DL.go0 tauOK hE rfl (G.lbf1 rfl rfl rfl) rfl rfl ?_
        first | refine DL.skip rfl rfl rfl ?_ | refine DL.go0 tauOK hE rfl (G.tr (GStep.binI rfl rfl rfl) (by simpa using hfp)) rfl rfl ?_
        first | refine DL.go0 tauOK hE rfl (GStep.pickT rfl rfl) rfl rfl ?_ | refine DL.go0 tauOK hE rfl (GStep.pickF rfl rfl) rfl rfl ?_
        refine DL.go0 tauOK hE rfl (GStep.assign rfl) rfl rfl ?_
        refine DL.nil ?_
        refine DW.sub (T' := [(2, _)]) (Sub.cons rfl Sub.nil) (Sub.refl _) ?_
        refine DW.ret ?_
        exact RetD.vb rfl (by first | rfl | simp)
end Go.Proofs.Ytlolhnjbogfkfaa
