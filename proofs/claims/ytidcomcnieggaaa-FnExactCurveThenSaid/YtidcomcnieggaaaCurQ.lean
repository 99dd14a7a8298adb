/-
  What the reference's curves give at fractions and numbers; curves behind each other; walked by the plain machine.
-/
import Derived.Test.YtidcomcnieggaaaCurP
namespace Go.Proofs.Ytidcomcnieggaaa
open Go.RowKit
set_option linter.unusedVariables false
set_option linter.unusedSimpArgs false
def gWhole : List AD → Option RD
  | [.v (.int .i64 n)] => some (.one (.v (.agg #[.int .i64 n, .int .i64 1])))
  | _ => none
theorem l11Whole_ds : DFun Try.prog 51 gWhole := by
  have hE : EnvOK Try.prog [] := EnvOK.nil
  refine DFun.of tauOK (fn := Try.f51) Try.func51 rfl (by kernel_rfl) rfl rfl ?_
  intro C ds r hg hl
  unfold gWhole at hg
  split at hg
  case h_2 => cases hg
  rename_i n
  cases hg
  refine ⟨by simp, ?_⟩
  refine DW.seq ?_
  refine DW.region ?_
  refine DL.go1 tauOK hE rfl (GStep.alloc2 rfl) rfl rfl rfl ?_
  refine DL.nil ?_
  refine DW.sub (T' := [(0, _), (2, _)]) (Sub.cons rfl (Sub.cons rfl Sub.nil)) (Sub.refl _) ?_
  refine DW.seq ?_
  refine DW.region ?_
  refine DL.go0 tauOK hE rfl (GStep.move rfl) rfl rfl ?_
  refine DL.go0 tauOK hE rfl (G.b01 rfl rfl rfl) rfl rfl ?_
  refine DL.sb2 tauOK rfl rfl rfl rfl rfl rfl rfl ?_
  refine DL.nil ?_
  refine DW.sub (T' := [(2, _)]) (Sub.cons rfl Sub.nil) (Sub.refl _) ?_
  refine DW.ret ?_
  exact ⟨_, rfl, RV.cell rfl rfl rfl⟩
theorem ltF_wl {a n d : Int} (ha : -1000000000 ≤ a ∧ a ≤ 1000000000) (hv : vB n d = true) : ltF (a, 1) (n, d) = decide (a * d < n) := by
  unfold ltF
  rw [Bool.eq_iff_iff, decide_eq_true_eq, decide_eq_true_eq]
  simp only [Int.mul_one]
  exact ⟨fun h => h.2.2, fun h => ⟨vB_int ha, hv, h⟩⟩
theorem ltF_wr {a n d : Int} (ha : -1000000000 ≤ a ∧ a ≤ 1000000000) (hv : vB n d = true) : ltF (n, d) (a, 1) = decide (n < a * d) := by
  unfold ltF
  rw [Bool.eq_iff_iff, decide_eq_true_eq, decide_eq_true_eq]
  simp only [Int.mul_one]
  exact ⟨fun h => h.2.2, fun h => ⟨hv, vB_int ha, h⟩⟩
def inC (c : List Kn) (n d : Int) : Bool := !decide (n < kx c 0 * d) && !decide (kx c (c.length - 1) * d < n)
def gAtS : List AD → Option RD
  | [.sl .i64 2 _ l, .v (.agg ⟨[.int .i64 n, .int .i64 d]⟩)] => if curB (unflat l) = true ∧ vB n d = true ∧ inC (unflat l) n d = true then some (rF (atF (unflat l) n d)) else none
  | _ => none
theorem gAtS_flat {m : Nat} {c : List Kn} {n d : Int} (h : curB c = true) (hv : vB n d = true) (hi : inC c n d = true) : gAtS [.sl .i64 2 m (flat c), .v (.agg #[.int .i64 n, .int .i64 d])] = some (rF (atF c n d)) := by
  show (if _ then _ else _) = _
  rw [unflat_flat, if_pos ⟨h, hv, hi⟩]
def gInC : List AD → Option RD
  | [.sl .i64 2 _ l, .v (.agg ⟨[.int .i64 n, .int .i64 d]⟩)] => if curB (unflat l) = true ∧ vB n d = true then some (.one (.v (.bool (inC (unflat l) n d)))) else none
  | _ => none
theorem gInC_flat {m : Nat} {c : List Kn} {n d : Int} (h : curB c = true) (hv : vB n d = true) : gInC [.sl .i64 2 m (flat c), .v (.agg #[.int .i64 n, .int .i64 d])] = some (.one (.v (.bool (inC c n d)))) := by
  show (if _ then _ else _) = _
  rw [unflat_flat, if_pos ⟨h, hv⟩]
theorem atR_none : ∀ {c : List Kn} {n d : Int}, (∀ k ∈ c, k.1 * d < n) → atR n d c = none
  | [], _, _, _ => rfl
  | [a], _, _, _ => rfl
  | a :: b :: r, n, d, h => by
    unfold atR
    rw [if_pos (h b (by simp))]
    exact atR_none fun k hk => h k (List.mem_cons_of_mem _ hk)
theorem atF_out {c : List Kn} (h : curB c = true) {n d : Int} (hd : 1 ≤ d) (hi : inC c n d = false) : atF c n d = none := by
  unfold atF
  by_cases h0 : n < kx c 0 * d
  · rw [if_pos h0]
  · rw [if_neg h0]
    have h1 : kx c (c.length - 1) * d < n := by
      unfold inC at hi
      rw [decide_eq_false h0] at hi
      simpa using hi
    refine atR_none fun k hk => ?_
    have h2 := (mem_le_last h hk).1
    have := Int.mul_le_mul_of_nonneg_right h2 (show 0 ≤ d by omega)
    omega
theorem l11At_ds : DFun Try.prog 50 gAtS := by
  have hE : EnvOK Try.prog [(51, gWhole), (62, gLess), (63, gOf), (64, gSub), (65, gMul), (66, gAdd)] := EnvOK.cons l11Whole_ds (EnvOK.cons fracLess_ds (EnvOK.cons fracOf_ds (EnvOK.cons fracSub_ds (EnvOK.cons fracMul_ds (EnvOK.cons fracAdd_ds EnvOK.nil)))))
  refine DFun.of tauOK (fn := Try.f50) Try.func50 rfl (by kernel_rfl) rfl rfl ?_
  intro C ds r hg hl
  unfold gAtS at hg
  split at hg
  case h_2 => cases hg
  rename_i m l n d
  split at hg
  case isFalse => cases hg
  rename_i hcond
  obtain ⟨hc, hv, hin⟩ := hcond
  cases hg
  refine ⟨by simp, ?_⟩
  obtain ⟨hn, hm, _⟩ := hl
  obtain ⟨c, rfl, rfl⟩ := flat_ex hn
  clear hn
  rw [unflat_flat] at hc hin ⊢
  have hcl := cur_len hc
  have hvb := vB_bd hv
  unfold inC at hin
  simp only [Bool.and_eq_true, Bool.not_eq_true', decide_eq_false_iff_not] at hin
  obtain ⟨hi1, hi2⟩ := hin
  have hat : atF c n d = atR n d c := by unfold atF; rw [if_neg hi1]
  refine DW.seq ?_
  refine DW.region ?_
  refine DL.go1 tauOK hE rfl (GStep.box2 rfl) rfl rfl rfl ?_
  refine DL.go1 tauOK hE rfl (GStep.alloc2 rfl) rfl rfl rfl ?_
  refine DL.go0 tauOK hE rfl (GStep.assign rfl) rfl rfl ?_
  refine DL.nil ?_
  refine DW.sub (T' := [(0, _), (3, _), (4, _)]) (Sub.cons rfl (Sub.cons rfl (Sub.cons rfl Sub.nil))) (Sub.refl _) ?_
  refine DW.seq ?_
  refine DW.region ?_
  refine DL.go0 tauOK hE rfl (GStep.assign rfl) rfl rfl ?_
  refine DL.nil ?_
  refine DW.sub (T' := [(0, _), (3, _), (4, _), (6, _)]) (Sub.cons rfl (Sub.cons rfl (Sub.cons rfl (Sub.cons rfl Sub.nil)))) (Sub.refl _) ?_
  refine DW.seq ?_
  refine DW.block ?_
  refine DW.loop (α := Nat) (fun k => [(0, .sl 0 0 c.length), (3, .ptr 3 0), (4, .ptr 4 0), (6, .val (.int .i64 (k : Nat)))]) (fun k => [(0, .ro .i64 2 (flat c)), (3, .box 32 [n, d]), (4, .box 32 [0, 0])]) (fun k => 1 ≤ k ∧ k < c.length ∧ kx c (k - 1) * d ≤ n ∧ atR n d c = atR n d (c.drop (k - 1))) (fun k => c.length - k) 1 (⟨by omega, by omega, by show kx c 0 * d ≤ n; omega, rfl⟩) (Sub.cons rfl (Sub.cons rfl (Sub.cons rfl (Sub.cons rfl Sub.nil)))) (Sub.cons rfl (Sub.cons rfl (Sub.cons rfl Sub.nil))) ?_
  rintro k ⟨hk1, hk, hge, hR⟩
  skip
  have bk := cur_bd hc hk
  have hlt0 : ltF ((c.getD k (0, 0)).1, 1) (n, d) = decide (kx c k * d < n) := ltF_wl (by unfold kx at bk; omega) hv
  have hgo := atR_go' hk1 hk n d
  by_cases hx : kx c k * d < n
  · skip
    rw [if_pos hx] at hgo
    have hk2 : k + 1 < c.length := by
      by_cases e : k = c.length - 1
      · subst e; exact absurd hx hi2
      · omega
    refine DW.seq ?_
    refine DW.seq ?_
    refine DW.draw tauOK hE mixed 8 (by kernel_rfl) ?_
    refine DR.go0 rfl (GStep.move rfl) rfl rfl ?_
    refine DR.go0 rfl (GStep.move rfl) rfl rfl ?_
    refine DR.go0 rfl (G.ia2 rfl rfl rfl rfl rfl rfl rfl (by omega)) rfl rfl ?_
    refine DR.go0 rfl (G.fa rfl rfl rfl (by decide)) rfl rfl ?_
    first | refine DR.go0 rfl (G.lf0r rfl rfl rfl (by omega)) rfl rfl ?_ | refine DR.go0 rfl (G.lf0w rfl rfl rfl (by omega)) rfl rfl ?_
    refine DR.go0 rfl (G.call (v := .val _) (news := []) rfl (All2.cons (ArgOf.v rfl) All2.nil) (rfl) rfl rfl) rfl rfl ?_
    refine DR.go0 rfl (G.lb2 rfl rfl rfl) rfl rfl ?_
    refine DR.go0 rfl (G.tr (G.call (v := .val _) (news := []) rfl (All2.cons (ArgOf.v rfl) (All2.cons (ArgOf.v rfl) All2.nil)) (rfl) rfl rfl) (by rw [hlt0]; simpa using hx)) rfl rfl ?_
    refine DR.nil ?_
    refine DL.nil ?_
    refine DW.sub (T' := [(0, _), (3, _), (4, _), (6, _), (22, _)]) (Sub.cons rfl (Sub.cons rfl (Sub.cons rfl (Sub.cons rfl (Sub.cons rfl Sub.nil))))) (Sub.refl _) ?_
    refine DW.condT rfl ?_
    refine DW.skip ?_
    refine DW.block ?_
    refine DW.region ?_
    refine DL.go0 tauOK hE rfl (GStep.move rfl) rfl rfl ?_
    first | refine DL.go0 tauOK hE rfl (G.add rfl rfl (by omega)) rfl rfl ?_ | refine DL.go0 tauOK hE rfl (GStep.binI rfl rfl rfl) rfl rfl ?_
    refine DL.go0 tauOK hE rfl (GStep.assign rfl) rfl rfl ?_
    refine DL.nil ?_
    refine ⟨k + 1, ⟨by omega, by omega, by show kx c k * d ≤ n; omega, by rw [hR, hgo]; rfl⟩, by first | omega | (dsimp only; omega), ?_, ?_⟩
    · exact Sub.cons rfl (Sub.cons rfl (Sub.cons rfl (Sub.cons rfl Sub.nil)))
    · exact Sub.cons rfl (Sub.cons rfl (Sub.cons rfl Sub.nil))
  · skip
    rw [if_neg hx] at hgo
    have ba := cur_bd hc (i := k - 1) (by omega)
    obtain ⟨s, u, hs, hu, hno, hyes⟩ := spec_part (a := c.getD (k - 1) (0, 0)) (b := c.getD k (0, 0)) (cur_lt2 hc (show k - 1 < k by omega) hk) ba bk hv hge (by show n ≤ kx c k * d; omega)
    rw [hat, hR, hgo]
    obtain ⟨s1, s2⟩ := s
    obtain ⟨u1, u2⟩ := u
    unfold kx ky at ba bk
    refine DW.seq ?_
    refine DW.seq ?_
    refine DW.draw tauOK hE mixed 8 (by kernel_rfl) ?_
    refine DR.go0 rfl (GStep.move rfl) rfl rfl ?_
    refine DR.go0 rfl (GStep.move rfl) rfl rfl ?_
    refine DR.go0 rfl (G.ia2 rfl rfl rfl rfl rfl rfl rfl (by omega)) rfl rfl ?_
    refine DR.go0 rfl (G.fa rfl rfl rfl (by decide)) rfl rfl ?_
    first | refine DR.go0 rfl (G.lf0r rfl rfl rfl (by omega)) rfl rfl ?_ | refine DR.go0 rfl (G.lf0w rfl rfl rfl (by omega)) rfl rfl ?_
    refine DR.go0 rfl (G.call (v := .val _) (news := []) rfl (All2.cons (ArgOf.v rfl) All2.nil) (rfl) rfl rfl) rfl rfl ?_
    refine DR.go0 rfl (G.lb2 rfl rfl rfl) rfl rfl ?_
    refine DR.go0 rfl (G.fl (G.call (v := .val _) (news := []) rfl (All2.cons (ArgOf.v rfl) (All2.cons (ArgOf.v rfl) All2.nil)) (rfl) rfl rfl) (by rw [hlt0]; simpa using hx)) rfl rfl ?_
    refine DR.nil ?_
    refine DL.nil ?_
    refine DW.sub (T' := [(0, _), (3, _), (4, _), (6, _), (22, _)]) (Sub.cons rfl (Sub.cons rfl (Sub.cons rfl (Sub.cons rfl (Sub.cons rfl Sub.nil))))) (Sub.refl _) ?_
    refine DW.condF rfl ?_
    refine DW.exit ?_
    refine DW.seq ?_
    refine DW.region ?_
    refine DL.go0 tauOK hE rfl (GStep.move rfl) rfl rfl ?_
    refine DL.go0 tauOK hE rfl (GStep.move rfl) rfl rfl ?_
    first | refine DL.go0 tauOK hE rfl (G.sub rfl rfl (by omega)) rfl rfl ?_ | refine DL.go0 tauOK hE rfl (GStep.binI rfl rfl rfl) rfl rfl ?_
    refine DL.go0 tauOK hE rfl (G.ia2 (i := k - 1) rfl rfl rfl rfl rfl rfl (by omega) (by omega)) rfl rfl ?_
    first | refine DL.go0 tauOK hE rfl (G.le2r rfl rfl rfl (by omega)) rfl rfl ?_ | refine DL.go0 tauOK hE rfl (G.le2w rfl rfl rfl (by omega)) rfl rfl ?_
    refine DL.go1 tauOK hE rfl (GStep.alloc2 rfl) rfl rfl rfl ?_
    refine DL.sb2 tauOK rfl rfl rfl rfl rfl rfl rfl ?_
    refine DL.nil ?_
    refine DW.sub (T' := [(0, _), (3, _), (4, _), (6, _), (7, _)]) (Sub.cons rfl (Sub.cons rfl (Sub.cons rfl (Sub.cons rfl (Sub.cons rfl Sub.nil))))) (Sub.refl _) ?_
    refine DW.seq ?_
    refine DW.region ?_
    refine DL.go0 tauOK hE rfl (GStep.move rfl) rfl rfl ?_
    refine DL.go0 tauOK hE rfl (GStep.move rfl) rfl rfl ?_
    refine DL.go0 tauOK hE rfl (G.ia2 rfl rfl rfl rfl rfl rfl rfl (by omega)) rfl rfl ?_
    first | refine DL.go0 tauOK hE rfl (G.le2r rfl rfl rfl (by omega)) rfl rfl ?_ | refine DL.go0 tauOK hE rfl (G.le2w rfl rfl rfl (by omega)) rfl rfl ?_
    refine DL.go1 tauOK hE rfl (GStep.alloc2 rfl) rfl rfl rfl ?_
    refine DL.sb2 tauOK rfl rfl rfl rfl rfl rfl rfl ?_
    refine DL.nil ?_
    refine DW.sub (T' := [(3, _), (4, _), (7, _), (8, _)]) (Sub.cons rfl (Sub.cons rfl (Sub.cons rfl (Sub.cons rfl Sub.nil)))) (Sub.refl _) ?_
    refine DW.seq ?_
    refine DW.region ?_
    refine DL.go0 tauOK hE rfl (G.fa rfl rfl rfl (by decide)) rfl rfl ?_
    refine DL.go0 tauOK hE rfl (G.lbf1 rfl rfl rfl) rfl rfl ?_
    refine DL.go0 tauOK hE rfl (G.fa rfl rfl rfl (by decide)) rfl rfl ?_
    refine DL.go0 tauOK hE rfl (G.lbf1 rfl rfl rfl) rfl rfl ?_
    first | refine DL.go0 tauOK hE rfl (G.sub rfl rfl (by omega)) rfl rfl ?_ | refine DL.go0 tauOK hE rfl (GStep.binI rfl rfl rfl) rfl rfl ?_
    refine DL.go0 tauOK hE rfl (G.fa rfl rfl rfl (by decide)) rfl rfl ?_
    refine DL.go0 tauOK hE rfl (G.lbf0 rfl rfl rfl) rfl rfl ?_
    refine DL.go0 tauOK hE rfl (G.fa rfl rfl rfl (by decide)) rfl rfl ?_
    refine DL.go0 tauOK hE rfl (G.lbf0 rfl rfl rfl) rfl rfl ?_
    first | refine DL.go0 tauOK hE rfl (G.sub rfl rfl (by omega)) rfl rfl ?_ | refine DL.go0 tauOK hE rfl (GStep.binI rfl rfl rfl) rfl rfl ?_
    refine DL.go0 tauOK hE rfl (G.call (v := .tup [.v _, .v _]) (news := []) rfl (All2.cons (ArgOf.v rfl) (All2.cons (ArgOf.v rfl) All2.nil)) (congrArg (fun f => some (rF f)) hs) rfl rfl) rfl rfl ?_
    refine DL.go0 tauOK hE rfl (GStep.move rfl) rfl rfl ?_
    refine DL.go0 tauOK hE rfl (GStep.extr rfl rfl) rfl rfl ?_
    refine DL.go0 tauOK hE rfl (GStep.extr rfl rfl) rfl rfl ?_
    refine DL.go1 tauOK hE rfl (GStep.alloc2 rfl) rfl rfl rfl ?_
    refine DL.sb2 tauOK rfl rfl rfl rfl rfl rfl rfl ?_
    refine DL.go0 tauOK hE rfl (GStep.assign rfl) rfl rfl ?_
    refine DL.nil ?_
    refine DW.sub (T' := [(3, _), (4, _), (7, _), (9, _)]) (Sub.cons rfl (Sub.cons rfl (Sub.cons rfl (Sub.cons rfl Sub.nil)))) (Sub.refl _) ?_
    refine DW.seq ?_
    refine DW.draw tauOK hE mixed 9 (by kernel_rfl) ?_
    refine DR.go0 rfl (G.lb2 rfl rfl rfl) rfl rfl ?_
    refine DR.go0 rfl (G.fa rfl rfl rfl (by decide)) rfl rfl ?_
    refine DR.go0 rfl (G.lbf0 rfl rfl rfl) rfl rfl ?_
    refine DR.go0 rfl (G.call (v := .val _) (news := []) rfl (All2.cons (ArgOf.v rfl) All2.nil) (rfl) rfl rfl) rfl rfl ?_
    refine DR.go0 rfl (G.call (v := .tup [.v _, .v _]) (news := []) rfl (All2.cons (ArgOf.v rfl) (All2.cons (ArgOf.v rfl) All2.nil)) (congrArg (fun f => some (rF f)) hu) rfl rfl) rfl rfl ?_
    refine DR.go0 rfl (GStep.move rfl) rfl rfl ?_
    refine DR.go0 rfl (GStep.extr rfl rfl) rfl rfl ?_
    refine DR.go0 rfl (GStep.extr rfl rfl) rfl rfl ?_
    refine DR.go1 rfl (GStep.alloc2 rfl) rfl rfl rfl ?_
    refine DR.nil ?_
    refine DL.sb2 tauOK rfl rfl rfl rfl rfl rfl rfl ?_
    refine DL.go0 tauOK hE rfl (GStep.assign rfl) rfl rfl ?_
    refine DL.nil ?_
    refine DW.sub (T' := [(4, _), (7, _), (9, _), (11, _), (12, _)]) (Sub.cons rfl (Sub.cons rfl (Sub.cons rfl (Sub.cons rfl (Sub.cons rfl Sub.nil))))) (Sub.refl _) ?_
    cases hm : mulF (u1, u2) (s1, s2)
    · have hno := hno hm
      unfold kx ky
      rw [hno]
      refine DW.seq ?_
      refine DW.region ?_
      refine DL.go0 tauOK hE rfl (G.lb2 rfl rfl rfl) rfl rfl ?_
      refine DL.go0 tauOK hE rfl (G.lb2 rfl rfl rfl) rfl rfl ?_
      refine DL.go0 tauOK hE rfl (G.call (v := .tup [.v _, .v _]) (news := []) rfl (All2.cons (ArgOf.v rfl) (All2.cons (ArgOf.v rfl) All2.nil)) (congrArg (fun f => some (rF f)) (show mulF (fN (some (u1, u2)), fD (some (u1, u2))) (fN (some (s1, s2)), fD (some (s1, s2))) = none from hm)) rfl rfl) rfl rfl ?_
      refine DL.go0 tauOK hE rfl (GStep.move rfl) rfl rfl ?_
      refine DL.go0 tauOK hE rfl (GStep.extr rfl rfl) rfl rfl ?_
      refine DL.go0 tauOK hE rfl (GStep.extr rfl rfl) rfl rfl ?_
      refine DL.go1 tauOK hE rfl (GStep.alloc2 rfl) rfl rfl rfl ?_
      refine DL.sb2 tauOK rfl rfl rfl rfl rfl rfl rfl ?_
      refine DL.go0 tauOK hE rfl (GStep.assign rfl) rfl rfl ?_
      refine DL.nil ?_
      refine DW.sub (T' := [(4, _), (7, _), (12, _), (13, _), (14, _)]) (Sub.cons rfl (Sub.cons rfl (Sub.cons rfl (Sub.cons rfl (Sub.cons rfl Sub.nil))))) (Sub.refl _) ?_
      refine DW.seq ?_
      refine DW.seq ?_
      refine DW.region ?_
      refine DL.go0 tauOK hE rfl (GStep.move rfl) rfl rfl ?_
      refine DL.go0 tauOK hE rfl (GStep.not rfl) rfl rfl ?_
      refine DL.go0 tauOK hE rfl (GStep.move rfl) rfl rfl ?_
      first | refine DL.skip rfl rfl rfl ?_ | refine DL.go0 tauOK hE rfl (GStep.move rfl) rfl rfl ?_
      first | refine DL.skip rfl rfl rfl ?_ | refine DL.go0 tauOK hE rfl (GStep.not rfl) rfl rfl ?_
      first | refine DL.go0 tauOK hE rfl (GStep.pickT rfl rfl) rfl rfl ?_ | refine DL.go0 tauOK hE rfl (GStep.pickF rfl rfl) rfl rfl ?_
      refine DL.nil ?_
      refine DW.sub (T' := [(4, _), (7, _), (13, _), (67, _)]) (Sub.cons rfl (Sub.cons rfl (Sub.cons rfl (Sub.cons rfl Sub.nil)))) (Sub.refl _) ?_
      refine DW.condT rfl ?_
      refine DW.seq ?_
      refine DW.region ?_
      refine DL.go0 tauOK hE rfl (G.b00 rfl) rfl rfl ?_
      refine DL.sb2 tauOK rfl rfl rfl rfl rfl rfl rfl ?_
      refine DL.go0 tauOK hE rfl (GStep.assign rfl) rfl rfl ?_
      refine DL.nil ?_
      refine DW.sub (T' := [(4, _), (5, _)]) (Sub.cons rfl (Sub.cons rfl Sub.nil)) (Sub.refl _) ?_
      refine DW.ret ?_
      exact RetD.cv (RV.cell rfl rfl rfl) rfl rfl
    · rename_i e
      obtain ⟨e1, e2⟩ := e
      have hyes := hyes _ hm
      unfold kx ky
      rw [← hyes]
      skip
      refine DW.seq ?_
      refine DW.region ?_
      refine DL.go0 tauOK hE rfl (G.lb2 rfl rfl rfl) rfl rfl ?_
      refine DL.go0 tauOK hE rfl (G.lb2 rfl rfl rfl) rfl rfl ?_
      refine DL.go0 tauOK hE rfl (G.call (v := .tup [.v _, .v _]) (news := []) rfl (All2.cons (ArgOf.v rfl) (All2.cons (ArgOf.v rfl) All2.nil)) (congrArg (fun f => some (rF f)) (show mulF (fN (some (u1, u2)), fD (some (u1, u2))) (fN (some (s1, s2)), fD (some (s1, s2))) = some (e1, e2) from hm)) rfl rfl) rfl rfl ?_
      refine DL.go0 tauOK hE rfl (GStep.move rfl) rfl rfl ?_
      refine DL.go0 tauOK hE rfl (GStep.extr rfl rfl) rfl rfl ?_
      refine DL.go0 tauOK hE rfl (GStep.extr rfl rfl) rfl rfl ?_
      refine DL.go1 tauOK hE rfl (GStep.alloc2 rfl) rfl rfl rfl ?_
      refine DL.sb2 tauOK rfl rfl rfl rfl rfl rfl rfl ?_
      refine DL.go0 tauOK hE rfl (GStep.assign rfl) rfl rfl ?_
      refine DL.nil ?_
      refine DW.sub (T' := [(4, _), (7, _), (12, _), (13, _), (14, _)]) (Sub.cons rfl (Sub.cons rfl (Sub.cons rfl (Sub.cons rfl (Sub.cons rfl Sub.nil))))) (Sub.refl _) ?_
      refine DW.seq ?_
      refine DW.seq ?_
      refine DW.region ?_
      refine DL.go0 tauOK hE rfl (GStep.move rfl) rfl rfl ?_
      refine DL.go0 tauOK hE rfl (GStep.not rfl) rfl rfl ?_
      refine DL.go0 tauOK hE rfl (GStep.move rfl) rfl rfl ?_
      first | refine DL.skip rfl rfl rfl ?_ | refine DL.go0 tauOK hE rfl (GStep.move rfl) rfl rfl ?_
      first | refine DL.skip rfl rfl rfl ?_ | refine DL.go0 tauOK hE rfl (GStep.not rfl) rfl rfl ?_
      first | refine DL.go0 tauOK hE rfl (GStep.pickT rfl rfl) rfl rfl ?_ | refine DL.go0 tauOK hE rfl (GStep.pickF rfl rfl) rfl rfl ?_
      refine DL.nil ?_
      refine DW.sub (T' := [(4, _), (7, _), (13, _), (67, _)]) (Sub.cons rfl (Sub.cons rfl (Sub.cons rfl (Sub.cons rfl Sub.nil)))) (Sub.refl _) ?_
      refine DW.condF rfl ?_
      refine DW.skip ?_
      refine DW.seq ?_
      refine DW.draw tauOK hE mixed 7 (by kernel_rfl) ?_
      refine DR.go0 rfl (G.fa rfl rfl rfl (by decide)) rfl rfl ?_
      refine DR.go0 rfl (G.lbf1 rfl rfl rfl) rfl rfl ?_
      refine DR.go0 rfl (G.call (v := .val _) (news := []) rfl (All2.cons (ArgOf.v rfl) All2.nil) (rfl) rfl rfl) rfl rfl ?_
      refine DR.go0 rfl (G.lb2 rfl rfl rfl) rfl rfl ?_
      refine DR.go0 rfl (G.call (v := .tup [.v _, .v _]) (news := []) rfl (All2.cons (ArgOf.v rfl) (All2.cons (ArgOf.v rfl) All2.nil)) (rfl) rfl rfl) rfl rfl ?_
      refine DR.go0 rfl (GStep.extr rfl rfl) rfl rfl ?_
      refine DR.go0 rfl (GStep.extr rfl rfl) rfl rfl ?_
      refine DR.nil ?_
      refine DL.sb2 tauOK rfl rfl rfl rfl rfl rfl rfl ?_
      refine DL.go0 tauOK hE rfl (GStep.assign rfl) rfl rfl ?_
      refine DL.nil ?_
      refine DW.sub (T' := [(4, _), (5, _)]) (Sub.cons rfl (Sub.cons rfl Sub.nil)) (Sub.refl _) ?_
      refine DW.ret ?_
      exact RetD.cv (RV.cell rfl rfl rfl) rfl rfl
theorem l11In_ds : DFun Try.prog 52 gInC := by
  have hE : EnvOK Try.prog [(51, gWhole), (62, gLess)] := EnvOK.cons l11Whole_ds (EnvOK.cons fracLess_ds EnvOK.nil)
  refine DFun.of tauOK (fn := Try.f52) Try.func52 rfl (by kernel_rfl) rfl rfl ?_
  intro C ds r hg hl
  unfold gInC at hg
  split at hg
  case h_2 => cases hg
  rename_i m l n d
  split at hg
  case isFalse => cases hg
  rename_i hcond
  obtain ⟨hc, hv⟩ := hcond
  cases hg
  refine ⟨by simp, ?_⟩
  obtain ⟨hn, hm, _⟩ := hl
  obtain ⟨c, rfl, rfl⟩ := flat_ex hn
  clear hn
  rw [unflat_flat] at hc ⊢
  have hcl := cur_len hc
  have b0 := cur_bd hc (i := 0) (by omega)
  have b1 := cur_bd hc (i := c.length - 1) (by omega)
  have l0 : ltF (n, d) ((c.getD 0 (0, 0)).1, 1) = decide (n < kx c 0 * d) := ltF_wr (by unfold kx at b0; omega) hv
  have l1 : ltF ((c.getD (c.length - 1) (0, 0)).1, 1) (n, d) = decide (kx c (c.length - 1) * d < n) := ltF_wl (by unfold kx at b1; omega) hv
  unfold inC
  rw [← l0, ← l1]
  refine DW.seq ?_
  refine DW.region ?_
  refine DL.go1 tauOK hE rfl (GStep.box2 rfl) rfl rfl rfl ?_
  refine DL.go0 tauOK hE rfl (GStep.assign rfl) rfl rfl ?_
  refine DL.nil ?_
  refine DW.sub (T' := [(0, _), (3, _)]) (Sub.cons rfl (Sub.cons rfl Sub.nil)) (Sub.refl _) ?_
  cases h0 : ltF (n, d) ((c.getD 0 (0, 0)).1, 1)
  · refine DW.seq ?_
    refine DW.draw tauOK hE mixed 22 (by kernel_rfl) ?_
    refine DR.go0 rfl (G.lb2 rfl rfl rfl) rfl rfl ?_
    refine DR.go0 rfl (GStep.move rfl) rfl rfl ?_
    refine DR.go0 rfl (G.ia2 (i := 0) rfl rfl rfl rfl rfl rfl rfl (by omega)) rfl rfl ?_
    refine DR.go0 rfl (G.fa rfl rfl rfl (by decide)) rfl rfl ?_
    first | refine DR.go0 rfl (G.lf0r rfl rfl rfl (by omega)) rfl rfl ?_ | refine DR.go0 rfl (G.lf0w rfl rfl rfl (by omega)) rfl rfl ?_
    refine DR.go0 rfl (G.call (v := .val _) (news := []) rfl (All2.cons (ArgOf.v rfl) All2.nil) (rfl) rfl rfl) rfl rfl ?_
    refine DR.go0 rfl (G.fl (G.call (v := .val _) (news := []) rfl (All2.cons (ArgOf.v rfl) (All2.cons (ArgOf.v rfl) All2.nil)) (rfl) rfl rfl) (h0)) rfl rfl ?_
    refine DR.go0 rfl (GStep.not rfl) rfl rfl ?_
    refine DR.go0 rfl (GStep.move rfl) rfl rfl ?_
    first | refine DR.skip rfl rfl rfl ?_ | refine DR.go0 rfl (GStep.move rfl) rfl rfl ?_
    first | refine DR.skip rfl rfl rfl ?_ | refine DR.go0 rfl (GStep.move rfl) rfl rfl ?_
    first | refine DR.skip rfl rfl rfl ?_ | refine DR.go0 rfl (GStep.len rfl rfl rfl) rfl rfl ?_ | refine DR.go0 rfl (GStep.lenNil rfl rfl) rfl rfl ?_
    first | refine DR.skip rfl rfl rfl ?_ | refine DR.go0 rfl (G.sub rfl rfl (by omega)) rfl rfl ?_ | refine DR.go0 rfl (GStep.binI rfl rfl rfl) rfl rfl ?_
    first | refine DR.skip rfl rfl rfl ?_ | refine DR.go0 rfl (G.ia2 (i := c.length - 1) rfl rfl rfl rfl rfl rfl (by omega) (by omega)) rfl rfl ?_
    first | refine DR.skip rfl rfl rfl ?_ | refine DR.go0 rfl (G.fa rfl rfl rfl (by decide)) rfl rfl ?_
    first | refine DR.skip rfl rfl rfl ?_ | refine DR.go0 rfl (G.lf0r rfl rfl rfl (by omega)) rfl rfl ?_ | refine DR.go0 rfl (G.lf0w rfl rfl rfl (by omega)) rfl rfl ?_
    first | refine DR.skip rfl rfl rfl ?_ | refine DR.go0 rfl (G.call (v := .val _) (news := []) rfl (All2.cons (ArgOf.v rfl) All2.nil) (rfl) rfl rfl) rfl rfl ?_
    first | refine DR.skip rfl rfl rfl ?_ | refine DR.go0 rfl (G.lb2 rfl rfl rfl) rfl rfl ?_
    first | refine DR.skip rfl rfl rfl ?_ | refine DR.go0 rfl (G.call (v := .val _) (news := []) rfl (All2.cons (ArgOf.v rfl) (All2.cons (ArgOf.v rfl) All2.nil)) (rfl) rfl rfl) rfl rfl ?_
    first | refine DR.skip rfl rfl rfl ?_ | refine DR.go0 rfl (GStep.not rfl) rfl rfl ?_
    first | refine DR.go0 rfl (GStep.pickT rfl rfl) rfl rfl ?_ | refine DR.go0 rfl (GStep.pickF rfl rfl) rfl rfl ?_
    refine DR.go0 rfl (GStep.assign rfl) rfl rfl ?_
    refine DR.nil ?_
    refine DL.nil ?_
    refine DW.sub (T' := [(4, _)]) (Sub.cons rfl Sub.nil) (Sub.refl _) ?_
    refine DW.ret ?_
    exact RetD.v1 rfl rfl
  · skip
    refine DW.seq ?_
    refine DW.draw tauOK hE mixed 22 (by kernel_rfl) ?_
    refine DR.go0 rfl (G.lb2 rfl rfl rfl) rfl rfl ?_
    refine DR.go0 rfl (GStep.move rfl) rfl rfl ?_
    refine DR.go0 rfl (G.ia2 (i := 0) rfl rfl rfl rfl rfl rfl rfl (by omega)) rfl rfl ?_
    refine DR.go0 rfl (G.fa rfl rfl rfl (by decide)) rfl rfl ?_
    first | refine DR.go0 rfl (G.lf0r rfl rfl rfl (by omega)) rfl rfl ?_ | refine DR.go0 rfl (G.lf0w rfl rfl rfl (by omega)) rfl rfl ?_
    refine DR.go0 rfl (G.call (v := .val _) (news := []) rfl (All2.cons (ArgOf.v rfl) All2.nil) (rfl) rfl rfl) rfl rfl ?_
    refine DR.go0 rfl (G.tr (G.call (v := .val _) (news := []) rfl (All2.cons (ArgOf.v rfl) (All2.cons (ArgOf.v rfl) All2.nil)) (rfl) rfl rfl) (h0)) rfl rfl ?_
    refine DR.go0 rfl (GStep.not rfl) rfl rfl ?_
    refine DR.go0 rfl (GStep.move rfl) rfl rfl ?_
    first | refine DR.skip rfl rfl rfl ?_ | refine DR.go0 rfl (GStep.move rfl) rfl rfl ?_
    first | refine DR.skip rfl rfl rfl ?_ | refine DR.go0 rfl (GStep.move rfl) rfl rfl ?_
    first | refine DR.skip rfl rfl rfl ?_ | refine DR.go0 rfl (GStep.len rfl rfl rfl) rfl rfl ?_ | refine DR.go0 rfl (GStep.lenNil rfl rfl) rfl rfl ?_
    first | refine DR.skip rfl rfl rfl ?_ | refine DR.go0 rfl (G.sub rfl rfl (by omega)) rfl rfl ?_ | refine DR.go0 rfl (GStep.binI rfl rfl rfl) rfl rfl ?_
    first | refine DR.skip rfl rfl rfl ?_ | refine DR.go0 rfl (G.ia2 rfl rfl rfl rfl rfl rfl rfl (by omega)) rfl rfl ?_
    first | refine DR.skip rfl rfl rfl ?_ | refine DR.go0 rfl (G.fa rfl rfl rfl (by decide)) rfl rfl ?_
    first | refine DR.skip rfl rfl rfl ?_ | refine DR.go0 rfl (G.lf0r rfl rfl rfl (by omega)) rfl rfl ?_ | refine DR.go0 rfl (G.lf0w rfl rfl rfl (by omega)) rfl rfl ?_
    first | refine DR.skip rfl rfl rfl ?_ | refine DR.go0 rfl (G.call (v := .val _) (news := []) rfl (All2.cons (ArgOf.v rfl) All2.nil) (rfl) rfl rfl) rfl rfl ?_
    first | refine DR.skip rfl rfl rfl ?_ | refine DR.go0 rfl (G.lb2 rfl rfl rfl) rfl rfl ?_
    first | refine DR.skip rfl rfl rfl ?_ | refine DR.go0 rfl (G.call (v := .val _) (news := []) rfl (All2.cons (ArgOf.v rfl) (All2.cons (ArgOf.v rfl) All2.nil)) (rfl) rfl rfl) rfl rfl ?_
    first | refine DR.skip rfl rfl rfl ?_ | refine DR.go0 rfl (GStep.not rfl) rfl rfl ?_
    first | refine DR.go0 rfl (GStep.pickT rfl rfl) rfl rfl ?_ | refine DR.go0 rfl (GStep.pickF rfl rfl) rfl rfl ?_
    refine DR.go0 rfl (GStep.assign rfl) rfl rfl ?_
    refine DR.nil ?_
    refine DL.nil ?_
    refine DW.sub (T' := [(4, _)]) (Sub.cons rfl Sub.nil) (Sub.refl _) ?_
    refine DW.ret ?_
    exact RetD.v1 rfl rfl
theorem inC_int {c : List Kn} {x : Int} : inC c x 1 = (decide (x ≥ kx c 0) && decide (x ≤ kx c (c.length - 1))) := by
  unfold inC
  rw [Int.mul_one, Int.mul_one, Bool.eq_iff_iff]
  simp
theorem curveAt_ds : DFun Try.prog 26 gCurAt := by
  have hE : EnvOK Try.prog [(44, gCur), (49, gIn), (51, gWhole), (50, gAtS)] := EnvOK.cons curveValid_ds (EnvOK.cons l6In_ds (EnvOK.cons l11Whole_ds (EnvOK.cons l11At_ds EnvOK.nil)))
  refine DFun.of tauOK (fn := Try.f26) Try.func26 rfl (by kernel_rfl) rfl rfl ?_
  intro C ds r hg hl
  unfold gCurAt at hg
  split at hg
  case h_2 => cases hg
  rename_i n l x
  cases hg
  refine ⟨by simp, ?_⟩
  obtain ⟨hn, hm, _⟩ := hl
  obtain ⟨c, rfl, rfl⟩ := flat_ex hn
  clear hn
  rw [unflat_flat]
  refine DW.seq ?_
  refine DW.region ?_
  refine DL.go1 tauOK hE rfl (GStep.alloc2 rfl) rfl rfl rfl ?_
  refine DL.go0 tauOK hE rfl (GStep.assign rfl) rfl rfl ?_
  refine DL.nil ?_
  refine DW.sub (T' := [(0, _), (1, _), (4, _)]) (Sub.cons rfl (Sub.cons rfl (Sub.cons rfl Sub.nil))) (Sub.refl _) ?_
  cases hc : curB c
  · rw [curAt_no hc]
    refine DW.seq ?_
    refine DW.seq ?_
    refine DW.draw tauOK hE mixed 19 (by kernel_rfl) ?_
    refine DR.go0 rfl (GStep.move rfl) rfl rfl ?_
    refine DR.go0 rfl (G.fl (G.call (v := .val _) (news := []) rfl (All2.cons (ArgOf.ro rfl rfl (by simp [flat_len])) All2.nil) (gCur_flat) rfl rfl) (hc)) rfl rfl ?_
    refine DR.go0 rfl (GStep.not rfl) rfl rfl ?_
    refine DR.go0 rfl (GStep.move rfl) rfl rfl ?_
    first | refine DR.skip rfl rfl rfl ?_ | refine DR.go0 rfl (GStep.move rfl) rfl rfl ?_
    first | refine DR.skip rfl rfl rfl ?_ | refine DR.go0 rfl (GStep.move rfl) rfl rfl ?_
    first | refine DR.skip rfl rfl rfl ?_ | refine DR.go0 rfl (G.ia2 (i := 0) rfl rfl rfl rfl rfl rfl rfl (by omega)) rfl rfl ?_
    first | refine DR.skip rfl rfl rfl ?_ | refine DR.go0 rfl (G.fa rfl rfl rfl (by decide)) rfl rfl ?_
    first | refine DR.skip rfl rfl rfl ?_ | refine DR.go0 rfl (G.lf0r rfl rfl rfl (by omega)) rfl rfl ?_ | refine DR.go0 rfl (G.lf0w rfl rfl rfl (by omega)) rfl rfl ?_
    first | refine DR.skip rfl rfl rfl ?_ | refine DR.go0 rfl (GStep.move rfl) rfl rfl ?_
    first | refine DR.skip rfl rfl rfl ?_ | refine DR.go0 rfl (GStep.move rfl) rfl rfl ?_
    first | refine DR.skip rfl rfl rfl ?_ | refine DR.go0 rfl (GStep.len rfl rfl rfl) rfl rfl ?_ | refine DR.go0 rfl (GStep.lenNil rfl rfl) rfl rfl ?_
    first | refine DR.skip rfl rfl rfl ?_ | refine DR.go0 rfl (G.sub rfl rfl (by omega)) rfl rfl ?_ | refine DR.go0 rfl (GStep.binI rfl rfl rfl) rfl rfl ?_
    first | refine DR.skip rfl rfl rfl ?_ | refine DR.go0 rfl (G.ia2 rfl rfl rfl rfl rfl rfl rfl (by omega)) rfl rfl ?_
    first | refine DR.skip rfl rfl rfl ?_ | refine DR.go0 rfl (G.fa rfl rfl rfl (by decide)) rfl rfl ?_
    first | refine DR.skip rfl rfl rfl ?_ | refine DR.go0 rfl (G.lf0r rfl rfl rfl (by omega)) rfl rfl ?_ | refine DR.go0 rfl (G.lf0w rfl rfl rfl (by omega)) rfl rfl ?_
    first | refine DR.skip rfl rfl rfl ?_ | refine DR.go0 rfl (G.call (v := .val _) (news := []) rfl (All2.cons (ArgOf.v rfl) (All2.cons (ArgOf.v rfl) (All2.cons (ArgOf.v rfl) All2.nil))) (rfl) rfl rfl) rfl rfl ?_
    first | refine DR.skip rfl rfl rfl ?_ | refine DR.go0 rfl (GStep.not rfl) rfl rfl ?_
    first | refine DR.go0 rfl (GStep.pickT rfl rfl) rfl rfl ?_ | refine DR.go0 rfl (GStep.pickF rfl rfl) rfl rfl ?_
    refine DR.nil ?_
    refine DL.nil ?_
    refine DW.sub (T' := [(0, _), (1, _), (4, _), (24, _)]) (Sub.cons rfl (Sub.cons rfl (Sub.cons rfl (Sub.cons rfl Sub.nil)))) (Sub.refl _) ?_
    refine DW.condT rfl ?_
    refine DW.seq ?_
    refine DW.region ?_
    refine DL.go0 tauOK hE rfl (G.b00 rfl) rfl rfl ?_
    refine DL.sb2 tauOK rfl rfl rfl rfl rfl rfl rfl ?_
    refine DL.go0 tauOK hE rfl (GStep.assign rfl) rfl rfl ?_
    refine DL.nil ?_
    refine DW.sub (T' := [(4, _), (5, _)]) (Sub.cons rfl (Sub.cons rfl Sub.nil)) (Sub.refl _) ?_
    refine DW.ret ?_
    exact RetD.cv (RV.cell rfl rfl rfl) rfl rfl
  · have hcl := cur_len hc
    have b0 := cur_bd hc (i := 0) (by omega)
    have b1 := cur_bd hc (i := c.length - 1) (by omega)
    rw [curAt_cur hc]
    have hI := inC_int (c := c) (x := x)
    cases hi : inC c x 1
    · rw [atF_out hc (by omega) hi]
      skip
      refine DW.seq ?_
      refine DW.seq ?_
      refine DW.draw tauOK hE mixed 19 (by kernel_rfl) ?_
      refine DR.go0 rfl (GStep.move rfl) rfl rfl ?_
      refine DR.go0 rfl (G.tr (G.call (v := .val _) (news := []) rfl (All2.cons (ArgOf.ro rfl rfl (by simp [flat_len])) All2.nil) (gCur_flat) rfl rfl) (hc)) rfl rfl ?_
      refine DR.go0 rfl (GStep.not rfl) rfl rfl ?_
      refine DR.go0 rfl (GStep.move rfl) rfl rfl ?_
      first | refine DR.skip rfl rfl rfl ?_ | refine DR.go0 rfl (GStep.move rfl) rfl rfl ?_
      first | refine DR.skip rfl rfl rfl ?_ | refine DR.go0 rfl (GStep.move rfl) rfl rfl ?_
      first | refine DR.skip rfl rfl rfl ?_ | refine DR.go0 rfl (G.ia2 (i := 0) rfl rfl rfl rfl rfl rfl rfl (by omega)) rfl rfl ?_
      first | refine DR.skip rfl rfl rfl ?_ | refine DR.go0 rfl (G.fa rfl rfl rfl (by decide)) rfl rfl ?_
      first | refine DR.skip rfl rfl rfl ?_ | refine DR.go0 rfl (G.lf0r rfl rfl rfl (by omega)) rfl rfl ?_ | refine DR.go0 rfl (G.lf0w rfl rfl rfl (by omega)) rfl rfl ?_
      first | refine DR.skip rfl rfl rfl ?_ | refine DR.go0 rfl (GStep.move rfl) rfl rfl ?_
      first | refine DR.skip rfl rfl rfl ?_ | refine DR.go0 rfl (GStep.move rfl) rfl rfl ?_
      first | refine DR.skip rfl rfl rfl ?_ | refine DR.go0 rfl (GStep.len rfl rfl rfl) rfl rfl ?_ | refine DR.go0 rfl (GStep.lenNil rfl rfl) rfl rfl ?_
      first | refine DR.skip rfl rfl rfl ?_ | refine DR.go0 rfl (G.sub rfl rfl (by omega)) rfl rfl ?_ | refine DR.go0 rfl (GStep.binI rfl rfl rfl) rfl rfl ?_
      first | refine DR.skip rfl rfl rfl ?_ | refine DR.go0 rfl (G.ia2 (i := c.length - 1) rfl rfl rfl rfl rfl rfl (by omega) (by omega)) rfl rfl ?_
      first | refine DR.skip rfl rfl rfl ?_ | refine DR.go0 rfl (G.fa rfl rfl rfl (by decide)) rfl rfl ?_
      first | refine DR.skip rfl rfl rfl ?_ | refine DR.go0 rfl (G.lf0r rfl rfl rfl (by omega)) rfl rfl ?_ | refine DR.go0 rfl (G.lf0w rfl rfl rfl (by omega)) rfl rfl ?_
      first | refine DR.skip rfl rfl rfl ?_ | refine DR.go0 rfl (G.fl (G.call (v := .val _) (news := []) rfl (All2.cons (ArgOf.v rfl) (All2.cons (ArgOf.v rfl) (All2.cons (ArgOf.v rfl) All2.nil))) (rfl) rfl rfl) (by rw [← hi, hI]; rfl)) rfl rfl ?_
      first | refine DR.skip rfl rfl rfl ?_ | refine DR.go0 rfl (GStep.not rfl) rfl rfl ?_
      first | refine DR.go0 rfl (GStep.pickT rfl rfl) rfl rfl ?_ | refine DR.go0 rfl (GStep.pickF rfl rfl) rfl rfl ?_
      refine DR.nil ?_
      refine DL.nil ?_
      refine DW.sub (T' := [(0, _), (1, _), (4, _), (24, _)]) (Sub.cons rfl (Sub.cons rfl (Sub.cons rfl (Sub.cons rfl Sub.nil)))) (Sub.refl _) ?_
      refine DW.condT rfl ?_
      refine DW.seq ?_
      refine DW.region ?_
      refine DL.go0 tauOK hE rfl (G.b00 rfl) rfl rfl ?_
      refine DL.sb2 tauOK rfl rfl rfl rfl rfl rfl rfl ?_
      refine DL.go0 tauOK hE rfl (GStep.assign rfl) rfl rfl ?_
      refine DL.nil ?_
      refine DW.sub (T' := [(4, _), (5, _)]) (Sub.cons rfl (Sub.cons rfl Sub.nil)) (Sub.refl _) ?_
      refine DW.ret ?_
      exact RetD.cv (RV.cell rfl rfl rfl) rfl rfl
    · have hx : -1000000000 ≤ x ∧ x ≤ 1000000000 := by
        rw [hi] at hI
        have := hI.symm
        simp only [Bool.and_eq_true, decide_eq_true_eq] at this
        omega
      skip
      refine DW.seq ?_
      refine DW.seq ?_
      refine DW.draw tauOK hE mixed 19 (by kernel_rfl) ?_
      refine DR.go0 rfl (GStep.move rfl) rfl rfl ?_
      refine DR.go0 rfl (G.tr (G.call (v := .val _) (news := []) rfl (All2.cons (ArgOf.ro rfl rfl (by simp [flat_len])) All2.nil) (gCur_flat) rfl rfl) (hc)) rfl rfl ?_
      refine DR.go0 rfl (GStep.not rfl) rfl rfl ?_
      refine DR.go0 rfl (GStep.move rfl) rfl rfl ?_
      first | refine DR.skip rfl rfl rfl ?_ | refine DR.go0 rfl (GStep.move rfl) rfl rfl ?_
      first | refine DR.skip rfl rfl rfl ?_ | refine DR.go0 rfl (GStep.move rfl) rfl rfl ?_
      first | refine DR.skip rfl rfl rfl ?_ | refine DR.go0 rfl (G.ia2 (i := 0) rfl rfl rfl rfl rfl rfl rfl (by omega)) rfl rfl ?_
      first | refine DR.skip rfl rfl rfl ?_ | refine DR.go0 rfl (G.fa rfl rfl rfl (by decide)) rfl rfl ?_
      first | refine DR.skip rfl rfl rfl ?_ | refine DR.go0 rfl (G.lf0r rfl rfl rfl (by omega)) rfl rfl ?_ | refine DR.go0 rfl (G.lf0w rfl rfl rfl (by omega)) rfl rfl ?_
      first | refine DR.skip rfl rfl rfl ?_ | refine DR.go0 rfl (GStep.move rfl) rfl rfl ?_
      first | refine DR.skip rfl rfl rfl ?_ | refine DR.go0 rfl (GStep.move rfl) rfl rfl ?_
      first | refine DR.skip rfl rfl rfl ?_ | refine DR.go0 rfl (GStep.len rfl rfl rfl) rfl rfl ?_ | refine DR.go0 rfl (GStep.lenNil rfl rfl) rfl rfl ?_
      first | refine DR.skip rfl rfl rfl ?_ | refine DR.go0 rfl (G.sub rfl rfl (by omega)) rfl rfl ?_ | refine DR.go0 rfl (GStep.binI rfl rfl rfl) rfl rfl ?_
      first | refine DR.skip rfl rfl rfl ?_ | refine DR.go0 rfl (G.ia2 (i := c.length - 1) rfl rfl rfl rfl rfl rfl (by omega) (by omega)) rfl rfl ?_
      first | refine DR.skip rfl rfl rfl ?_ | refine DR.go0 rfl (G.fa rfl rfl rfl (by decide)) rfl rfl ?_
      first | refine DR.skip rfl rfl rfl ?_ | refine DR.go0 rfl (G.lf0r rfl rfl rfl (by omega)) rfl rfl ?_ | refine DR.go0 rfl (G.lf0w rfl rfl rfl (by omega)) rfl rfl ?_
      first | refine DR.skip rfl rfl rfl ?_ | refine DR.go0 rfl (G.tr (G.call (v := .val _) (news := []) rfl (All2.cons (ArgOf.v rfl) (All2.cons (ArgOf.v rfl) (All2.cons (ArgOf.v rfl) All2.nil))) (rfl) rfl rfl) (by rw [← hi, hI]; rfl)) rfl rfl ?_
      first | refine DR.skip rfl rfl rfl ?_ | refine DR.go0 rfl (GStep.not rfl) rfl rfl ?_
      first | refine DR.go0 rfl (GStep.pickT rfl rfl) rfl rfl ?_ | refine DR.go0 rfl (GStep.pickF rfl rfl) rfl rfl ?_
      refine DR.nil ?_
      refine DL.nil ?_
      refine DW.sub (T' := [(0, _), (1, _), (4, _), (24, _)]) (Sub.cons rfl (Sub.cons rfl (Sub.cons rfl (Sub.cons rfl Sub.nil)))) (Sub.refl _) ?_
      refine DW.condF rfl ?_
      refine DW.skip ?_
      refine DW.seq ?_
      refine DW.region ?_
      refine DL.go0 tauOK hE rfl (GStep.move rfl) rfl rfl ?_
      refine DL.go0 tauOK hE rfl (GStep.move rfl) rfl rfl ?_
      refine DL.go0 tauOK hE rfl (G.call (v := .val _) (news := []) rfl (All2.cons (ArgOf.v rfl) All2.nil) (rfl) rfl rfl) rfl rfl ?_
      refine DL.go0 tauOK hE rfl (G.call (v := .tup [.v _, .v _]) (news := []) rfl (All2.cons (ArgOf.ro rfl rfl (by simp [flat_len])) (All2.cons (ArgOf.v rfl) All2.nil)) (gAtS_flat hc (vB_int hx) hi) rfl rfl) rfl rfl ?_
      refine DL.go0 tauOK hE rfl (GStep.extr rfl rfl) rfl rfl ?_
      refine DL.go0 tauOK hE rfl (GStep.extr rfl rfl) rfl rfl ?_
      refine DL.sb2 tauOK rfl rfl rfl rfl rfl rfl rfl ?_
      refine DL.go0 tauOK hE rfl (GStep.assign rfl) rfl rfl ?_
      refine DL.nil ?_
      refine DW.sub (T' := [(4, _), (5, _)]) (Sub.cons rfl (Sub.cons rfl Sub.nil)) (Sub.refl _) ?_
      refine DW.ret ?_
      exact RetD.cv (RV.cell rfl rfl rfl) rfl rfl
/-! ## One behind the other -/
def gThen : List AD → Option RD
  | [.sl .i64 2 _ l, .sl .i64 2 _ m, .v (.int .i64 x)] => some (rF (curThen (unflat l) (unflat m) x))
  | _ => none
theorem gThen_flat {n m : Nat} {a b : List Kn} {x : Int} : gThen [.sl .i64 2 n (flat a), .sl .i64 2 m (flat b), .v (.int .i64 x)] = some (rF (curThen a b x)) := by simp [gThen, unflat_flat]
theorem then_no {a b : List Kn} {x : Int} (h : curAt a x = none) : curThen a b x = none := by unfold curThen; rw [h]
theorem then_bad {a b : List Kn} {x : Int} (h : curB b = false) : curThen a b x = none := by
  unfold curThen
  split
  · rw [if_neg (by rw [h]; simp)]
  · rfl
theorem then_yes {a b : List Kn} {x : Int} {y1 y2 : Int} (h : curAt a x = some (y1, y2)) (hb : curB b = true) : curThen a b x = atF b y1 y2 := by
  unfold curThen
  rw [h]
  show (if curB b = true then _ else _) = _
  rw [if_pos hb]
theorem curveThen_di : DFun Try.prog 21 gThen := by
  have hE : EnvOK Try.prog [(16, gCurAt), (38, gCur), (45, gAt)] := EnvOK.cons curveAtX_di (EnvOK.cons curveValid_di (EnvOK.cons curveAt_dp EnvOK.nil))
  refine DFun.of tauOK (fn := Try.f21) Try.func21 rfl (by kernel_rfl) rfl rfl ?_
  intro C ds r hg hl
  unfold gThen at hg
  split at hg
  case h_2 => cases hg
  rename_i n l m l' x
  cases hg
  refine ⟨by simp, ?_⟩
  obtain ⟨hn, hm, hn', hm', _⟩ := hl
  obtain ⟨a, rfl, rfl⟩ := flat_ex hn
  obtain ⟨b, rfl, rfl⟩ := flat_ex hn'
  clear hn hn'
  rw [unflat_flat, unflat_flat]
  refine DW.seq ?_
  refine DW.region ?_
  refine DL.go1 tauOK hE rfl (GStep.alloc2 rfl) rfl rfl rfl ?_
  refine DL.go0 tauOK hE rfl (GStep.assign rfl) rfl rfl ?_
  refine DL.nil ?_
  refine DW.sub (T' := [(0, _), (1, _), (2, _), (6, _)]) (Sub.cons rfl (Sub.cons rfl (Sub.cons rfl (Sub.cons rfl Sub.nil)))) (Sub.refl _) ?_
  refine DW.seq ?_
  refine DW.region ?_
  refine DL.go0 tauOK hE rfl (GStep.move rfl) rfl rfl ?_
  refine DL.go0 tauOK hE rfl (GStep.move rfl) rfl rfl ?_
  refine DL.go0 tauOK hE rfl (G.call (v := .tup [.v _, .v _]) (news := []) rfl (All2.cons (ArgOf.ro rfl rfl (by simp [flat_len])) (All2.cons (ArgOf.v rfl) All2.nil)) (gCurAt_flat) rfl rfl) rfl rfl ?_
  refine DL.go0 tauOK hE rfl (GStep.move rfl) rfl rfl ?_
  refine DL.go0 tauOK hE rfl (GStep.extr rfl rfl) rfl rfl ?_
  refine DL.go0 tauOK hE rfl (GStep.extr rfl rfl) rfl rfl ?_
  refine DL.go1 tauOK hE rfl (GStep.alloc2 rfl) rfl rfl rfl ?_
  refine DL.sb2 tauOK rfl rfl rfl rfl rfl rfl rfl ?_
  refine DL.go0 tauOK hE rfl (GStep.assign rfl) rfl rfl ?_
  refine DL.nil ?_
  refine DW.sub (T' := [(1, _), (6, _), (8, _), (9, _)]) (Sub.cons rfl (Sub.cons rfl (Sub.cons rfl (Sub.cons rfl Sub.nil)))) (Sub.refl _) ?_
  cases hy : curAt a x
  · rw [then_no hy]
    refine DW.seq ?_
    refine DW.seq ?_
    refine DW.region ?_
    refine DL.go0 tauOK hE rfl (GStep.move rfl) rfl rfl ?_
    refine DL.go0 tauOK hE rfl (GStep.not rfl) rfl rfl ?_
    refine DL.go0 tauOK hE rfl (GStep.move rfl) rfl rfl ?_
    first | refine DL.skip rfl rfl rfl ?_ | refine DL.go0 tauOK hE rfl (GStep.move rfl) rfl rfl ?_
    first | refine DL.skip rfl rfl rfl ?_ | refine DL.go0 tauOK hE rfl (G.call (v := .val _) (news := []) rfl (All2.cons (ArgOf.ro rfl rfl (by simp [flat_len])) All2.nil) (gCur_flat) rfl rfl) rfl rfl ?_
    first | refine DL.skip rfl rfl rfl ?_ | refine DL.go0 tauOK hE rfl (GStep.not rfl) rfl rfl ?_
    first | refine DL.go0 tauOK hE rfl (GStep.pickT rfl rfl) rfl rfl ?_ | refine DL.go0 tauOK hE rfl (GStep.pickF rfl rfl) rfl rfl ?_
    refine DL.nil ?_
    refine DW.sub (T' := [(1, _), (6, _), (8, _), (22, _)]) (Sub.cons rfl (Sub.cons rfl (Sub.cons rfl (Sub.cons rfl Sub.nil)))) (Sub.refl _) ?_
    refine DW.condT rfl ?_
    refine DW.seq ?_
    refine DW.region ?_
    refine DL.go0 tauOK hE rfl (G.b00 rfl) rfl rfl ?_
    refine DL.sb2 tauOK rfl rfl rfl rfl rfl rfl rfl ?_
    refine DL.go0 tauOK hE rfl (GStep.assign rfl) rfl rfl ?_
    refine DL.nil ?_
    refine DW.sub (T' := [(6, _), (7, _)]) (Sub.cons rfl (Sub.cons rfl Sub.nil)) (Sub.refl _) ?_
    refine DW.ret ?_
    exact RetD.cv (RV.cell rfl rfl rfl) rfl rfl
  · rename_i y
    obtain ⟨y1, y2⟩ := y
    obtain ⟨_, _, hv⟩ := curAt_q hy
    have hd := (vB_bd hv).1
    cases hb : curB b
    · skip
      rw [then_bad hb]
      refine DW.seq ?_
      refine DW.seq ?_
      refine DW.region ?_
      refine DL.go0 tauOK hE rfl (GStep.move rfl) rfl rfl ?_
      refine DL.go0 tauOK hE rfl (GStep.not rfl) rfl rfl ?_
      refine DL.go0 tauOK hE rfl (GStep.move rfl) rfl rfl ?_
      first | refine DL.skip rfl rfl rfl ?_ | refine DL.go0 tauOK hE rfl (GStep.move rfl) rfl rfl ?_
      first | refine DL.skip rfl rfl rfl ?_ | refine DL.go0 tauOK hE rfl (G.fl (G.call (v := .val _) (news := []) rfl (All2.cons (ArgOf.ro rfl rfl (by simp [flat_len])) All2.nil) (gCur_flat) rfl rfl) (hb)) rfl rfl ?_
      first | refine DL.skip rfl rfl rfl ?_ | refine DL.go0 tauOK hE rfl (GStep.not rfl) rfl rfl ?_
      first | refine DL.go0 tauOK hE rfl (GStep.pickT rfl rfl) rfl rfl ?_ | refine DL.go0 tauOK hE rfl (GStep.pickF rfl rfl) rfl rfl ?_
      refine DL.nil ?_
      refine DW.sub (T' := [(1, _), (6, _), (8, _), (22, _)]) (Sub.cons rfl (Sub.cons rfl (Sub.cons rfl (Sub.cons rfl Sub.nil)))) (Sub.refl _) ?_
      refine DW.condT rfl ?_
      refine DW.seq ?_
      refine DW.region ?_
      refine DL.go0 tauOK hE rfl (G.b00 rfl) rfl rfl ?_
      refine DL.sb2 tauOK rfl rfl rfl rfl rfl rfl rfl ?_
      refine DL.go0 tauOK hE rfl (GStep.assign rfl) rfl rfl ?_
      refine DL.nil ?_
      refine DW.sub (T' := [(6, _), (7, _)]) (Sub.cons rfl (Sub.cons rfl Sub.nil)) (Sub.refl _) ?_
      refine DW.ret ?_
      exact RetD.cv (RV.cell rfl rfl rfl) rfl rfl
    · skip
      rw [then_yes hy hb]
      refine DW.seq ?_
      refine DW.seq ?_
      refine DW.region ?_
      refine DL.go0 tauOK hE rfl (GStep.move rfl) rfl rfl ?_
      refine DL.go0 tauOK hE rfl (GStep.not rfl) rfl rfl ?_
      refine DL.go0 tauOK hE rfl (GStep.move rfl) rfl rfl ?_
      first | refine DL.skip rfl rfl rfl ?_ | refine DL.go0 tauOK hE rfl (GStep.move rfl) rfl rfl ?_
      first | refine DL.skip rfl rfl rfl ?_ | refine DL.go0 tauOK hE rfl (G.tr (G.call (v := .val _) (news := []) rfl (All2.cons (ArgOf.ro rfl rfl (by simp [flat_len])) All2.nil) (gCur_flat) rfl rfl) (hb)) rfl rfl ?_
      first | refine DL.skip rfl rfl rfl ?_ | refine DL.go0 tauOK hE rfl (GStep.not rfl) rfl rfl ?_
      first | refine DL.go0 tauOK hE rfl (GStep.pickT rfl rfl) rfl rfl ?_ | refine DL.go0 tauOK hE rfl (GStep.pickF rfl rfl) rfl rfl ?_
      refine DL.nil ?_
      refine DW.sub (T' := [(1, _), (6, _), (8, _), (22, _)]) (Sub.cons rfl (Sub.cons rfl (Sub.cons rfl (Sub.cons rfl Sub.nil)))) (Sub.refl _) ?_
      refine DW.condF rfl ?_
      refine DW.skip ?_
      refine DW.seq ?_
      refine DW.region ?_
      refine DL.go0 tauOK hE rfl (GStep.move rfl) rfl rfl ?_
      refine DL.go0 tauOK hE rfl (G.lb2 rfl rfl rfl) rfl rfl ?_
      refine DL.go0 tauOK hE rfl (G.call (v := .tup [.v _, .v _]) (news := []) rfl (All2.cons (ArgOf.ro rfl rfl (by simp [flat_len])) (All2.cons (ArgOf.v rfl) All2.nil)) (gAt_flat hb hd) rfl rfl) rfl rfl ?_
      refine DL.go0 tauOK hE rfl (GStep.extr rfl rfl) rfl rfl ?_
      refine DL.go0 tauOK hE rfl (GStep.extr rfl rfl) rfl rfl ?_
      refine DL.sb2 tauOK rfl rfl rfl rfl rfl rfl rfl ?_
      refine DL.go0 tauOK hE rfl (GStep.assign rfl) rfl rfl ?_
      refine DL.nil ?_
      refine DW.sub (T' := [(6, _), (7, _)]) (Sub.cons rfl (Sub.cons rfl Sub.nil)) (Sub.refl _) ?_
      refine DW.ret ?_
      exact RetD.cv (RV.cell rfl rfl rfl) rfl rfl
theorem curveThen_ds : DFun Try.prog 29 gThen := by
  have hE : EnvOK Try.prog [(26, gCurAt), (44, gCur), (52, gInC), (50, gAtS)] := EnvOK.cons curveAt_ds (EnvOK.cons curveValid_ds (EnvOK.cons l11In_ds (EnvOK.cons l11At_ds EnvOK.nil)))
  refine DFun.of tauOK (fn := Try.f29) Try.func29 rfl (by kernel_rfl) rfl rfl ?_
  intro C ds r hg hl
  unfold gThen at hg
  split at hg
  case h_2 => cases hg
  rename_i n l m l' x
  cases hg
  refine ⟨by simp, ?_⟩
  obtain ⟨hn, hm, hn', hm', _⟩ := hl
  obtain ⟨a, rfl, rfl⟩ := flat_ex hn
  obtain ⟨b, rfl, rfl⟩ := flat_ex hn'
  clear hn hn'
  rw [unflat_flat, unflat_flat]
  refine DW.seq ?_
  refine DW.region ?_
  refine DL.go1 tauOK hE rfl (GStep.alloc2 rfl) rfl rfl rfl ?_
  refine DL.go0 tauOK hE rfl (GStep.assign rfl) rfl rfl ?_
  refine DL.nil ?_
  refine DW.sub (T' := [(0, _), (1, _), (2, _), (6, _)]) (Sub.cons rfl (Sub.cons rfl (Sub.cons rfl (Sub.cons rfl Sub.nil)))) (Sub.refl _) ?_
  refine DW.seq ?_
  refine DW.region ?_
  refine DL.go0 tauOK hE rfl (GStep.move rfl) rfl rfl ?_
  refine DL.go0 tauOK hE rfl (GStep.move rfl) rfl rfl ?_
  refine DL.go0 tauOK hE rfl (G.call (v := .tup [.v _, .v _]) (news := []) rfl (All2.cons (ArgOf.ro rfl rfl (by simp [flat_len])) (All2.cons (ArgOf.v rfl) All2.nil)) (gCurAt_flat) rfl rfl) rfl rfl ?_
  refine DL.go0 tauOK hE rfl (GStep.move rfl) rfl rfl ?_
  refine DL.go0 tauOK hE rfl (GStep.extr rfl rfl) rfl rfl ?_
  refine DL.go0 tauOK hE rfl (GStep.extr rfl rfl) rfl rfl ?_
  refine DL.go1 tauOK hE rfl (GStep.alloc2 rfl) rfl rfl rfl ?_
  refine DL.sb2 tauOK rfl rfl rfl rfl rfl rfl rfl ?_
  refine DL.go0 tauOK hE rfl (GStep.assign rfl) rfl rfl ?_
  refine DL.nil ?_
  refine DW.sub (T' := [(1, _), (6, _), (8, _), (9, _)]) (Sub.cons rfl (Sub.cons rfl (Sub.cons rfl (Sub.cons rfl Sub.nil)))) (Sub.refl _) ?_
  cases hy : curAt a x
  · rw [then_no hy]
    refine DW.seq ?_
    refine DW.seq ?_
    refine DW.region ?_
    refine DL.go0 tauOK hE rfl (GStep.move rfl) rfl rfl ?_
    refine DL.go0 tauOK hE rfl (GStep.not rfl) rfl rfl ?_
    refine DL.go0 tauOK hE rfl (GStep.move rfl) rfl rfl ?_
    first | refine DL.skip rfl rfl rfl ?_ | refine DL.go0 tauOK hE rfl (GStep.move rfl) rfl rfl ?_
    first | refine DL.skip rfl rfl rfl ?_ | refine DL.go0 tauOK hE rfl (G.call (v := .val _) (news := []) rfl (All2.cons (ArgOf.ro rfl rfl (by simp [flat_len])) All2.nil) (gCur_flat) rfl rfl) rfl rfl ?_
    first | refine DL.skip rfl rfl rfl ?_ | refine DL.go0 tauOK hE rfl (GStep.not rfl) rfl rfl ?_
    first | refine DL.go0 tauOK hE rfl (GStep.pickT rfl rfl) rfl rfl ?_ | refine DL.go0 tauOK hE rfl (GStep.pickF rfl rfl) rfl rfl ?_
    refine DL.go0 tauOK hE rfl (GStep.move rfl) rfl rfl ?_
    first | refine DL.skip rfl rfl rfl ?_ | refine DL.go0 tauOK hE rfl (GStep.move rfl) rfl rfl ?_
    first | refine DL.skip rfl rfl rfl ?_ | refine DL.go0 tauOK hE rfl (G.lb2 rfl rfl rfl) rfl rfl ?_
    first | refine DL.skip rfl rfl rfl ?_ | refine DL.go0 tauOK hE rfl (G.call (v := .val _) (news := []) rfl (All2.cons (ArgOf.ro rfl rfl (by simp [flat_len])) (All2.cons (ArgOf.v rfl) All2.nil)) (rfl) rfl rfl) rfl rfl ?_
    first | refine DL.skip rfl rfl rfl ?_ | refine DL.go0 tauOK hE rfl (GStep.not rfl) rfl rfl ?_
    first | refine DL.go0 tauOK hE rfl (GStep.pickT rfl rfl) rfl rfl ?_ | refine DL.go0 tauOK hE rfl (GStep.pickF rfl rfl) rfl rfl ?_
    refine DL.nil ?_
    refine DW.sub (T' := [(1, _), (6, _), (8, _), (28, _)]) (Sub.cons rfl (Sub.cons rfl (Sub.cons rfl (Sub.cons rfl Sub.nil)))) (Sub.refl _) ?_
    refine DW.condT rfl ?_
    refine DW.seq ?_
    refine DW.region ?_
    refine DL.go0 tauOK hE rfl (G.b00 rfl) rfl rfl ?_
    refine DL.sb2 tauOK rfl rfl rfl rfl rfl rfl rfl ?_
    refine DL.go0 tauOK hE rfl (GStep.assign rfl) rfl rfl ?_
    refine DL.nil ?_
    refine DW.sub (T' := [(6, _), (7, _)]) (Sub.cons rfl (Sub.cons rfl Sub.nil)) (Sub.refl _) ?_
    refine DW.ret ?_
    exact RetD.cv (RV.cell rfl rfl rfl) rfl rfl
  · rename_i y
    obtain ⟨y1, y2⟩ := y
    obtain ⟨_, _, hv⟩ := curAt_q hy
    have hd := (vB_bd hv).1
    cases hb : curB b
    · skip
      rw [then_bad hb]
      refine DW.seq ?_
      refine DW.seq ?_
      refine DW.region ?_
      refine DL.go0 tauOK hE rfl (GStep.move rfl) rfl rfl ?_
      refine DL.go0 tauOK hE rfl (GStep.not rfl) rfl rfl ?_
      refine DL.go0 tauOK hE rfl (GStep.move rfl) rfl rfl ?_
      first | refine DL.skip rfl rfl rfl ?_ | refine DL.go0 tauOK hE rfl (GStep.move rfl) rfl rfl ?_
      first | refine DL.skip rfl rfl rfl ?_ | refine DL.go0 tauOK hE rfl (G.fl (G.call (v := .val _) (news := []) rfl (All2.cons (ArgOf.ro rfl rfl (by simp [flat_len])) All2.nil) (gCur_flat) rfl rfl) (hb)) rfl rfl ?_
      first | refine DL.skip rfl rfl rfl ?_ | refine DL.go0 tauOK hE rfl (GStep.not rfl) rfl rfl ?_
      first | refine DL.go0 tauOK hE rfl (GStep.pickT rfl rfl) rfl rfl ?_ | refine DL.go0 tauOK hE rfl (GStep.pickF rfl rfl) rfl rfl ?_
      refine DL.go0 tauOK hE rfl (GStep.move rfl) rfl rfl ?_
      first | refine DL.skip rfl rfl rfl ?_ | refine DL.go0 tauOK hE rfl (GStep.move rfl) rfl rfl ?_
      first | refine DL.skip rfl rfl rfl ?_ | refine DL.go0 tauOK hE rfl (G.lb2 rfl rfl rfl) rfl rfl ?_
      first | refine DL.skip rfl rfl rfl ?_ | refine DL.go0 tauOK hE rfl (G.call (v := .val _) (news := []) rfl (All2.cons (ArgOf.ro rfl rfl (by simp [flat_len])) (All2.cons (ArgOf.v rfl) All2.nil)) (rfl) rfl rfl) rfl rfl ?_
      first | refine DL.skip rfl rfl rfl ?_ | refine DL.go0 tauOK hE rfl (GStep.not rfl) rfl rfl ?_
      first | refine DL.go0 tauOK hE rfl (GStep.pickT rfl rfl) rfl rfl ?_ | refine DL.go0 tauOK hE rfl (GStep.pickF rfl rfl) rfl rfl ?_
      refine DL.nil ?_
      refine DW.sub (T' := [(1, _), (6, _), (8, _), (28, _)]) (Sub.cons rfl (Sub.cons rfl (Sub.cons rfl (Sub.cons rfl Sub.nil)))) (Sub.refl _) ?_
      refine DW.condT rfl ?_
      refine DW.seq ?_
      refine DW.region ?_
      refine DL.go0 tauOK hE rfl (G.b00 rfl) rfl rfl ?_
      refine DL.sb2 tauOK rfl rfl rfl rfl rfl rfl rfl ?_
      refine DL.go0 tauOK hE rfl (GStep.assign rfl) rfl rfl ?_
      refine DL.nil ?_
      refine DW.sub (T' := [(6, _), (7, _)]) (Sub.cons rfl (Sub.cons rfl Sub.nil)) (Sub.refl _) ?_
      refine DW.ret ?_
      exact RetD.cv (RV.cell rfl rfl rfl) rfl rfl
    · rw [then_yes hy hb]
      cases hi : inC b y1 y2
      · skip
        rw [atF_out hb hd.1 hi]
        refine DW.seq ?_
        refine DW.seq ?_
        refine DW.region ?_
        refine DL.go0 tauOK hE rfl (GStep.move rfl) rfl rfl ?_
        refine DL.go0 tauOK hE rfl (GStep.not rfl) rfl rfl ?_
        refine DL.go0 tauOK hE rfl (GStep.move rfl) rfl rfl ?_
        first | refine DL.skip rfl rfl rfl ?_ | refine DL.go0 tauOK hE rfl (GStep.move rfl) rfl rfl ?_
        first | refine DL.skip rfl rfl rfl ?_ | refine DL.go0 tauOK hE rfl (G.tr (G.call (v := .val _) (news := []) rfl (All2.cons (ArgOf.ro rfl rfl (by simp [flat_len])) All2.nil) (gCur_flat) rfl rfl) (hb)) rfl rfl ?_
        first | refine DL.skip rfl rfl rfl ?_ | refine DL.go0 tauOK hE rfl (GStep.not rfl) rfl rfl ?_
        first | refine DL.go0 tauOK hE rfl (GStep.pickT rfl rfl) rfl rfl ?_ | refine DL.go0 tauOK hE rfl (GStep.pickF rfl rfl) rfl rfl ?_
        refine DL.go0 tauOK hE rfl (GStep.move rfl) rfl rfl ?_
        first | refine DL.skip rfl rfl rfl ?_ | refine DL.go0 tauOK hE rfl (GStep.move rfl) rfl rfl ?_
        first | refine DL.skip rfl rfl rfl ?_ | refine DL.go0 tauOK hE rfl (G.lb2 rfl rfl rfl) rfl rfl ?_
        first | refine DL.skip rfl rfl rfl ?_ | refine DL.go0 tauOK hE rfl (G.fl (G.call (v := .val _) (news := []) rfl (All2.cons (ArgOf.ro rfl rfl (by simp [flat_len])) (All2.cons (ArgOf.v rfl) All2.nil)) (gInC_flat hb hv) rfl rfl) (hi)) rfl rfl ?_
        first | refine DL.skip rfl rfl rfl ?_ | refine DL.go0 tauOK hE rfl (GStep.not rfl) rfl rfl ?_
        first | refine DL.go0 tauOK hE rfl (GStep.pickT rfl rfl) rfl rfl ?_ | refine DL.go0 tauOK hE rfl (GStep.pickF rfl rfl) rfl rfl ?_
        refine DL.nil ?_
        refine DW.sub (T' := [(1, _), (6, _), (8, _), (28, _)]) (Sub.cons rfl (Sub.cons rfl (Sub.cons rfl (Sub.cons rfl Sub.nil)))) (Sub.refl _) ?_
        refine DW.condT rfl ?_
        refine DW.seq ?_
        refine DW.region ?_
        refine DL.go0 tauOK hE rfl (G.b00 rfl) rfl rfl ?_
        refine DL.sb2 tauOK rfl rfl rfl rfl rfl rfl rfl ?_
        refine DL.go0 tauOK hE rfl (GStep.assign rfl) rfl rfl ?_
        refine DL.nil ?_
        refine DW.sub (T' := [(6, _), (7, _)]) (Sub.cons rfl (Sub.cons rfl Sub.nil)) (Sub.refl _) ?_
        refine DW.ret ?_
        exact RetD.cv (RV.cell rfl rfl rfl) rfl rfl
      · skip
        refine DW.seq ?_
        refine DW.seq ?_
        refine DW.region ?_
        refine DL.go0 tauOK hE rfl (GStep.move rfl) rfl rfl ?_
        refine DL.go0 tauOK hE rfl (GStep.not rfl) rfl rfl ?_
        refine DL.go0 tauOK hE rfl (GStep.move rfl) rfl rfl ?_
        first | refine DL.skip rfl rfl rfl ?_ | refine DL.go0 tauOK hE rfl (GStep.move rfl) rfl rfl ?_
        first | refine DL.skip rfl rfl rfl ?_ | refine DL.go0 tauOK hE rfl (G.tr (G.call (v := .val _) (news := []) rfl (All2.cons (ArgOf.ro rfl rfl (by simp [flat_len])) All2.nil) (gCur_flat) rfl rfl) (hb)) rfl rfl ?_
        first | refine DL.skip rfl rfl rfl ?_ | refine DL.go0 tauOK hE rfl (GStep.not rfl) rfl rfl ?_
        first | refine DL.go0 tauOK hE rfl (GStep.pickT rfl rfl) rfl rfl ?_ | refine DL.go0 tauOK hE rfl (GStep.pickF rfl rfl) rfl rfl ?_
        refine DL.go0 tauOK hE rfl (GStep.move rfl) rfl rfl ?_
        first | refine DL.skip rfl rfl rfl ?_ | refine DL.go0 tauOK hE rfl (GStep.move rfl) rfl rfl ?_
        first | refine DL.skip rfl rfl rfl ?_ | refine DL.go0 tauOK hE rfl (G.lb2 rfl rfl rfl) rfl rfl ?_
        first | refine DL.skip rfl rfl rfl ?_ | refine DL.go0 tauOK hE rfl (G.tr (G.call (v := .val _) (news := []) rfl (All2.cons (ArgOf.ro rfl rfl (by simp [flat_len])) (All2.cons (ArgOf.v rfl) All2.nil)) (gInC_flat hb hv) rfl rfl) (hi)) rfl rfl ?_
        first | refine DL.skip rfl rfl rfl ?_ | refine DL.go0 tauOK hE rfl (GStep.not rfl) rfl rfl ?_
        first | refine DL.go0 tauOK hE rfl (GStep.pickT rfl rfl) rfl rfl ?_ | refine DL.go0 tauOK hE rfl (GStep.pickF rfl rfl) rfl rfl ?_
        refine DL.nil ?_
        refine DW.sub (T' := [(1, _), (6, _), (8, _), (28, _)]) (Sub.cons rfl (Sub.cons rfl (Sub.cons rfl (Sub.cons rfl Sub.nil)))) (Sub.refl _) ?_
        refine DW.condF rfl ?_
        refine DW.skip ?_
        refine DW.seq ?_
        refine DW.region ?_
        refine DL.go0 tauOK hE rfl (GStep.move rfl) rfl rfl ?_
        refine DL.go0 tauOK hE rfl (G.lb2 rfl rfl rfl) rfl rfl ?_
        refine DL.go0 tauOK hE rfl (G.call (v := .tup [.v _, .v _]) (news := []) rfl (All2.cons (ArgOf.ro rfl rfl (by simp [flat_len])) (All2.cons (ArgOf.v rfl) All2.nil)) (gAtS_flat hb hv hi) rfl rfl) rfl rfl ?_
        refine DL.go0 tauOK hE rfl (GStep.extr rfl rfl) rfl rfl ?_
        refine DL.go0 tauOK hE rfl (GStep.extr rfl rfl) rfl rfl ?_
        refine DL.sb2 tauOK rfl rfl rfl rfl rfl rfl rfl ?_
        refine DL.go0 tauOK hE rfl (GStep.assign rfl) rfl rfl ?_
        refine DL.nil ?_
        refine DW.sub (T' := [(6, _), (7, _)]) (Sub.cons rfl (Sub.cons rfl Sub.nil)) (Sub.refl _) ?_
        refine DW.ret ?_
        exact RetD.cv (RV.cell rfl rfl rfl) rfl rfl
end Go.Proofs.Ytidcomcnieggaaa
