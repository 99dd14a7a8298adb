/-
  The walk of the statement FnTotalParts.
-/
import Derived.Test.YtpaemnambphldaaDraw3
import Derived.Test.YtpaemnambphldaaRec2
namespace Go.Proofs.Ytpaemnambphldaa
open Go.RowKit
set_option linter.unusedVariables false

set_option maxHeartbeats 1000000 in
theorem fnTotalParts_w (A B : Option Addr) (n c m d : Nat) (w : World) (h : RB w A n) (h' : RB w B m) (hn : n ≤ c) (hc : c ≤ 9223372036854775807) (hm : m ≤ d) (hd : d ≤ 9223372036854775807) :
    Calls Try.prog 6 #[.slice A n c, .slice B m d] w fun e w' => e = .returned (.bool true) ∧ Below w.heap.size w w' := by
  by_cases hbig : n ≤ 1048576 ∧ m ≤ 1048576
  · obtain ⟨hn2, hm2⟩ := hbig
    go_enter Try.func6, Try.ntmps6
    go_wp2_with fail
    refine (DrawRecordTotal_s A n c _ h hn hc).mono ?_
    rintro e w1 ⟨E, ne, ce, F, nf, cf, l, a, rfl, oE, oF, hD, e1, e2, f1, f2, sl, sa, b1⟩
    go_wp2_with fail
    refine (recordTotal_i _ _ _ _ _ _ _ _ _ oE.ri oF.ri (by omega) (by omega)).mono ?_
    rintro e w2 ⟨rfl, rfl⟩
    go_wp2_with fail
    refine (recordTotal_s _ _ _ _ _ _ _ _ _ oE.ri oF.ri (by omega) (by omega)).mono ?_
    rintro e w2 ⟨rfl, d2⟩
    have B2 := b1.trans (d2.below _)
    have tt1 : (totalI l a != totalI l a) = false := by simp
    have tt2 : (totalI l a == totalI l a) = true := by simp
    have bd := total_bd (e := l) (a := a)
    obtain ⟨bd1, bd2⟩ := bd
    by_cases hneg : totalI l a < 0
    · go_wp2
      go_ret
      exact ⟨rfl, B2⟩
    · have hv := total_nn.1 (show 0 ≤ totalI l a by omega)
      have HV := Lib.hid hv; clear hv
      have oE := oE.below (d2.below _)
      have oF := oF.below (d2.below _)
      have hlF := oF.len
      have HLF := Lib.hid hlF; clear hlF
      have hlE := oE.len
      have HLE := Lib.hid hlE; clear hlE
      obtain ⟨k, hk⟩ : ∃ k, k = m % nf := ⟨_, rfl⟩
      have hk' : ((m : Int) % (nf : Int)) = (k : Int) := by omega
      have hkl : k < nf := by rw [hk]; exact Nat.mod_lt _ (by omega)
      have HK := Lib.hid hk; clear hk
      by_cases hk0 : k = 0
      · subst hk0
        go_wp2_with fail
        refine (recordTotal_i _ _ _ _ _ _ _ _ _ oE.ri oF.ri (by omega) (by omega)).mono ?_
        rintro e w3 ⟨rfl, rfl⟩
        go_wp2
        go_ret
        exact ⟨rfl, B2⟩
      · have hne := (recB_bd HV.out).2.2
        have hnf : nf + 1 = ne := by have h1 := HLF.out; have h2 := HLE.out; omega
        clear hne
        have HNF := Lib.hid hnf; clear hnf
        have ce1 := oE.cap
        have cf1 := oF.cap
        obtain ⟨ge, rfl, hge, hge'⟩ := oE.addr (by omega)
        obtain ⟨gf, rfl, hgf, hgf'⟩ := oF.addr (by omega)
        have hk1 : ((k : Int) == 0) = false := by rw [beq_eq_false_iff_ne]; omega
        go_wp2_with fail
        have i1 : IntKind.i64.wrap ((k : Int) + 1) = (k : Int) + 1 := IntWalk.i64_in _ (by omega)
        have i2 : IntKind.i64.wrap (totalI (l.take (k + 1)) (a.take k) + totalI (l.drop k) (a.drop k)) = totalI l a := by
          rw [total_parts HV.out (by omega) (by have := HLF.out; omega)]
          exact IntWalk.i64_in _ (by omega)
        have j1 : (0 : Int) ≤ (k : Int) + 1 := by omega
        have j2 : ((k : Int) + 1).toNat = k + 1 := by omega
        have j3 : k + 1 ≤ ce := by have := HNF.out; omega
        have j3a : k < ce := by omega
        have j3b : (k : Int) + 1 ≤ (ce : Int) := by omega
        have j4 : k ≤ cf := by omega
        have j4b : (k : Int) ≤ (cf : Int) := by omega
        have j4c : k ≤ nf := by omega
        have j5 : k ≤ ne := by have := HNF.out; omega
        have j5' : k + 1 ≤ ne := by have := HNF.out; omega
        have j6 : ¬ ce = k := by have := HNF.out; omega
        have j7 : ¬ cf = k := by omega
        have rE1 := oE.ri.take (k := k + 1) j5'
        have rF1 := oF.ri.take (k := k) (by omega)
        have rE2 : RI w2 (some ⟨ge, k, none⟩) (ne - k) (l.drop k) := by have := oE.ri.drop (k := k) j5; rwa [Nat.zero_add] at this
        have rF2 : RI w2 (some ⟨gf, k, none⟩) (nf - k) (a.drop k) := by have := oF.ri.drop (k := k) (by omega); rwa [Nat.zero_add] at this
        go_quiet ((go_at_call 18; first | exact quiet_left (recordTotal_i _ _ _ _ _ _ _ _ _ (rE1.drew ⟨_, rfl⟩) (rF1.drew ⟨_, rfl⟩) (by omega) (by omega)) | exact quiet_left (recordTotal_i _ _ _ _ _ _ _ _ _ (rE2.drew ⟨_, rfl⟩) (rF2.drew ⟨_, rfl⟩) (by omega) (by omega))))
        go_wp2
        go_ret
        exact ⟨rfl, below_drewN B2 _⟩
  · have hdis : 1048576 < n ∨ (n ≤ 1048576 ∧ 1048576 < m) := by omega
    clear hbig
    rcases hdis with h1 | ⟨h1, h2⟩
    · go_enter Try.func6, Try.ntmps6
      go_wp2
      go_ret
      exact ⟨rfl, Below.refl _ _⟩
    · go_enter Try.func6, Try.ntmps6
      go_wp2
      go_ret
      exact ⟨rfl, Below.refl _ _⟩
end Go.Proofs.Ytpaemnambphldaa
