/-
  Contracts of the tests on records and of their totals.
-/
import Derived.Test.YtpaemnambphldaaFrac3
import Derived.Test.YtpaemnambphldaaPureR
namespace Go.Proofs.Ytpaemnambphldaa
open Go.RowKit
set_option linter.unusedVariables false

set_option maxHeartbeats 400000 in
theorem isDepth_i (d : Int) (w : World) : Calls Try.prog 48 #[.int .i64 d] w fun e w' => e = .returned (.bool (depB d)) ∧ w = w' := by
  by_cases h0 : 0 ≤ d
  · go_enter Try.func48, Try.ntmps48
    go_wp2
    go_ret
    exact ⟨by simp [depB, h0], rfl⟩
  · go_enter Try.func48, Try.ntmps48
    go_wp2
    go_ret
    exact ⟨by simp [depB]; omega, rfl⟩

theorem depB_inB (d : Int) : inB d 0 30000 = depB d := rfl

set_option maxHeartbeats 400000 in
theorem l11Depth_s (d : Int) (w : World) : Calls Try.prog 44 #[.int .i64 d] w fun e w' => e = .returned (.bool (depB d)) ∧ w = w' := by
  go_enter Try.func44, Try.ntmps44
  go_wp2_with (go_at_call 33; refine (l6In_s _ _ _ _).mono ?_; rintro e w' ⟨rfl, rfl⟩)
  go_ret
  exact ⟨rfl, rfl⟩

set_option maxHeartbeats 400000 in
theorem edges_i (A : Option Addr) (n c : Nat) (l : List Int) (w : World) (h : RI w A n l) (hn : n ≤ 4611686018427387904) :
    Calls Try.prog 34 #[.slice A n c] w fun e w' => e = .returned (.bool (edgesB l)) ∧ w = w' := by
  have H := Lib.hid h
  clear h
  go_enter Try.func34, Try.ntmps34
  go_wp2
  go_loop [7] (fun i => ∃ k : Nat, k ≤ n ∧ i = .int .i64 k ∧ okUp l k) (fun i => n - (intOf i).toNat)
  case atStart => exact ⟨0, Nat.zero_le _, rfl, okUp_zero l⟩
  case round =>
    obtain ⟨k, hk, rfl, hok⟩ := hrel
    have HO := Lib.hid hok
    clear hok
    have HL := Lib.hid H.out.1
    by_cases hlt : k < n
    · obtain ⟨b, off, rfl, hb, hc⟩ := H.out.2 (by omega)
      have hck := hc k hlt
      have hck1 := hc (k - 1) (by omega)
      have HC := Lib.hid hc
      clear hc
      generalize hx : l.getD k 0 = x at *
      generalize hy : l.getD (k - 1) 0 = y at *
      have HX := Lib.hid hx; clear hx
      have HY := Lib.hid hy; clear hy
      cases hd : depB x
      · go_wp2_with (go_at_call 48; refine (isDepth_i _ _).mono ?_; rintro e w' ⟨rfl, rfl⟩)
        go_ret
        exact ⟨ret_bool (edgesB_no (k := k) (by have := HL.out; omega) (.inl (by rw [HX.out]; exact hd))).symm, rfl⟩
      · by_cases h0 : 0 < k
        · by_cases hxy : x ≤ y
          · go_wp2_with (go_at_call 48; refine (isDepth_i _ _).mono ?_; rintro e w' ⟨rfl, rfl⟩)
            go_ret
            exact ⟨ret_bool (edgesB_no (k := k) (by have := HL.out; omega) (.inr ⟨h0, by rw [HX.out, HY.out]; exact hxy⟩)).symm, rfl⟩
          · go_wp2_with (go_at_call 48; refine (isDepth_i _ _).mono ?_; rintro e w' ⟨rfl, rfl⟩)
            go_round
            case rel => exact ⟨k + 1, by omega, by go_num, okUp_succ HO.out (by rw [HX.out]; exact hd) (fun _ => by rw [HX.out, HY.out]; omega)⟩
            case measure => simp [intOf]; omega
        · go_wp2_with (go_at_call 48; refine (isDepth_i _ _).mono ?_; rintro e w' ⟨rfl, rfl⟩)
          go_round
          case rel => exact ⟨k + 1, by omega, by go_num, okUp_succ HO.out (by rw [HX.out]; exact hd) (fun h => absurd h h0)⟩
          case measure => simp [intOf]; omega
    · have he : edgesB l = decide (2 ≤ n ∧ n ≤ 21) := by
        have := HL.out
        have e : l.length = k := by omega
        rw [edgesB_end (by rw [e]; exact HO.out), this]
      have HE := Lib.hid he; clear he
      by_cases h2 : 2 ≤ n
      · go_wp2
        go_ret
        exact ⟨ret_bool (by rw [HE.out, Bool.eq_iff_iff]; simp; omega), rfl⟩
      · go_wp2
        go_ret
        exact ⟨ret_bool (by rw [HE.out, Bool.eq_iff_iff]; simp; omega), rfl⟩

set_option maxHeartbeats 800000 in
theorem edges_s (A : Option Addr) (n c : Nat) (l : List Int) (w : World) (h : RI w A n l) (hn : n ≤ 4611686018427387904) :
    Calls Try.prog 32 #[.slice A n c] w fun e w' => e = .returned (.bool (edgesB l)) ∧ Drew w w' := by
  have H := Lib.hid h
  clear h
  go_enter Try.func32, Try.ntmps32
  go_wp2
  go_loopw [3] (fun i wr => ∃ k : Nat, k ≤ n ∧ i = .int .i64 k ∧ okUp l k ∧ Drew w wr) (fun i _ => n - (intOf i).toNat)
  case atStart => exact ⟨0, Nat.zero_le _, rfl, okUp_zero l, Drew.refl _⟩
  case round =>
    obtain ⟨k, hk, rfl, hok, hw⟩ := hrel
    have HO := Lib.hid hok
    clear hok
    have HL := Lib.hid H.out.1
    by_cases hlt : k < n
    · obtain ⟨b, off, rfl, hb, hc⟩ := H.out.2 (by omega)
      have hck := (hw.cell ⟨b, off + k, none⟩).trans (hc k hlt)
      have hck1 := (hw.cell ⟨b, off + (k - 1), none⟩).trans (hc (k - 1) (by omega))
      have HC := Lib.hid hc
      clear hc
      generalize hx : l.getD k 0 = x at *
      generalize hy : l.getD (k - 1) 0 = y at *
      have HX := Lib.hid hx; clear hx
      have HY := Lib.hid hy; clear hy
      have hlt' : (k : Int) < (n : Int) := by omega
      cases hd : depB x
      · go_wp2
        go_quiet ((go_at_call 44; exact quiet_left (l11Depth_s _ _)))
        go_wp2
        go_ret
        exact ⟨ret_bool (edgesB_no (k := k) (by have := HL.out; omega) (.inl (by rw [HX.out]; exact hd))).symm, hw.drewN nq⟩
      · by_cases h0 : 0 < k
        · by_cases hxy : x ≤ y
          · go_wp2
            go_quiet ((go_at_call 44; exact quiet_left (l11Depth_s _ _)))
            go_wp2
            go_ret
            exact ⟨ret_bool (edgesB_no (k := k) (by have := HL.out; omega) (.inr ⟨h0, by rw [HX.out, HY.out]; exact hxy⟩)).symm, hw.drewN nq⟩
          · go_wp2
            go_quiet ((go_at_call 44; exact quiet_left (l11Depth_s _ _)))
            go_wp2
            go_roundw
            case rel => exact ⟨k + 1, by omega, by go_num, okUp_succ HO.out (by rw [HX.out]; exact hd) (fun _ => by rw [HX.out, HY.out]; omega), hw.drewN nq⟩
            case measure => simp [intOf]; omega
        · go_wp2
          go_quiet ((go_at_call 44; exact quiet_left (l11Depth_s _ _)))
          go_wp2
          go_roundw
          case rel => exact ⟨k + 1, by omega, by go_num, okUp_succ HO.out (by rw [HX.out]; exact hd) (fun h => absurd h h0), hw.drewN nq⟩
          case measure => simp [intOf]; omega
    · have he : edgesB l = inB n 2 21 := by
        have := HL.out
        have e : l.length = k := by omega
        rw [edgesB_end (by rw [e]; exact HO.out), this]
        simp only [inB]
        congr 1
        exact propext ⟨fun h => by omega, fun h => by omega⟩
      have HE := Lib.hid he; clear he
      go_wp2_with (go_at_call 33; refine (l6In_s _ _ _ _).mono ?_; rintro e w' ⟨rfl, rfl⟩)
      go_ret
      exact ⟨ret_bool HE.out.symm, hw⟩
end Go.Proofs.Ytpaemnambphldaa
