/-
  Contracts of RecordValid and RecordTotal of program and reference.
-/
import Derived.Test.YtpaemnambphldaaRec1
namespace Go.Proofs.Ytpaemnambphldaa
open Go.RowKit
set_option linter.unusedVariables false

set_option maxHeartbeats 800000 in
theorem recordValid_i (A B : Option Addr) (n c m d : Nat) (l a : List Int) (w : World) (h : RI w A n l) (h' : RI w B m a) (hn : n ≤ 4611686018427387904) (hm : m ≤ 4611686018427387904) :
    Calls Try.prog 15 #[.slice A n c, .slice B m d] w fun e w' => e = .returned (.bool (recB l a)) ∧ w = w' := by
  have H := Lib.hid h; clear h
  have H' := Lib.hid h'; clear h'
  cases he : edgesB l
  · have hr : recB l a = false := recB_no (by simp [he])
    have HR := Lib.hid hr; clear hr
    go_enter Try.func15, Try.ntmps15
    go_wp2_with (go_at_call 34; refine (edges_i _ _ _ _ _ H.out hn).mono ?_; rintro e w' ⟨rfl, rfl⟩)
    go_ret
    exact ⟨ret_bool HR.out.symm, rfl⟩
  · by_cases hlen : m + 1 = n
    · have t1 : ((m : Int) != (n : Int) - 1) = false := by rw [bne_eq_false_iff_eq]; omega
      have t2 : ((m : Int) == (n : Int) - 1) = true := by rw [beq_iff_eq]; omega
      go_enter Try.func15, Try.ntmps15
      go_wp2_with (go_at_call 34; refine (edges_i _ _ _ _ _ H.out hn).mono ?_; rintro e w' ⟨rfl, rfl⟩)
      go_loop [20] (fun i => ∃ k : Nat, k ≤ m ∧ i = .int .i64 k ∧ okAm a k) (fun i => m - (intOf i).toNat)
      case atStart => exact ⟨0, Nat.zero_le _, rfl, okAm_zero a⟩
      case round =>
        obtain ⟨k, hk, rfl, hok⟩ := hrel
        have HO := Lib.hid hok
        clear hok
        have HL := Lib.hid H'.out.1
        by_cases hlt : k < m
        · obtain ⟨b, off, rfl, hb, hc⟩ := H'.out.2 (by omega)
          have hck := hc k hlt
          clear hc
          generalize hx : a.getD k 0 = x at *
          have HX := Lib.hid hx; clear hx
          by_cases h0 : x < 0
          · go_wp2
            go_ret
            exact ⟨ret_bool (recB_am (k := k) (by have := HL.out; omega) (by rw [HX.out]; omega)).symm, rfl⟩
          · by_cases h1 : 10000 < x
            · go_wp2
              go_ret
              exact ⟨ret_bool (recB_am (k := k) (by have := HL.out; omega) (by rw [HX.out]; omega)).symm, rfl⟩
            · go_wp2
              go_round
              case rel => exact ⟨k + 1, by omega, by go_num, okAm_succ HO.out (by rw [HX.out]; omega) (by rw [HX.out]; omega)⟩
              case measure => simp [intOf]; omega
        · have hr : recB l a = true := by
            have h1 := HL.out
            have h2 := H.out.1
            have e : a.length = k := by omega
            exact recB_iff.2 ⟨he, by omega, by rw [e]; exact HO.out⟩
          have HR := Lib.hid hr; clear hr
          go_wp2
          go_ret
          exact ⟨ret_bool HR.out.symm, rfl⟩
    · have hr : recB l a = false := recB_no (by have h1 := H.out.1; have h2 := H'.out.1; omega)
      have HR := Lib.hid hr; clear hr
      have t1 : ((m : Int) != (n : Int) - 1) = true := by rw [bne_iff_ne]; omega
      have t2 : ((m : Int) == (n : Int) - 1) = false := by rw [beq_eq_false_iff_ne]; omega
      go_enter Try.func15, Try.ntmps15
      go_wp2_with (go_at_call 34; refine (edges_i _ _ _ _ _ H.out hn).mono ?_; rintro e w' ⟨rfl, rfl⟩)
      go_ret
      exact ⟨ret_bool HR.out.symm, rfl⟩

set_option maxHeartbeats 800000 in
theorem recordValid_s (A B : Option Addr) (n c m d : Nat) (l a : List Int) (w : World) (h : RI w A n l) (h' : RI w B m a) (hn : n ≤ 4611686018427387904) (hm : m ≤ 4611686018427387904) :
    Calls Try.prog 13 #[.slice A n c, .slice B m d] w fun e w' => e = .returned (.bool (recB l a)) ∧ Drew w w' := by
  have H := Lib.hid h; clear h
  have H' := Lib.hid h'; clear h'
  cases he : edgesB l
  · have hr : recB l a = false := recB_no (by simp [he])
    have HR := Lib.hid hr; clear hr
    go_enter Try.func13, Try.ntmps13
    go_wp2_with (go_at_call 32; refine (edges_s _ _ _ _ _ H.out hn).mono ?_; rintro e w' ⟨rfl, hw⟩)
    go_ret
    exact ⟨ret_bool HR.out.symm, hw⟩
  · by_cases hlen : m + 1 = n
    · have t1 : ((m : Int) != (n : Int) - 1) = false := by rw [bne_eq_false_iff_eq]; omega
      have t2 : ((m : Int) == (n : Int) - 1) = true := by rw [beq_iff_eq]; omega
      go_enter Try.func13, Try.ntmps13
      go_wp2_with (go_at_call 32; refine (edges_s _ _ _ _ _ H.out hn).mono ?_; rintro e w' ⟨rfl, hw⟩)
      have H2 := Lib.hid (H'.out.drew hw); clear H'
      go_loop [5] (fun i => ∃ k : Nat, k ≤ m ∧ i = .int .i64 k ∧ okAm a k) (fun i => m - (intOf i).toNat)
      case atStart => exact ⟨0, Nat.zero_le _, rfl, okAm_zero a⟩
      case round =>
        obtain ⟨k, hk, rfl, hok⟩ := hrel
        have HO := Lib.hid hok
        clear hok
        have HL := Lib.hid H2.out.1
        by_cases hlt : k < m
        · obtain ⟨b, off, rfl, hb, hc⟩ := H2.out.2 (by omega)
          have hck := hc k hlt
          clear hc
          generalize hx : a.getD k 0 = x at *
          have HX := Lib.hid hx; clear hx
          cases h0 : inB x 0 10000
          · go_wp2_with (go_at_call 33; refine (l6In_s _ _ _ _).mono ?_; rintro e w' ⟨rfl, rfl⟩)
            go_ret
            exact ⟨ret_bool (recB_am (k := k) (by have := HL.out; omega) (by rw [HX.out]; simpa [inB] using h0)).symm, hw⟩
          · go_wp2_with (go_at_call 33; refine (l6In_s _ _ _ _).mono ?_; rintro e w' ⟨rfl, rfl⟩)
            go_round
            case rel =>
              simp only [inB, decide_eq_true_eq] at h0
              exact ⟨k + 1, by omega, by go_num, okAm_succ HO.out (by rw [HX.out]; omega) (by rw [HX.out]; omega)⟩
            case measure => simp [intOf]; omega
        · have hr : recB l a = true := by
            have h1 := HL.out
            have h2 := H.out.1
            have e : a.length = k := by omega
            exact recB_iff.2 ⟨he, by omega, by rw [e]; exact HO.out⟩
          have HR := Lib.hid hr; clear hr
          go_wp2
          go_ret
          exact ⟨ret_bool HR.out.symm, hw⟩
    · have hr : recB l a = false := recB_no (by have h1 := H.out.1; have h2 := H'.out.1; omega)
      have HR := Lib.hid hr; clear hr
      have t1 : ((m : Int) != (n : Int) - 1) = true := by rw [bne_iff_ne]; omega
      have t2 : ((m : Int) == (n : Int) - 1) = false := by rw [beq_eq_false_iff_ne]; omega
      go_enter Try.func13, Try.ntmps13
      go_wp2_with (go_at_call 32; refine (edges_s _ _ _ _ _ H.out hn).mono ?_; rintro e w' ⟨rfl, hw⟩)
      go_ret
      exact ⟨ret_bool HR.out.symm, hw⟩

set_option maxHeartbeats 800000 in
theorem recordTotal_i (A B : Option Addr) (n c m d : Nat) (l a : List Int) (w : World) (h : RI w A n l) (h' : RI w B m a) (hn : n ≤ 4611686018427387904) (hm : m ≤ 4611686018427387904) :
    Calls Try.prog 18 #[.slice A n c, .slice B m d] w fun e w' => e = .returned (.int .i64 (totalI l a)) ∧ w = w' := by
  have H := Lib.hid h; clear h
  have HB := Lib.hid h'; clear h'
  cases hr : recB l a
  · have ht : totalI l a = -1 := by simp [totalI, hr]
    have HT := Lib.hid ht; clear ht
    go_enter Try.func18, Try.ntmps18
    go_wp2_with (go_at_call 15; refine (recordValid_i _ _ _ _ _ _ _ _ _ H.out HB.out hn hm).mono ?_; rintro e w' ⟨rfl, rfl⟩)
    go_ret
    exact ⟨ret_int HT.out.symm, rfl⟩
  · have ht : totalI l a = a.sum := by simp [totalI, hr]
    have HT := Lib.hid ht; clear ht
    have hv := recB_iff.1 hr
    have HV := Lib.hid hv; clear hv
    have hlen : m ≤ 20 := by
      have h1 := HV.out.2.1
      have h2 := HV.out.1
      have h3 := HB.out.1
      simp [edgesB] at h2
      omega
    go_enter Try.func18, Try.ntmps18
    go_wp2_with (go_at_call 15; refine (recordValid_i _ _ _ _ _ _ _ _ _ H.out HB.out hn hm).mono ?_; rintro e w' ⟨rfl, rfl⟩)
    clear hr
    go_loop [5, 14] (fun s i => ∃ k : Nat, k ≤ m ∧ i = .int .i64 k ∧ s = .int .i64 (a.take k).sum) (fun _ i => m - (intOf i).toNat)
    case atStart => exact ⟨0, Nat.zero_le _, rfl, rfl⟩
    case round =>
      obtain ⟨k, hk, rfl, rfl⟩ := hrel
      have HL := Lib.hid HB.out.1
      have hbd := sum_bd a k (by have := HL.out; omega) HV.out.2.2
      obtain ⟨b1, b2⟩ := hbd
      generalize hs : (a.take k).sum = s at *
      have HS := Lib.hid hs; clear hs
      by_cases hlt : k < m
      · obtain ⟨b, off, rfl, hb, hc⟩ := HB.out.2 (by omega)
        have hck := hc k hlt
        clear hc
        have hx1 := HV.out.2.2 k (by have := HL.out; omega)
        obtain ⟨x1, x2⟩ := hx1
        have hts := take_sum a k (by have := HL.out; omega)
        rw [HS.out] at hts
        generalize hx : a.getD k 0 = x at *
        have HX := Lib.hid hx; clear hx
        have HTS := Lib.hid hts; clear hts
        go_wp2
        go_round
        case rel => exact ⟨k + 1, by omega, by go_num, by rw [HTS.out]⟩
        case measure => simp [intOf]; omega
      · have ek : k = a.length := by have := HL.out; omega
        have he : a.sum = s := by rw [← HS.out, ek, List.take_length]
        have HE := Lib.hid he; clear he
        have HK := Lib.hid ek; clear ek
        go_wp2
        go_ret
        exact ⟨ret_int (by rw [HT.out, HE.out]), rfl⟩

set_option maxHeartbeats 800000 in
theorem recordTotal_s (A B : Option Addr) (n c m d : Nat) (l a : List Int) (w : World) (h : RI w A n l) (h' : RI w B m a) (hn : n ≤ 4611686018427387904) (hm : m ≤ 4611686018427387904) :
    Calls Try.prog 17 #[.slice A n c, .slice B m d] w fun e w' => e = .returned (.int .i64 (totalI l a)) ∧ Drew w w' := by
  have H := Lib.hid h; clear h
  have HB0 := Lib.hid h'; clear h'
  cases hr : recB l a
  · have ht : totalI l a = -1 := by simp [totalI, hr]
    have HT := Lib.hid ht; clear ht
    go_enter Try.func17, Try.ntmps17
    go_wp2_with (go_at_call 13; refine (recordValid_s _ _ _ _ _ _ _ _ _ H.out HB0.out hn hm).mono ?_; rintro e w' ⟨rfl, hw⟩)
    go_ret
    exact ⟨ret_int HT.out.symm, hw⟩
  · have ht : totalI l a = a.sum := by simp [totalI, hr]
    have HT := Lib.hid ht; clear ht
    have hv := recB_iff.1 hr
    have HV := Lib.hid hv; clear hv
    have hlen : m ≤ 20 := by
      have h1 := HV.out.2.1
      have h2 := HV.out.1
      have h3 := HB0.out.1
      simp [edgesB] at h2
      omega
    go_enter Try.func17, Try.ntmps17
    go_wp2_with (go_at_call 13; refine (recordValid_s _ _ _ _ _ _ _ _ _ H.out HB0.out hn hm).mono ?_; rintro e w' ⟨rfl, hw⟩)
    clear hr
    have HB := Lib.hid (HB0.out.drew hw); clear HB0
    go_loop [5, 6] (fun s i => ∃ k : Nat, k ≤ m ∧ i = .int .i64 k ∧ s = .int .i64 (a.take k).sum) (fun _ i => m - (intOf i).toNat)
    case atStart => exact ⟨0, Nat.zero_le _, rfl, rfl⟩
    case round =>
      obtain ⟨k, hk, rfl, rfl⟩ := hrel
      have HL := Lib.hid HB.out.1
      have hbd := sum_bd a k (by have := HL.out; omega) HV.out.2.2
      obtain ⟨b1, b2⟩ := hbd
      generalize hs : (a.take k).sum = s at *
      have HS := Lib.hid hs; clear hs
      by_cases hlt : k < m
      · obtain ⟨b, off, rfl, hb, hc⟩ := HB.out.2 (by omega)
        have hck := hc k hlt
        clear hc
        have hx1 := HV.out.2.2 k (by have := HL.out; omega)
        obtain ⟨x1, x2⟩ := hx1
        have hts := take_sum a k (by have := HL.out; omega)
        rw [HS.out] at hts
        generalize hx : a.getD k 0 = x at *
        have HX := Lib.hid hx; clear hx
        have HTS := Lib.hid hts; clear hts
        go_wp2
        go_round
        case rel => exact ⟨k + 1, by omega, by go_num, by rw [HTS.out]⟩
        case measure => simp [intOf]; omega
      · have ek : k = a.length := by have := HL.out; omega
        have he : a.sum = s := by rw [← HS.out, ek, List.take_length]
        have HE := Lib.hid he; clear he
        have HK := Lib.hid ek; clear ek
        go_wp2
        go_ret
        exact ⟨ret_int (by rw [HT.out, HE.out]), hw⟩
end Go.Proofs.Ytpaemnambphldaa
