/-
  Contracts of the statements' own helpers over slices of ints: a copy, a comparison, marks laid and looked for.
-/
import Derived.Test.YtpaemnambphldaaFrac
namespace Go.Proofs.Ytpaemnambphldaa
open Go.RowKit
set_option linter.unusedVariables false

theorem Try.infoInt : (Try.prog.info? 3).map (fun i => (i.zero, i.size, i.bytes)) = some (some (.int .i64 0), 1, 8) := by kernel_rfl

theorem map_of_cells {l : List Int} {xs : List Value} {n : Nat} (hl : l.length = n) (hx : xs.length = n * 1) (h : ∀ j, j < n → xs[j]? = some (.int .i64 (l.getD j 0))) : l.map (Value.int .i64) = xs := by
  apply List.ext_getElem?
  intro j
  by_cases hj : j < n
  · rw [h j hj, List.getElem?_map, List.getElem?_eq_getElem (by omega)]
    simp [List.getD_eq_getElem?_getD, List.getElem?_eq_getElem (show j < l.length by omega)]
  · rw [List.getElem?_eq_none (by simp; omega), List.getElem?_eq_none (by omega)]

theorem own_cell {w : World} {base : Nat} {e : TypeId} {size g n cap : Nat} {xs : List Value} (h : w.ownsRow base e size (.slice (some ⟨g, 0, none⟩) n cap) n xs) (j : Nat) (hj : j < n * size) : ∃ u, w.cell? ⟨g, j, none⟩ = some u := by
  have hl := h.1
  rw [h.cellAt j hj, List.getElem?_eq_getElem (show j < xs.length by omega)]
  exact ⟨_, rfl⟩

set_option maxHeartbeats 400000 in
theorem toIntS_l (A : Option Addr) (n c : Nat) (l : List Int) (w : World) (h : RI w A n l) (hn : n ≤ 1048576) :
    Calls Try.prog 14 #[.slice A n c] w (RetOI w n l) := by
  have H := Lib.hid h
  clear h
  have hmk := run_make_row' (P := Try.prog) 22 3 (.int .i64 0) 8 Try.underlying22 Try.infoInt rfl .i64 .i64 n (by omega) (by omega)
  have hm0 := World.ownsRow_lit (base := w.heap.size) (e := 3) (size := 1) w (madeCells #[.int .i64 0] n) n (Nat.le_refl _) (by unfold maxLen; omega) (by simp [size_madeCells])
  have HM := Lib.hid hm0
  clear hm0
  go_enter Try.func14, Try.ntmps14
  go_wp2
  clear hmk
  go_loopw [4] (fun i wr => ∃ k : Nat, k ≤ n ∧ i = .int .i64 k ∧ Below w.heap.size w wr ∧ ∃ xs, wr.ownsRow w.heap.size 3 1 (.slice (some ⟨w.heap.size, 0, none⟩) n n) n xs ∧ ∀ j, j < k → xs[j]? = some (.int .i64 (l.getD j 0))) (fun i _ => n - (intOf i).toNat)
  case atStart => exact ⟨0, Nat.zero_le _, rfl, (Below.refl _ _).alloc (Nat.le_refl _) _, _, HM.out, fun j hj => absurd hj (by omega)⟩
  case round =>
    obtain ⟨k, hk, rfl, hbel, xs, hown, hxs⟩ := hrel
    have HX := Lib.hid hxs; clear hxs
    by_cases hlt : k < n
    · obtain ⟨b, off, rfl, hb, hc⟩ := H.out.2 (by omega)
      have hck : wr.cell? ⟨b, off + k, none⟩ = some (.int .i64 (l.getD k 0)) := (hbel.cell (p := ⟨b, off + k, none⟩) hb).trans (hc k hlt)
      have HC := Lib.hid hc
      clear hc
      obtain ⟨u, hcell⟩ := own_cell hown k (by omega)
      have hxl := hown.1
      have hfr := hown.frozenAt k
      have HS := Lib.hid (hown.stored k (.int .i64 (l.getD k 0)))
      have HL := Lib.hid hxl; clear hxl
      generalize hx : l.getD k 0 = x at *
      have HX2 := Lib.hid hx; clear hx
      go_wp2
      go_roundw
      case rel =>
        refine ⟨k + 1, by omega, by go_num, hbel.setCell (p := ⟨w.heap.size, k, none⟩) (Nat.le_refl _) _, _, HS.out.1, ?_⟩
        intro j hj
        have hl := HL.out
        by_cases e : j = k
        · subst e
          rw [List.getElem?_set_self (by omega), HX2.out]
        · rw [List.getElem?_set_ne (by omega)]
          exact HX.out j (by omega)
      case measure => simp [intOf]; omega
    · have ek : k = n := by omega
      subst ek
      go_wp2
      go_ret
      have hl := H.out.1
      refine ⟨some ⟨w.heap.size, 0, none⟩, k, rfl, ?_, hbel⟩
      unfold OI
      rw [map_of_cells H.out.1 hown.1 HX.out]
      exact hown

/-- two slices of ints are compared place by place -/
theorem eq_lists {l m : List Int} (hl : l.length = m.length) (h : ∀ j, j < l.length → l.getD j 0 = m.getD j 0) : l = m := by
  apply List.ext_getElem hl
  intro i h1 h2
  have := h i h1
  simpa [List.getD_eq_getElem?_getD, List.getElem?_eq_getElem h1, List.getElem?_eq_getElem h2] using this

def eqB (l m : List Int) : Bool := decide (l = m)
theorem eqB_no {l m : List Int} {k : Nat} (h : l.getD k 0 ≠ m.getD k 0) : eqB l m = false := by
  simp only [eqB, decide_eq_false_iff_not]
  rintro rfl
  exact h rfl
theorem eqB_len {l m : List Int} (h : l.length ≠ m.length) : eqB l m = false := by
  simp only [eqB, decide_eq_false_iff_not]
  rintro rfl
  exact h rfl

set_option maxHeartbeats 400000 in
theorem eqIntS_l (A B : Option Addr) (n c m d : Nat) (l l' : List Int) (w : World) (h : RI w A n l) (h' : RI w B m l') (hn : n ≤ 4611686018427387904) (hm : m ≤ 4611686018427387904) :
    Calls Try.prog 16 #[.slice A n c, .slice B m d] w fun e w' => e = .returned (.bool (eqB l l')) ∧ Drew w w' := by
  have H := Lib.hid h; clear h
  have H' := Lib.hid h'; clear h'
  by_cases hnm : n = m
  · subst hnm
    go_enter Try.func16, Try.ntmps16
    go_wp2
    go_loopw [5] (fun i wr => ∃ k : Nat, k ≤ n ∧ i = .int .i64 k ∧ Drew w wr ∧ ∀ j, j < k → l.getD j 0 = l'.getD j 0) (fun i _ => n - (intOf i).toNat)
    case atStart => exact ⟨0, Nat.zero_le _, rfl, Drew.refl _, fun j hj => absurd hj (by omega)⟩
    case round =>
      obtain ⟨k, hk, rfl, hw, hxs⟩ := hrel
      have HX := Lib.hid hxs; clear hxs
      by_cases hlt : k < n
      · obtain ⟨b, off, rfl, hb, hc⟩ := H.out.2 (by omega)
        obtain ⟨b', off', rfl, hb', hc'⟩ := H'.out.2 (by omega)
        have hck := (hw.cell ⟨b, off + k, none⟩).trans (hc k hlt)
        have hck' := (hw.cell ⟨b', off' + k, none⟩).trans (hc' k hlt)
        clear hc hc'
        generalize hx : l.getD k 0 = x at *
        generalize hy : l'.getD k 0 = y at *
        have HX2 := Lib.hid hx; clear hx
        have HY2 := Lib.hid hy; clear hy
        have hlt' : (k : Int) < (n : Int) := by omega
        by_cases hxy : x = y
        · subst hxy
          go_wp2
          go_quiet (fail)
          go_wp2
          go_roundw
          case rel =>
            refine ⟨k + 1, by omega, by go_num, hw.drewN nq, fun j hj => ?_⟩
            by_cases e : j = k
            · subst e; rw [HX2.out, HY2.out]
            · exact HX.out j (by omega)
          case measure => simp [intOf]; omega
        · have hne : (x != y) = true := by simp [hxy]
          have hne' : (x == y) = false := by simp [hxy]
          go_wp2
          go_quiet (fail)
          go_wp2
          go_ret
          exact ⟨ret_bool (eqB_no (k := k) (by rw [HX2.out, HY2.out]; exact hxy)).symm, hw.drewN nq⟩
      · have ek : k = n := by omega
        subst ek
        have he : eqB l l' = true := by
          have h1 := H.out.1
          have h2 := H'.out.1
          simp only [eqB, decide_eq_true_eq]
          exact eq_lists (by omega) (fun j hj => HX.out j (by omega))
        have HE := Lib.hid he; clear he
        go_wp2
        go_ret
        exact ⟨ret_bool HE.out.symm, hw⟩
  · have he : eqB l l' = false := eqB_len (by have h1 := H.out.1; have h2 := H'.out.1; omega)
    have HE := Lib.hid he; clear he
    have hne : ((n : Int) != (m : Int)) = true := by rw [bne_iff_ne]; omega
    have hne' : ((n : Int) == (m : Int)) = false := by rw [beq_eq_false_iff_ne]; omega
    go_enter Try.func16, Try.ntmps16
    go_wp2
    go_ret
    exact ⟨ret_bool HE.out.symm, Drew.refl _⟩

set_option maxHeartbeats 400000 in
theorem sameInts_l (A B : Option Addr) (n c m d : Nat) (l l' : List Int) (w : World) (h : RI w A n l) (h' : RI w B m l') (hn : n ≤ 4611686018427387904) (hm : m ≤ 4611686018427387904) :
    Calls Try.prog 26 #[.slice A n c, .slice B m d] w fun e w' => e = .returned (.bool (eqB l l')) ∧ Drew w w' := by
  have H := Lib.hid h; clear h
  have H' := Lib.hid h'; clear h'
  by_cases hnm : n = m
  · subst hnm
    go_enter Try.func26, Try.ntmps26
    go_wp2
    go_loopw [5] (fun i wr => ∃ k : Nat, k ≤ n ∧ i = .int .i64 k ∧ Drew w wr ∧ ∀ j, j < k → l.getD j 0 = l'.getD j 0) (fun i _ => n - (intOf i).toNat)
    case atStart => exact ⟨0, Nat.zero_le _, rfl, Drew.refl _, fun j hj => absurd hj (by omega)⟩
    case round =>
      obtain ⟨k, hk, rfl, hw, hxs⟩ := hrel
      have HX := Lib.hid hxs; clear hxs
      by_cases hlt : k < n
      · obtain ⟨b, off, rfl, hb, hc⟩ := H.out.2 (by omega)
        obtain ⟨b', off', rfl, hb', hc'⟩ := H'.out.2 (by omega)
        have hck := (hw.cell ⟨b, off + k, none⟩).trans (hc k hlt)
        have hck' := (hw.cell ⟨b', off' + k, none⟩).trans (hc' k hlt)
        clear hc hc'
        generalize hx : l.getD k 0 = x at *
        generalize hy : l'.getD k 0 = y at *
        have HX2 := Lib.hid hx; clear hx
        have HY2 := Lib.hid hy; clear hy
        have hlt' : (k : Int) < (n : Int) := by omega
        by_cases hxy : x = y
        · subst hxy
          go_wp2
          go_quiet (fail)
          go_wp2
          go_roundw
          case rel =>
            refine ⟨k + 1, by omega, by go_num, hw.drewN nq, fun j hj => ?_⟩
            by_cases e : j = k
            · subst e; rw [HX2.out, HY2.out]
            · exact HX.out j (by omega)
          case measure => simp [intOf]; omega
        · have hne : (x != y) = true := by simp [hxy]
          have hne' : (x == y) = false := by simp [hxy]
          go_wp2
          go_quiet (fail)
          go_wp2
          go_ret
          exact ⟨ret_bool (eqB_no (k := k) (by rw [HX2.out, HY2.out]; exact hxy)).symm, hw.drewN nq⟩
      · have ek : k = n := by omega
        subst ek
        have he : eqB l l' = true := by
          have h1 := H.out.1
          have h2 := H'.out.1
          simp only [eqB, decide_eq_true_eq]
          exact eq_lists (by omega) (fun j hj => HX.out j (by omega))
        have HE := Lib.hid he; clear he
        go_wp2
        go_ret
        exact ⟨ret_bool HE.out.symm, hw⟩
  · have he : eqB l l' = false := eqB_len (by have h1 := H.out.1; have h2 := H'.out.1; omega)
    have HE := Lib.hid he; clear he
    have hne : ((n : Int) != (m : Int)) = true := by rw [bne_iff_ne]; omega
    have hne' : ((n : Int) == (m : Int)) = false := by rw [beq_eq_false_iff_ne]; omega
    go_enter Try.func26, Try.ntmps26
    go_wp2
    go_ret
    exact ⟨ret_bool HE.out.symm, Drew.refl _⟩
end Go.Proofs.Ytpaemnambphldaa
