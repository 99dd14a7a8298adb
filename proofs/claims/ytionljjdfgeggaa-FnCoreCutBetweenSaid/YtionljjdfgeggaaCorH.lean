/-
  Where a depth is in a core, by the library's search with a closure: walked with the kit's words.
-/
import Derived.Test.YtionljjdfgeggaaCorD
import Derived.Shelf.SlicesQ.IndexFunc
import Derived.Ground.SlgfProg
import Derived.Lib.SliceRun
namespace Go.Proofs.Ytionljjdfgeggaa
open Go.RowKit Go.Shelf Go.Lib
set_option linter.unusedVariables false
set_option linter.unusedSimpArgs false
shelf_lay_g SlLaysH0.n6 Slgf 6 at Try 41 as Try.lIdx
def encP (x : Int × Int) : List Value := [.int .i64 x.1, .int .i64 x.2]
def inP (d : Int) (x : Int × Int) : Bool := decide (x.1 ≤ d) && decide (d < x.2)
theorem predH (d : Int) (B : Nat) (w : World) (hB : B < w.heap.size) (hcell : w.cell? ⟨B, 0, none⟩ = some (.int .i64 d)) :
    PredBelow Try.prog 42 #[.pointer (some ⟨B, 0, none⟩)] (fun x => .agg (encP x).toArray) (inP d) w := fun W x hb => by
  have hc : W.cell? ⟨B, 0, none⟩ = some (.int .i64 d) := (hb.cell (p := ⟨B, 0, none⟩) hB).trans hcell
  have hBW : B < W.heap.size := Nat.lt_of_lt_of_le hB hb.size
  have hne : B ≠ W.heap.size := by omega
  show Calls Try.prog 42 #[.agg #[.int .i64 x.1, .int .i64 x.2], .pointer (some ⟨B, 0, none⟩)] W _
  go_enter Try.func42, Try.ntmps42
  go_wp2
  all_goals (go_ret; exact ⟨by (simp_all [inP] <;> omega), hb.alloc hb.size _⟩)
theorem idx_has (d : Int) : ∀ (c : List Pc) (i : Nat), Lib.idxByFrom (fun _ y => inP d y) (default : Pc) c i = hasR d c i
  | [], i => rfl
  | p :: r, i => by
    rw [Lib.idxByFrom, hasR, idx_has d r (i + 1)]
    unfold inP
    by_cases h : p.1 ≤ d ∧ d < p.2
    · rw [if_pos h, decide_eq_true h.1, decide_eq_true h.2]; rfl
    · rw [if_neg h, if_neg]
      intro h'
      rw [Bool.and_eq_true, decide_eq_true_eq, decide_eq_true_eq] at h'
      exact h h'
/-- the cells of a row of pairs -/
def RCells (w : World) (A : Option Addr) (c : List Pc) : Prop := 0 < c.length → ∃ b off, A = some ⟨b, off, none⟩ ∧ b < w.heap.size ∧ ∀ j, j < (flat c).length → w.cell? ⟨b, off + j, none⟩ = some (.int .i64 ((flat c).getD j 0))
theorem RCells.below {w w' : World} {A : Option Addr} {c : List Pc} (h : RCells w A c) (hb : Below w.heap.size w w') : RCells w' A c := fun h0 => by
  obtain ⟨b, off, e, h1, h2⟩ := h h0
  exact ⟨b, off, e, Nat.lt_of_lt_of_le h1 hb.size, fun j hj => (hb.cell (p := ⟨b, off + j, none⟩) h1).trans (h2 j hj)⟩
set_option maxHeartbeats 1000000 in
theorem idx_nil (d : Int) (A : Option Addr) (cc B : Nat) (w : World) :
    Calls Try.prog 41 #[.slice A 0 cc, .func (.func 42) #[] #[.pointer (some ⟨B, 0, none⟩)]] w (fun e w' => e = .returned (.int .i64 (-1)) ∧ Below w.heap.size w w') := by
  go_enter Try.func41, Try.ntmps41
  go_wp2
  go_loopg [5, 8] 0 (fun gg _ s8 wr => s8 = .int .i64 ((0 : Nat) : Int) ∧ Aside (Below w.heap.size w wr))
  case atStart => exact ⟨rfl, Below.refl _ w⟩
  case round =>
    obtain ⟨rfl, BW⟩ := hrel
    go_wp2
    go_ret
    exact ⟨rfl, BW.out⟩
set_option maxHeartbeats 1000000 in
theorem idx_call (d : Int) (A : Option Addr) (c : List Pc) (cc B : Nat) (w : World) (hc : RCells w A c) (hbig : c.length ≤ 9223372036854775807) (hB : B < w.heap.size) (hcell : w.cell? ⟨B, 0, none⟩ = some (.int .i64 d)) :
    Calls Try.prog 41 #[.slice A c.length cc, .func (.func 42) #[] #[.pointer (some ⟨B, 0, none⟩)]] w (fun e w' => e = .returned (.int .i64 (hasR d c 0)) ∧ Below w.heap.size w w') := by
  by_cases h0 : 0 < c.length
  · obtain ⟨b, off, rfl, h1, h2⟩ := hc h0
    have eg : ∀ args w, (callFunc 42 args).run Try.prog w = .ok (.enter 42 args) w := enters_of Try.func42 (by kernel_rfl) rfl
    have hcon := AnyQ.slices_IndexFunc Try.lIdx 2 Try.isAgg38 Try.sizeOf38 encP (fun _ => rfl) (inP d) 42 #[.pointer (some ⟨B, 0, none⟩)] eg b off c.length cc c w
      (predH d B w hB hcell) (Nat.le_refl _) hbig h1 (fun j hj i v hi => by
        have e0 := h2 (j * 2) (by rw [flat_len]; omega)
        have e1 := h2 (j * 2 + 1) (by rw [flat_len]; omega)
        rw [flat_get0] at e0
        rw [flat_get1] at e1
        have ej : c[j]! = c.getD j (0, 0) := by rw [getD_of_lt' c hj]; simp [hj]
        rw [ej] at hi
        match i, hi with
        | 0, hi => simp only [encP, List.getElem?_cons_zero, Option.some.injEq] at hi; rw [← hi]; exact e0
        | 1, hi => simp only [encP, List.getElem?_cons_succ, List.getElem?_cons_zero, Option.some.injEq] at hi; rw [← hi]; exact e1
        | i + 2, hi => simp [encP] at hi)
    change Calls Try.prog 41 _ _ _ at hcon
    rw [List.take_length] at hcon
    unfold Lib.idxBy at hcon
    rw [idx_has] at hcon
    exact hcon
  · obtain rfl : c = [] := List.eq_nil_of_length_eq_zero (by omega)
    exact idx_nil d A cc B w
set_option maxHeartbeats 1000000 in
theorem coreHas_di : DFun Try.prog 23 gHas := by
  refine DFun.ofC Try.func23 rfl (by kernel_rfl) ?_
  intro w ds args r ha hg
  unfold gHas at hg
  split at hg
  case h_2 => cases hg
  rename_i n l d
  cases hg
  rcases args with _ | ⟨x, _ | ⟨y, _ | ⟨z, args⟩⟩⟩
  · exact ha.elim
  · exact ha.2.elim
  · obtain ⟨hx, hy, _⟩ := ha
    obtain rfl : y = .int .i64 d := hy
    obtain ⟨A, cc, rfl, b1, b2, b3, b4, b5⟩ := hx
    obtain ⟨c, rfl, rfl⟩ := flat_ex b3
    rw [unflat_flat]
    have hc0 : RCells w A c := fun h => b5 (by rw [flat_len]; omega)
    have hb1 : Below w.heap.size w (w.alloc (.cells #[.int .i64 d] 3)) := (Below.refl _ w).alloc (Nat.le_refl _) _
    have hc1 := hc0.below hb1
    have hcell1 : (w.alloc (.cells #[.int .i64 d] 3)).cell? ⟨w.heap.size, 0, none⟩ = some (.int .i64 d) := by simp
    have hsz1 : w.heap.size < (w.alloc (.cells #[.int .i64 d] 3)).heap.size := by simp
    have hV : Calls Try.prog 18 #[.slice A c.length cc] (w.alloc (.cells #[.int .i64 d] 3)) (fun e w' => e = .returned (.bool (coreB c)) ∧ Below (w.alloc (.cells #[.int .i64 d] 3)).heap.size (w.alloc (.cells #[.int .i64 d] 3)) w') := by
      refine (coreValid_di.calls _ [.sl .i64 2 c.length (flat c)] [.slice A c.length cc] _ ⟨⟨A, cc, rfl, b1, b2, flat_len c, by omega, fun h => hc1 (by rw [flat_len] at h; omega)⟩, trivial⟩ gCore_flat).mono ?_
      rintro e w' ⟨y, rfl, hb, hy⟩
      have hy : y = .bool (coreB c) := hy
      exact ⟨by rw [hy], hb⟩
    have hI : ∀ W, Below (w.alloc (.cells #[.int .i64 d] 3)).heap.size (w.alloc (.cells #[.int .i64 d] 3)) W → Calls Try.prog 41 #[.slice A c.length cc, .func (.func 42) #[] #[.pointer (some ⟨w.heap.size, 0, none⟩)]] W (fun e w' => e = .returned (.int .i64 (hasR d c 0)) ∧ Below W.heap.size W w') := fun W hW =>
      idx_call d A c cc w.heap.size W (hc1.below hW) (by omega) (Nat.lt_of_lt_of_le hsz1 hW.size) ((hW.cell (p := ⟨w.heap.size, 0, none⟩) hsz1).trans hcell1)
    clear hc0 hc1 b5 hcell1
    show Calls Try.prog 23 #[.slice A c.length cc, .int .i64 d] w _
    unfold hasC
    cases hb : coreB c
    · rw [hb] at hV
      clear hI
      go_enter Try.func23, Try.ntmps23
      go_wp2_with (go_at_call 18; refine hV.mono ?_; rintro e w' ⟨rfl, hb'⟩)
      go_ret
      exact ⟨_, rfl, hb1.trans (hb'.mono (by simp)), rfl⟩
    · rw [hb] at hV
      go_enter Try.func23, Try.ntmps23
      go_wp2_with (first | (go_at_call 18; refine hV.mono ?_; rintro e w' ⟨rfl, hb'⟩) | (go_at_call 41; refine (hI _ hb').mono ?_; rintro e w'' ⟨rfl, hb''⟩))
      go_ret
      exact ⟨_, rfl, (hb1.trans (hb'.mono (by simp))).trans (hb''.mono (Nat.le_trans (by simp) hb'.size)), rfl⟩
  · exact ha.2.2.elim
end Go.Proofs.Ytionljjdfgeggaa
