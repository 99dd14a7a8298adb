/-
  Drawing a record: two new slices of ints of bounded lengths and numbers.
-/
import Derived.Test.YtpaemnambphldaaDraw1
import Derived.Test.YtpaemnambphldaaApp
namespace Go.Proofs.Ytpaemnambphldaa
open Go.RowKit
set_option linter.unusedVariables false

def Small (b : Int) (l : List Int) : Prop := ∀ z ∈ l, -b ≤ z ∧ z ≤ b
theorem Small.nil (b : Int) : Small b [] := fun z hz => by cases hz
theorem Small.snoc {b : Int} {l : List Int} {z : Int} (h : Small b l) (h1 : -b ≤ z) (h2 : z ≤ b) : Small b (l ++ [z]) := by
  intro y hy
  rcases List.mem_append.1 hy with hy | hy
  · exact h y hy
  · simp at hy; subst hy; exact ⟨h1, h2⟩
theorem Small.at {b : Int} {l : List Int} (h : Small b l) (hb : 0 ≤ b) (j : Nat) : -b ≤ l.getD j 0 ∧ l.getD j 0 ≤ b := by
  by_cases hj : j < l.length
  · exact h _ (by simp [List.getD_eq_getElem?_getD, List.getElem?_eq_getElem hj])
  · rw [List.getD_eq_getElem?_getD, List.getElem?_eq_none (by omega)]
    simp; omega
theorem Small.set {b : Int} {l : List Int} {z : Int} (h : Small b l) (h1 : -b ≤ z) (h2 : z ≤ b) (j : Nat) : Small b (l.set j z) := by
  intro y hy
  rcases List.mem_or_eq_of_mem_set hy with hy | rfl
  · exact h y hy
  · exact ⟨h1, h2⟩

def Dis (A B : Option Addr) : Prop := ∀ k, blk A = some k → blk B ≠ some k
theorem Dis.symm {A B : Option Addr} (h : Dis A B) : Dis B A := fun k hk hk' => h k hk' hk
theorem Dis.ne {A B : Option Addr} (h : Dis A B) : blk A = none ∨ blk A ≠ blk B := by
  cases hA : blk A with
  | none => exact .inl rfl
  | some k => exact .inr (fun e => h k hA e.symm)
theorem Dis.step {A B A' : Option Addr} {w : World} {base m d : Nat} {a : List Int} (h : Dis A B) (hB : OI w base B m d a) (hA : blk A' = blk A ∨ blk A' = some w.heap.size) : Dis A' B := by
  intro k hk hk'
  rcases hA with e | e
  · exact h k (by rw [← e]; exact hk) hk'
  · rw [e] at hk
    injection hk with hk
    have := (hB.blk_lt hk').2
    omega

/-- a cell of a literal row of ints, in a later world -/
theorem lit_cell {w w' : World} {T : TypeId} (ys : List Int) (row : Option Nat) (hg : (w.alloc (.cells (ys.map (Value.int .i64)).toArray T)).grownBy w' row) (hr : row ≠ some w.heap.size) (j : Nat) (hj : j < ys.length) :
    w'.cell? ⟨w.heap.size, j, none⟩ = some (.int .i64 (ys.getD j 0)) := by
  have h1 : (w.alloc (.cells (ys.map (Value.int .i64)).toArray T)).cell? ⟨w.heap.size, j, none⟩ = some (.int .i64 (ys.getD j 0)) := by
    rw [World.cell?_alloc_new]
    simp [List.getD_eq_getElem?_getD, List.getElem?_eq_getElem hj]
  exact hg.cell h1 (fun e => hr e.symm)

def RetRec (w : World) (g p : Nat) (e : Ending) (w' : World) : Prop := ∃ A n c B m d l a p', e = .returned (.tuple #[.slice A n c, .slice B m d]) ∧ OI w' w.heap.size A n c l ∧ OI w' w.heap.size B m d a ∧ Dis A B ∧
  2 ≤ n ∧ n ≤ 6 ∧ 1 ≤ m ∧ m ≤ 6 ∧ Small 100000 l ∧ Small 100000 a ∧ p' ≤ p + 20 ∧ Rd w' g p' ∧ Only g w w'

def RecRel (w : World) (g p N : Nat) (s4 s5 s6 s8 : Value) (wr : World) : Prop := ∃ (k : Nat) (d : Int) (A B : Option Addr) (c c' : Nat) (l a : List Int), k ≤ N ∧ s8 = .int .i64 k ∧ s4 = .int .i64 d ∧ 0 ≤ d ∧ d ≤ 19 + 12 * k ∧
  s5 = .slice A (k + 1) c ∧ s6 = .slice B k c' ∧ OI wr w.heap.size A (k + 1) c l ∧ OI wr w.heap.size B k c' a ∧ Dis A B ∧ Small 100000 l ∧ Small 100000 a ∧ Rd wr g (p + 2 + 2 * k) ∧ Only g w wr

set_option maxHeartbeats 2000000 in
theorem l91Record_s (g p : Nat) (w : World) (h : Rd w g p) (hp : p ≤ 100000) :
    Calls Try.prog 35 #[.pointer (some ⟨g, 0, none⟩)] w (RetRec w g p) := by
  have hg := h.lt
  go_enter Try.func35, Try.ntmps35
  go_wp2_with fail
  refine (pick_s g p _ _ h (by omega) (by omega)).mono ?_
  rintro e w1 ⟨x0, rfl, hx0, r1, o1⟩
  have hx0 := hx0 (by omega)
  have hs1 := o1.size
  go_wp2_with fail
  have hB1 : Below (g + 1) w1 ((w1.alloc (.cells #[.int .i64 (x0 : Nat)] 3)).alloc (.cells #[] 3)) := ((Below.refl _ _).alloc (by omega) _).alloc (by simp; omega) _
  refine (pick_s g (p + 1) _ _ (r1.keep hB1) (by omega) (by omega)).mono ?_
  rintro e w2 ⟨x1, rfl, hx1, r2, o2⟩
  have hx1 := hx1 (by omega)
  have O2 : Only g w w2 := (o1.of_below (((Below.refl _ _).alloc (by omega) _).alloc (by simp; omega) _)).trans o2
  have E2 : OI w2 w.heap.size (some ⟨w1.heap.size, 0, none⟩) 1 1 [(x0 : Int)] := ((OI.lit w1 w.heap.size [(x0 : Int)] hs1 (by simp)).alloc _).kept o2 (.inr (by simp [blk]; omega))
  have A2 : OI w2 w.heap.size (some ⟨w1.heap.size + 1, 0, none⟩) 0 0 [] := by
    have := OI.lit (w1.alloc (.cells #[.int .i64 (x0 : Nat)] 3)) w.heap.size [] (by simp; omega) (by simp)
    simp only [World.size_alloc] at this
    exact this.kept o2 (.inr (by simp [blk]; omega))
  have D2 : Dis (some ⟨w1.heap.size, 0, none⟩) (some ⟨w1.heap.size + 1, 0, none⟩) := by intro k hk hk'; simp [blk] at hk hk'; omega
  clear o1 o2 r1 hB1
  go_wp2_with fail
  go_loopw [4, 5, 6, 8] (fun s4 s5 s6 s8 wr => RecRel w g p (x1 + 1) s4 s5 s6 s8 wr) (fun _ _ _ s8 _ => x1 + 1 - (intOf s8).toNat)
  case atStart => exact ⟨0, _, _, _, _, _, _, _, Nat.zero_le _, rfl, rfl, by omega, by omega, rfl, rfl, E2, A2, D2, (Small.nil _).snoc (by omega) (by omega), Small.nil _, r2, O2⟩
  case round =>
    obtain ⟨k, d, A, B, c, c', l, a, hk, rfl, rfl, hd1, hd2, rfl, rfl, hE, hA, hD, sl, sa, hr, hO⟩ := hrel
    clear E2 A2 D2 O2 r2
    have hsz := hO.size
    by_cases hlt : k < x1 + 1
    · have hgE : blk A = none ∨ blk A ≠ some g := by
        cases hb : blk A with
        | none => exact .inl rfl
        | some q => exact .inr (by have := (hE.blk_lt hb).1; simp; omega)
      have hgA : blk B = none ∨ blk B ≠ some g := by
        cases hb : blk B with
        | none => exact .inl rfl
        | some q => exact .inr (by have := (hA.blk_lt hb).1; simp; omega)
      go_wp2_with fail
      refine (pick_s g _ _ _ (hr.keep ((Below.refl _ _).alloc (by omega) _)) (by omega) (by omega)).mono ?_
      rintro e w3 ⟨y, rfl, hy, r3, o3⟩
      have hy := hy (by omega)
      have hs3 := o3.size
      rw [World.size_alloc] at hs3
      have hcell := lit_cell [1, 2, 3, 4, 5, 6, 8, 10, 12] (some g) o3 (by simp; omega) y (by simp; omega)
      have hv : 1 ≤ [1, 2, 3, 4, 5, 6, 8, 10, 12].getD y (0 : Int) ∧ [1, 2, 3, 4, 5, 6, 8, 10, 12].getD y (0 : Int) ≤ 12 := by
        have : y = 0 ∨ y = 1 ∨ y = 2 ∨ y = 3 ∨ y = 4 ∨ y = 5 ∨ y = 6 ∨ y = 7 ∨ y = 8 := by omega
        rcases this with rfl | rfl | rfl | rfl | rfl | rfl | rfl | rfl | rfl <;> simp
      generalize [1, 2, 3, 4, 5, 6, 8, 10, 12].getD y (0 : Int) = v at *
      obtain ⟨v1, v2⟩ := hv
      have O3 : Only g w w3 := (hO.of_below ((Below.refl _ _).alloc (by omega) _)).trans o3
      have E3 := (hE.alloc (.cells #[.int .i64 1, .int .i64 2, .int .i64 3, .int .i64 4, .int .i64 5, .int .i64 6, .int .i64 8, .int .i64 10, .int .i64 12] 3)).kept o3 hgE
      have A3 := (hA.alloc (.cells #[.int .i64 1, .int .i64 2, .int .i64 3, .int .i64 4, .int .i64 5, .int .i64 6, .int .i64 8, .int .i64 10, .int .i64 12] 3)).kept o3 hgA
      clear o3 hE hA hr hO
      go_wp2_with (at_builtin; refine wpList_app1 rfl (.tmp 29) (.tmp 31) rfl w.heap.size A (k + 1) c l rfl (E3.alloc _) w3.heap.size (d + v) rfl (by simp [go_sem]) (by omega) (by simp; omega) ?_)
      intro A4 c4 w4 E4 g4 b4
      have hs4 := g4.size
      rw [World.size_alloc] at hs4
      have B4 : Below w.heap.size w3 w4 := ((Below.refl _ _).alloc (by omega) _).grown g4 (by simp; omega) (fun q hq => (E3.blk_lt hq).1)
      have R4 := r3.keep (B4.mono (by omega))
      have A4' := (A3.alloc (.cells #[.int .i64 (d + v)] 3)).kept g4 hD.symm.ne
      have D4 := hD.step (A3.alloc (.cells #[.int .i64 (d + v)] 3)) (by simpa using b4)
      have O4 := O3.of_below B4
      clear B4 g4 b4 A3 E3 O3 r3 hcell
      have hgE4 : blk A4 = none ∨ blk A4 ≠ some g := by
        cases hb : blk A4 with
        | none => exact .inl rfl
        | some q => exact .inr (by have := (E4.blk_lt hb).1; simp; omega)
      go_wp2_with fail
      refine (pick_s g _ _ _ R4 (by omega) (by omega)).mono ?_
      rintro e w5 ⟨z, rfl, hz, r5, o5⟩
      have hz := hz (by omega)
      have hs5 := o5.size
      have E5 := E4.kept o5 hgE4
      have A5 := A4'.kept o5 hgA
      have O5 := O4.trans o5
      clear o5 E4 A4' O4 R4
      go_wp2_with (at_builtin; refine wpList_app1 rfl (.tmp 33) (.tmp 36) rfl w.heap.size B k c' a rfl (A5.alloc _) w5.heap.size (z : Nat) rfl (by simp [go_sem]) (by omega) (by simp; omega) ?_)
      intro B6 c6 w6 A6 g6 b6
      have B6' : Below w.heap.size w5 w6 := ((Below.refl _ _).alloc (by omega) _).grown g6 (by simp; omega) (fun q hq => (A5.blk_lt hq).1)
      have R6 := r5.keep (B6'.mono (by omega))
      have E6 := (E5.alloc (.cells #[.int .i64 (z : Nat)] 3)).kept g6 D4.ne
      have D6 := (D4.symm.step (E5.alloc (.cells #[.int .i64 (z : Nat)] 3)) (by simpa using b6)).symm
      have O6 := O5.of_below B6'
      clear B6' g6 b6 A5 E5 O5 r5
      go_wp2
      go_roundw
      case rel => exact ⟨k + 1, d + v, _, _, _, _, _, _, by omega, by go_num, rfl, by omega, by omega, rfl, rfl, E6, A6, D6, sl.snoc (by omega) (by omega), sa.snoc (by omega) (by omega), R6, O6⟩
      case measure => simp [intOf]; omega
    · have ek : k = x1 + 1 := by omega
      have HK := Lib.hid ek; clear ek
      go_wp2_with fail
      refine (pick_s g _ _ _ hr (by omega) (by omega)).mono ?_
      rintro e w3 ⟨y, rfl, hy, r3, o3⟩
      have hy := hy (by omega)
      have hk1 := HK.out
      obtain ⟨ge, rfl, hge, hge'⟩ := hE.addr (by omega)
      obtain ⟨ga, rfl, hga, hga'⟩ := hA.addr (by omega)
      have E3 := hE.kept o3 (.inr (by simp [blk]; omega))
      have A3 := hA.kept o3 (.inr (by simp [blk]; omega))
      have O3 := hO.trans o3
      have hs3 := o3.size
      have hne : ge ≠ ga := fun e => hD ge rfl (by simp [blk, e])
      clear hE hA o3 hr hO hk1
      by_cases h0 : y = 0
      · subst h0
        have c0 := E3.cell 0 (by omega)
        have c1 := E3.cell 1 (by have := HK.out; omega)
        have f1 := E3.frozen 1
        have S := E3.set 1 (l.getD 0 0)
        have hl0 := sl.at (by omega) 0
        generalize l.getD 0 0 = z at *
        generalize l.getD 1 0 = z1 at *
        have HS := Lib.hid S; clear S
        have k1 : 1 ≤ k := by have := HK.out; omega
        go_wp2
        go_ret2
        exact ⟨_, _, _, _, _, _, _, _, _, rfl, HS.out.1, A3.kept HS.out.2 (.inr (by simp [blk]; omega)), hD, by omega, by omega, by omega, by omega, sl.set hl0.1 hl0.2 1, sa, by omega, r3.keep (((Below.refl _ _).setCell (p := ⟨ge, 1, none⟩) (by simp; omega) _)), O3.of_below ((Below.refl _ _).setCell (p := ⟨ge, 1, none⟩) hge _)⟩
      · by_cases h1 : y = 1
        · subst h1
          go_wp2_with fail
          refine (pick_s g _ _ _ (r3.keep ((Below.refl _ _).alloc (by omega) _)) (by omega) (by omega)).mono ?_
          rintro e w4 ⟨q, rfl, hq, r4, o4⟩
          have hq := hq (by omega)
          have hcell := lit_cell [-1, 10001] (some g) o4 (by simp; omega) q (by simp; omega)
          have hv : -1 ≤ [-1, 10001].getD q (0 : Int) ∧ [-1, 10001].getD q (0 : Int) ≤ 10001 := by
            have : q = 0 ∨ q = 1 := by omega
            rcases this with rfl | rfl <;> simp
          generalize [-1, 10001].getD q (0 : Int) = v at *
          obtain ⟨v1, v2⟩ := hv
          have O4 := (O3.of_below ((Below.refl _ _).alloc (by omega) (.cells #[.int .i64 (-1), .int .i64 10001] 3))).trans o4
          have E4 := (E3.alloc (.cells #[.int .i64 (-1), .int .i64 10001] 3)).kept o4 (.inr (by simp [blk]; omega))
          have A4 := (A3.alloc (.cells #[.int .i64 (-1), .int .i64 10001] 3)).kept o4 (.inr (by simp [blk]; omega))
          have c0 := A4.cell 0 (by have := HK.out; omega)
          have f0 := A4.frozen 0
          have S := A4.set 0 v
          generalize a.getD 0 0 = z at *
          have HS := Lib.hid S; clear S
          clear o4 E3 A3 O3 r3
          have k1 : 1 ≤ k := by have := HK.out; omega
          go_wp2
          go_ret2
          exact ⟨_, _, _, _, _, _, _, _, _, rfl, E4.kept HS.out.2 (.inr (by simp [blk]; omega)), HS.out.1, hD, by omega, by omega, by omega, by omega, sl, sa.set (by omega) (by omega) 0, by omega, r4.keep (((Below.refl _ _).setCell (p := ⟨ga, 0, none⟩) (by simp; omega) _)), O4.of_below ((Below.refl _ _).setCell (p := ⟨ga, 0, none⟩) hga _)⟩
        · by_cases h2 : y = 2
          · subst h2
            go_wp2_with (at_builtin; refine wpList_app1 rfl (.tmp 58) (.tmp 59) rfl w.heap.size _ k c' a rfl (A3.alloc _) w3.heap.size 1 rfl (by simp [go_sem]) (by omega) (by simp; omega) ?_)
            intro B6 c6 w6 A6 g6 b6
            have B6' : Below w.heap.size w3 w6 := ((Below.refl _ _).alloc (by omega) _).grown g6 (by simp; omega) (fun q hq => (A3.blk_lt hq).1)
            have R6 := r3.keep (B6'.mono (by omega))
            have E6 := (E3.alloc (.cells #[.int .i64 1] 3)).kept g6 hD.ne
            have D6 := (hD.symm.step (E3.alloc (.cells #[.int .i64 1] 3)) (by simpa using b6)).symm
            have O6 := O3.of_below B6'
            clear B6' g6 b6 A3 E3 O3 r3
            have k1 : 1 ≤ k := by have := HK.out; omega
            go_wp2
            go_ret2
            exact ⟨_, _, _, _, _, _, _, _, _, rfl, E6, A6, D6, by omega, by omega, by omega, by omega, sl, sa.snoc (by omega) (by omega), by omega, R6, O6⟩
          · have n0 : ((y : Int) == 0) = false := by rw [beq_eq_false_iff_ne]; omega
            have n1 : ((y : Int) == 1) = false := by rw [beq_eq_false_iff_ne]; omega
            have n2 : ((y : Int) == 2) = false := by rw [beq_eq_false_iff_ne]; omega
            have k1 : 1 ≤ k := by have := HK.out; omega
            go_wp2
            go_ret2
            exact ⟨_, _, _, _, _, _, _, _, _, rfl, E3, A3, hD, by omega, by omega, by omega, by omega, sl, sa, by omega, r3, O3⟩
end Go.Proofs.Ytpaemnambphldaa
