/-
  The reader of a code (l6Open, pick): what its memory is, and that each pick gives a number in its range and turns the reader's own block alone.
-/
import Derived.Test.YtionljjdfgeggaaBase
import Derived.Maps.AppendAt
import Derived.Laws.BitsAllLaws
import Derived.Laws.BitsLemmas
namespace Go.Proofs.Ytionljjdfgeggaa
open Go.RowKit
set_option linter.unusedVariables false

/-- a slice of bytes that reads -/
def RB (w : World) (A : Option Addr) (n : Nat) : Prop :=
  0 < n → ∃ b off, A = some ⟨b, off, none⟩ ∧ b < w.heap.size ∧ ∀ j, j < n → ∃ u : Int, 0 ≤ u ∧ u ≤ 255 ∧ w.cell? ⟨b, off + j, none⟩ = some (.int .u8 u)

theorem rb_of_row {w : World} {a : Option Addr} {len cap : Nat} {zs : List Int}
    (h : (a = none ∧ len = 0 ∧ cap = 0 ∧ zs = []) ∨ ∃ x, a = some x ∧ len ≤ cap ∧ cap ≤ maxLen ∧ zs.length = cap ∧ (∀ i, i < zs.length → w.cell? (x.add i) = some (.int .u8 (zs.getD i 0))) ∧ ∀ n ∈ zs, (Lit.int .u8 n).wf = true) :
    RB w a len := by
  rcases h with ⟨rfl, rfl, rfl, rfl⟩ | ⟨x, rfl, hl, hm, hz, hc, hw⟩
  · exact fun h => absurd h (by omega)
  · intro hn
    obtain ⟨b, off, spot⟩ := x
    have hspot : spot = none := by simpa [Addr.add] using World.cell?_spot (hc 0 (by omega))
    subst hspot
    have hlt : b < w.heap.size := World.block_lt_of_cell? w _ (by simpa [Addr.add] using hc 0 (by omega))
    refine ⟨b, off, rfl, hlt, fun j hj => ?_⟩
    have h1 := hc j (by omega)
    rw [Go.WideShapes.add_plain] at h1
    have hm : zs.getD j 0 ∈ zs := by
      simp [List.getD_eq_getElem?_getD, List.getElem?_eq_getElem (show j < zs.length by omega)]
    have h2 := hw _ hm
    have h3 : 0 ≤ zs.getD j 0 ∧ zs.getD j 0 ≤ 255 := by simpa [Lit.wf, IntKind.min, IntKind.max, IntKind.signed, IntKind.bits] using h2
    exact ⟨_, h3.1, h3.2, h1⟩
theorem row_len {w : World} {k : IntKind} {a : Option Addr} {len cap : Nat} {zs : List Int}
    (h : (a = none ∧ len = 0 ∧ cap = 0 ∧ zs = []) ∨ ∃ x, a = some x ∧ len ≤ cap ∧ cap ≤ maxLen ∧ zs.length = cap ∧ (∀ i, i < zs.length → w.cell? (x.add i) = some (.int k (zs.getD i 0))) ∧ ∀ n ∈ zs, (Lit.int k n).wf = true) :
    len ≤ cap ∧ cap ≤ 9223372036854775807 := by
  rcases h with ⟨rfl, rfl, rfl, rfl⟩ | ⟨x, rfl, hl, hm, _⟩
  · omega
  · unfold maxLen at hm; omega

theorem RB.below {w w' : World} {A : Option Addr} {n : Nat} (h : RB w A n) (hb : Below w.heap.size w w') : RB w' A n := by
  intro hn
  obtain ⟨b, off, e, hlt, hc⟩ := h hn
  refine ⟨b, off, e, Nat.lt_of_lt_of_le hlt hb.size, fun j hj => ?_⟩
  obtain ⟨u, h1, h2, h3⟩ := hc j hj
  exact ⟨u, h1, h2, (hb.cell (p := ⟨b, off + j, none⟩) hlt).trans h3⟩

/-- block g is a reader that has picked p times -/
def Rd (w : World) (g : Nat) (p : Nat) : Prop :=
  ∃ A n c, g < w.heap.size ∧ w.cell? ⟨g, 0, none⟩ = some (.slice A n c) ∧ w.cell? ⟨g, 1, none⟩ = some (.int .i64 (p : Nat)) ∧ w.frozen? ⟨g, 1, none⟩ = false ∧ n ≤ 2000 ∧
    (0 < n → ∃ b off, A = some ⟨b, off, none⟩ ∧ b < g ∧ ∀ j, j < n → ∃ u : Int, 0 ≤ u ∧ u ≤ 255 ∧ w.cell? ⟨b, off + j, none⟩ = some (.int .u8 u))

theorem Rd.lt {w : World} {g p : Nat} (h : Rd w g p) : g < w.heap.size := by
  obtain ⟨A, n, c, hg, _⟩ := h
  exact hg
theorem Rd.keep {w w' : World} {g p : Nat} (h : Rd w g p) (hb : Below (g + 1) w w') : Rd w' g p := by
  obtain ⟨A, n, c, hg, h0, h1, hf, hn, hr⟩ := h
  refine ⟨A, n, c, Nat.lt_of_lt_of_le hg hb.size, (hb.cell (p := ⟨g, 0, none⟩) (Nat.lt_succ_self _)).trans h0, (hb.cell (p := ⟨g, 1, none⟩) (Nat.lt_succ_self _)).trans h1, (hb.frozen (p := ⟨g, 1, none⟩) (Nat.lt_succ_self _)).trans hf, hn, fun hn' => ?_⟩
  obtain ⟨b, off, e, hlt, hc⟩ := hr hn'
  refine ⟨b, off, e, hlt, fun j hj => ?_⟩
  obtain ⟨u, u1, u2, u3⟩ := hc j hj
  exact ⟨u, u1, u2, (hb.cell (p := ⟨b, off + j, none⟩) (Nat.lt_succ_of_lt hlt)).trans u3⟩

/-- since world a only block g and new blocks have turned -/
abbrev Only (g : Nat) (a w : World) : Prop := a.grownBy w (some g)
theorem Only.refl (g : Nat) (a : World) : Only g a a := ⟨rfl, rfl, rfl, Nat.le_refl _, fun _ _ _ => rfl⟩
theorem Only.trans {g : Nat} {a b c : World} (h : Only g a b) (k : Only g b c) : Only g a c :=
  ⟨k.os.trans h.os, k.tape.trans h.tape, k.output.trans h.output, Nat.le_trans h.size k.size, fun i hi hne => (k.block i (Nat.lt_of_lt_of_le hi h.size) hne).trans (h.block i hi hne)⟩
theorem Only.of_below {g : Nat} {a b c : World} (h : Only g a b) (k : Below a.heap.size b c) : Only g a c :=
  ⟨k.os.trans h.os, k.tape.trans h.tape, k.output.trans h.output, Nat.le_trans h.size k.size, fun i hi hne => (k.block i hi).trans (h.block i hi hne)⟩
theorem Only.below {g B : Nat} {a b : World} (h : Only g a b) (hB : B ≤ g) (hs : B ≤ a.heap.size) : Below B a b :=
  ⟨h.os, h.tape, h.output, h.size, fun i hi => h.block i (by omega) (fun e => by injection e; omega)⟩

theorem Rd.store {w : World} {g p : Nat} (h : Rd w g p) (k : Nat) : Rd ((w.setCell ⟨g, 1, none⟩ (.int .i64 ((p + 1 : Nat) : Int))).drewN k) g (p + 1) ∧ Only g w ((w.setCell ⟨g, 1, none⟩ (.int .i64 ((p + 1 : Nat) : Int))).drewN k) := by
  obtain ⟨A, n, c, hg, h0, h1, hf, hn, hr⟩ := h
  refine ⟨⟨A, n, c, by simpa [World.setCell] using hg, ?_, ?_, ?_, hn, fun hn' => ?_⟩, rfl, rfl, rfl, by simp [World.setCell], fun i hi hne => Below.heap_setCell _ _ _ _ (fun e => hne (by rw [e]))⟩
  · exact (World.cell?_setCell_other (w := w) (a := ⟨g, 1, none⟩) (b := ⟨g, 0, none⟩) (v := _) (by simp)).trans h0
  · exact World.cell?_setCell_same w ⟨g, 1, none⟩ _ h1
  · have : (w.setCell ⟨g, 1, none⟩ (.int .i64 ((p + 1 : Nat) : Int))).frozen? ⟨g, 1, none⟩ = w.frozen? ⟨g, 1, none⟩ := by simp [go_sem]
    exact this.trans hf
  · obtain ⟨b, off, e, hlt, hc⟩ := hr hn'
    refine ⟨b, off, e, hlt, fun j hj => ?_⟩
    obtain ⟨u, u1, u2, u3⟩ := hc j hj
    exact ⟨u, u1, u2, (World.cell?_setCell_other w ⟨g, 1, none⟩ ⟨b, off + j, none⟩ _ (by intro e; injection e with e1; omega)).trans u3⟩

/-- what a pick hands back -/
def RetPick (w : World) (g p : Nat) (n : Int) (e : Ending) (w' : World) : Prop := ∃ x : Nat, e = .returned (.int .i64 (x : Nat)) ∧ (1 ≤ n → (x : Int) < n) ∧ Rd w' g (p + 1) ∧ Only g w w'

theorem ret_int' {k : IntKind} {a b : Int} (h : a = b) : Ending.returned (.int k a) = .returned (.int k b) := by rw [h]

theorem xor_nn (x : Int) (h : 0 ≤ x) (hx : x ≤ 4611686018427387904) : 0 ≤ bits .xor .i64 x (x / 64) := by
  obtain ⟨a, rfl⟩ := Int.eq_ofNat_of_zero_le h
  have e : ((a : Int) / 64) = ((a / 64 : Nat) : Int) := by omega
  rw [e]
  have ha : a < 9223372036854775808 := by omega
  have hb : a / 64 < 9223372036854775808 := by omega
  have h1 : (BitVec.ofInt 64 (a : Int)).toNat = a := by rw [BitVec.ofInt_natCast, BitVec.toNat_ofNat]; exact Nat.mod_eq_of_lt (by omega)
  have h2 : (BitVec.ofInt 64 ((a / 64 : Nat) : Int)).toNat = a / 64 := by rw [BitVec.ofInt_natCast, BitVec.toNat_ofNat]; exact Nat.mod_eq_of_lt (by omega)
  have hx : a ^^^ (a / 64) < 2 ^ 63 := Nat.xor_lt_two_pow (by omega) (by omega)
  have : bits .xor .i64 (a : Int) ((a / 64 : Nat) : Int) = ((a ^^^ (a / 64) : Nat) : Int) := by
    show IntKind.i64.wrap ((BitVec.ofInt 64 (a : Int) ^^^ BitVec.ofInt 64 ((a / 64 : Nat) : Int)).toNat : Int) = _
    rw [BitVec.toNat_xor, h1, h2, IntKind.wrap_i64]
    omega
  rw [this]
  omega

set_option maxHeartbeats 1000000 in
theorem pick_s (g p : Nat) (n : Int) (w : World) (h : Rd w g p) (hp : p ≤ 1000000) (hn : n ≤ 1000000) :
    Calls Try.prog 40 #[.pointer (some ⟨g, 0, none⟩), .int .i64 n] w (RetPick w g p n) := by
  have HS := fun k => h.store k
  obtain ⟨A, L, c, hg, h0, h1, hf, hL, hr⟩ := h
  have HR := Lib.hid hr; clear hr
  have HS' := Lib.hid HS; clear HS
  by_cases hn1 : n < 1
  · go_enter Try.func40, Try.ntmps40
    go_wp2
    go_ret
    exact ⟨0, rfl, fun h => by omega, HS'.out 0⟩
  · by_cases hL0 : L = 0
    · subst hL0
      go_enter Try.func40, Try.ntmps40
      go_wp2
      go_ret
      exact ⟨0, rfl, fun h => by omega, HS'.out 0⟩
    · obtain ⟨b, off, rfl, hb, hc⟩ := HR.out (by omega)
      have hl0 : ((L : Int) == 0) = false := by rw [beq_eq_false_iff_ne]; omega
      have ec : ∀ j : Nat, (w.setCell ⟨g, 1, none⟩ (.int .i64 ((p : Int) + 1))).cell? ⟨b, off + j, none⟩ = w.cell? ⟨b, off + j, none⟩ := fun j => World.cell?_setCell_other w ⟨g, 1, none⟩ ⟨b, off + j, none⟩ _ (by intro e; injection e with e1; omega)
      by_cases hk : p < L
      · obtain ⟨u, u1, u2, u3⟩ := hc p hk
        have hcp := (ec p).trans u3
        clear ec hc
        go_enter Try.func40, Try.ntmps40
        go_wp2
        go_ret
        have n1 : 0 ≤ u % n := Int.emod_nonneg _ (by omega)
        have n2 : u % n < n := Int.emod_lt_of_pos _ (by omega)
        exact ⟨(u % n).toNat, ret_int' (by omega), fun _ => by omega, HS'.out 0⟩
      · obtain ⟨u, u1, u2, u3⟩ := hc (p % L) (Nat.mod_lt _ (by omega))
        obtain ⟨v, v1, v2, v3⟩ := hc ((p * 7 + 3) % L) (Nat.mod_lt _ (by omega))
        have hcp := (ec (p % L)).trans u3
        have hcq := (ec ((p * 7 + 3) % L)).trans v3
        clear ec hc
        have e1 : (p : Int).tmod (L : Int) = ((p % L : Nat) : Int) := by rw [Int.tmod_eq_emod_of_nonneg (by omega)]; omega
        have e2 : ((p : Int) * 7 + 3).tmod (L : Int) = (((p * 7 + 3) % L : Nat) : Int) := by rw [Int.tmod_eq_emod_of_nonneg (by omega), Int.natCast_emod]; simp
        have e3 : (p : Int).tdiv (L : Int) = ((p / L : Nat) : Int) := by rw [Int.tdiv_eq_ediv_of_nonneg (by omega)]; omega
        have l1 : p % L < L := Nat.mod_lt _ (by omega)
        have l2 : (p * 7 + 3) % L < L := Nat.mod_lt _ (by omega)
        have l3 : p / L ≤ p := Nat.div_le_self _ _
        have E1 := Lib.hid e1; clear e1
        have E2 := Lib.hid e2; clear e2
        have E3 := Lib.hid e3; clear e3
        go_enter Try.func40, Try.ntmps40
        go_wp2
        generalize ha : p % L = a at *
        generalize hb' : (p * 7 + 3) % L = a' at *
        generalize hq : p / L = q at *
        have HA := Lib.hid ha; clear ha
        have HB := Lib.hid hb'; clear hb'
        have HQ := Lib.hid hq; clear hq
        have e1 := E1.out
        have e2 := E2.out
        have e3 := E3.out
        have g1 : (0 : Int) ≤ (a : Int) := by omega
        have g2 : (a : Int) < (L : Int) := by omega
        have g3 : (0 : Int) ≤ (a' : Int) := by omega
        have g4 : (a' : Int) < (L : Int) := by omega
        have hL0' : ¬ (L : Int) = 0 := by omega
        have i1 : IntKind.i64.wrap ((p : Int) * 7) = (p : Int) * 7 := IntWalk.i64_in _ (by omega)
        have i2 : IntKind.i64.wrap ((p : Int) * 7 + 3) = (p : Int) * 7 + 3 := IntWalk.i64_in _ (by omega)
        have i3 : IntKind.i64.wrap (a : Int) = (a : Int) := IntWalk.i64_in _ (by omega)
        have i4 : IntKind.i64.wrap (a' : Int) = (a' : Int) := IntWalk.i64_in _ (by omega)
        have i5 : IntKind.i64.wrap (q : Int) = (q : Int) := IntWalk.i64_in _ (by omega)
        have i6 : IntKind.i64.wrap u = u := IntWalk.i64_in _ (by omega)
        have i7 : IntKind.i64.wrap v = v := IntWalk.i64_in _ (by omega)
        have i8 : IntKind.i64.wrap (u * 131) = u * 131 := IntWalk.i64_in _ (by omega)
        have i9 : IntKind.i64.wrap (v * 1117) = v * 1117 := IntWalk.i64_in _ (by omega)
        have j1 : IntKind.i64.wrap (u * 131 + v * 1117) = u * 131 + v * 1117 := IntWalk.i64_in _ (by omega)
        have j2 : IntKind.i64.wrap ((p : Int) * 29) = (p : Int) * 29 := IntWalk.i64_in _ (by omega)
        have j3 : IntKind.i64.wrap (u * 131 + v * 1117 + (p : Int) * 29) = u * 131 + v * 1117 + (p : Int) * 29 := IntWalk.i64_in _ (by omega)
        have j4 : IntKind.i64.wrap ((q : Int) * 53) = (q : Int) * 53 := IntWalk.i64_in _ (by omega)
        have j5 : IntKind.i64.wrap (u * 131 + v * 1117 + (p : Int) * 29 + (q : Int) * 53) = u * 131 + v * 1117 + (p : Int) * 29 + (q : Int) * 53 := IntWalk.i64_in _ (by omega)
        go_quiet (fail)
        clear e1 e2 e3 i1 i2 i3 i4 i5 i6 i7 i8 i9 j1 j2 j3 j4 j5
        have x1 : 0 ≤ u * 131 + v * 1117 + (p : Int) * 29 + (q : Int) * 53 := by omega
        have x2 : u * 131 + v * 1117 + (p : Int) * 29 + (q : Int) * 53 ≤ 4611686018427387904 := by omega
        generalize u * 131 + v * 1117 + (p : Int) * 29 + (q : Int) * 53 = x at *
        have hz := xor_nn x x1 x2
        go_wp2
        go_ret
        generalize bits BinOp.xor IntKind.i64 x (x / 64) = z at *
        have n1 : 0 ≤ z % n := Int.emod_nonneg _ (by omega)
        have n2 : z % n < n := Int.emod_lt_of_pos _ (by omega)
        exact ⟨(z % n).toNat, ret_int' (by omega), fun _ => by omega, HS'.out nq⟩

/-- what l6Open hands back: a reader in the next block -/
def RetOpen (w : World) (e : Ending) (w' : World) : Prop := e = .returned (.pointer (some ⟨w.heap.size, 0, none⟩)) ∧ Rd w' w.heap.size 0 ∧ Below w.heap.size w w'

theorem rd_new {w : World} {A : Option Addr} {n c : Nat} (T : TypeId) (h : RB w A n) (hn : n ≤ 2000) : Rd (w.alloc (.cells #[.slice A n c, .int .i64 0] T)) w.heap.size 0 := by
  refine ⟨A, n, c, by simp, by simp [go_sem], by simp [go_sem], by simp [go_sem], hn, fun h0 => ?_⟩
  obtain ⟨b, off, e, hlt, hc⟩ := h h0
  refine ⟨b, off, e, hlt, fun j hj => ?_⟩
  obtain ⟨u, u1, u2, u3⟩ := hc j hj
  exact ⟨u, u1, u2, (World.cell?_alloc_lt w _ ⟨b, off + j, none⟩ hlt).trans u3⟩

set_option maxHeartbeats 400000 in
theorem l6Open_s (A : Option Addr) (n c : Nat) (w : World) (h : RB w A n) (hn : n ≤ c) (hc : c ≤ 9223372036854775807) :
    Calls Try.prog 33 #[.slice A n c] w (RetOpen w) := by
  have H := Lib.hid h; clear h
  by_cases h0 : n ≤ 2000
  · go_enter Try.func33, Try.ntmps33
    go_wp2
    go_ret
    exact ⟨rfl, rd_new _ H.out h0, (Below.refl _ _).alloc (Nat.le_refl _) _⟩
  · have h2 : RB w A 2000 := fun _ => by
      obtain ⟨b, off, e, hlt, hcc⟩ := H.out (by omega)
      exact ⟨b, off, e, hlt, fun j hj => hcc j (by omega)⟩
    have H2 := Lib.hid h2; clear h2
    go_enter Try.func33, Try.ntmps33
    go_wp2
    go_ret
    exact ⟨rfl, rd_new _ H2.out (Nat.le_refl _), (Below.refl _ _).alloc (Nat.le_refl _) _⟩
end Go.Proofs.Ytionljjdfgeggaa
