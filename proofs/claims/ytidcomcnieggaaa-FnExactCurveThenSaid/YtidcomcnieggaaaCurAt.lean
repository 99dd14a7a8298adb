/-
  What the program's curves give at a fraction: walked in the model's own words (two knots are stored side by side, in an order that is drawn).
-/
import Derived.Test.YtidcomcnieggaaaCurD
import Derived.Test.YtidcomcnieggaaaPureN
import Derived.Test.YtidcomcnieggaaaFrac4
import Derived.Test.YtidcomcnieggaaaFracD
namespace Go.Proofs.Ytidcomcnieggaaa
open Go.RowKit
set_option linter.unusedVariables false
set_option linter.unusedSimpArgs false
theorem drop_cons' {c : List Kn} {k : Nat} (h : k < c.length) : c.drop k = c.getD k (0, 0) :: c.drop (k + 1) := by rw [getD_of_lt c h]; exact List.drop_eq_getElem_cons h
theorem atR_go {c : List Kn} {k : Nat} (hk1 : 1 ≤ k) (hk : k < c.length) (n d : Int) : atR n d (c.drop (k - 1)) = if kx c k * d < n then atR n d (c.drop k) else ofF (ky c (k - 1) * (kx c k - kx c (k - 1)) * d + (n - kx c (k - 1) * d) * (ky c k - ky c (k - 1))) ((kx c k - kx c (k - 1)) * d) := by
  rw [drop_cons' (show k - 1 < c.length by omega), show k - 1 + 1 = k by omega, drop_cons' hk]
  rfl
theorem atR_last {c : List Kn} (h : 1 ≤ c.length) (n d : Int) : atR n d (c.drop (c.length - 1)) = none := by
  rw [drop_cons' (show c.length - 1 < c.length by omega), show c.length - 1 + 1 = c.length by omega, List.drop_length]
  rfl
def gAt : List AD → Option RD
  | [.sl .i64 2 _ l, .v (.agg ⟨[.int .i64 n, .int .i64 d]⟩)] => if curB (unflat l) = true ∧ 1 ≤ d ∧ d ≤ 1000000000 then some (rF (atF (unflat l) n d)) else none
  | _ => none
theorem gAt_flat {m : Nat} {c : List Kn} {n d : Int} (h : curB c = true) (hd : 1 ≤ d ∧ d ≤ 1000000000) : gAt [.sl .i64 2 m (flat c), .v (.agg #[.int .i64 n, .int .i64 d])] = some (rF (atF c n d)) := by
  show (if _ then _ else _) = _
  rw [unflat_flat, if_pos ⟨h, hd⟩]
/-- two cells of a block of the call's own -/
def Two (w : World) (g : Nat) (x y : Int) : Prop := g < w.heap.size ∧ w.cell? ⟨g, 0, none⟩ = some (.int .i64 x) ∧ w.cell? ⟨g, 1, none⟩ = some (.int .i64 y) ∧ w.frozen? ⟨g, 0, none⟩ = false ∧ w.frozen? ⟨g, 1, none⟩ = false
theorem Two.below {w w' : World} {g : Nat} {x y : Int} (h : Two w g x y) (hb : Below w.heap.size w w') : Two w' g x y :=
  ⟨Nat.lt_of_lt_of_le h.1 hb.size, (hb.cell (p := ⟨g, 0, none⟩) h.1).trans h.2.1, (hb.cell (p := ⟨g, 1, none⟩) h.1).trans h.2.2.1, (hb.frozen (p := ⟨g, 0, none⟩) h.1).trans h.2.2.2.1, (hb.frozen (p := ⟨g, 1, none⟩) h.1).trans h.2.2.2.2⟩
theorem Two.new (w : World) (x y : Int) (T : TypeId) : Two (w.alloc (.cells #[.int .i64 x, .int .i64 y] T)) w.heap.size x y := by
  refine ⟨by simp, ?_, ?_, ?_, ?_⟩ <;> simp [go_sem]
def intOf : Value → Int
  | .int _ z => z
  | _ => 0
def AtRel (w : World) (c : List Kn) (N D : Int) (n : Nat) (s6 : Value) (wr : World) : Prop := ∃ k : Nat, s6 = .int .i64 (k : Int) ∧ 1 ≤ k ∧ k ≤ n ∧ Two wr w.heap.size N D ∧ Two wr (w.heap.size + 1) 0 0 ∧ Below w.heap.size w wr ∧ atR N D c = atR N D (c.drop (k - 1)) ∧ kx c (k - 1) * D ≤ N
set_option maxHeartbeats 4000000 in
theorem curveAt_i (b off n cap : Nat) (c : List Kn) (N D : Int) (w : World) (hn : c.length = n) (hc : n ≤ cap) (hcap : cap ≤ 9223372036854775807) (hcur : curB c = true) (hb : b < w.heap.size)
    (hcell : ∀ j, j < n → w.cell? ⟨b, off + j * 2, none⟩ = some (.int .i64 (kx c j)) ∧ w.cell? ⟨b, off + j * 2 + 1, none⟩ = some (.int .i64 (ky c j))) (hD : 1 ≤ D ∧ D ≤ 1000000000) :
    Calls Try.prog 45 #[.slice (some ⟨b, off, none⟩) n cap, .agg #[.int .i64 N, .int .i64 D]] w (fun e w' => e = retF (atF c N D) ∧ Below w.heap.size w w') := by
  have hl := cur_len hcur
  obtain ⟨h0, h0'⟩ := hcell 0 (by omega)
  rw [Nat.zero_mul, Nat.add_zero] at h0
  have b0 := cur_bd hcur (i := 0) (by omega)
  have mb : ∀ x : Int, 0 ≤ x → x ≤ 30000 → 0 ≤ x * D ∧ x * D ≤ 30000000000000 := fun x h1 h2 => by
    have e1 : 0 ≤ x * D := Int.mul_nonneg h1 (by omega)
    have e2 : x * D ≤ 30000 * 1000000000 := Int.mul_le_mul h2 hD.2 (by omega) (by omega)
    omega
  have i1 : IntKind.i64.wrap (kx c 0 * D) = kx c 0 * D := IntWalk.i64_in _ (by have := mb _ b0.1.1 b0.1.2; omega)
  have hn0 : 0 < n := by omega
  have HC := Lib.hid hcell
  have MB := Lib.hid mb
  clear hcell mb
  have mixed := mixed
  have T0 : Two ((w.alloc (.cells #[.int .i64 N, .int .i64 D] 32)).alloc (.cells #[.int .i64 0, .int .i64 0] 32)) (w.heap.size + 1) 0 0 := by
    have := Two.new (w.alloc (.cells #[.int .i64 N, .int .i64 D] 32)) 0 0 32
    simpa using this
  have S0 : Two ((w.alloc (.cells #[.int .i64 N, .int .i64 D] 32)).alloc (.cells #[.int .i64 0, .int .i64 0] 32)) w.heap.size N D := (Two.new w N D 32).below ((Below.refl _ _).alloc (Nat.le_refl _) _)
  have B0 : Below w.heap.size w ((w.alloc (.cells #[.int .i64 N, .int .i64 D] 32)).alloc (.cells #[.int .i64 0, .int .i64 0] 32)) := ((Below.refl _ _).alloc (Nat.le_refl _) _).alloc (by simp) _
  by_cases hN : N < kx c 0 * D
  · have hp : atF c N D = none := by unfold atF; rw [if_pos hN]
    have HP := Lib.hid hp; clear hp
    clear T0 S0
    have HB := Lib.hid B0; clear B0
    generalize kx c 0 = x0 at *
    go_enter Try.func45, Try.ntmps45
    go_wp2
    go_region
    go_wp2
    refine bodyPost_ret (v := .tuple #[.agg #[.int .i64 0, .int .i64 0], .bool false]) (by simp [results, Try.results45, go_sem]) rfl ⟨by rw [HP.out]; rfl, ?_⟩
    exact HB.out.drew
  have hp : atF c N D = atR N D c := by unfold atF; rw [if_neg hN]
  have HP := Lib.hid hp; clear hp
  have hk0 : ∀ j, j = 0 → kx c j * D ≤ N := fun j hj => by subst hj; omega
  have HK0 := Lib.hid hk0; clear hk0
  generalize kx c 0 = x0 at *
  have HT0 := Lib.hid T0; clear T0
  have HS0 := Lib.hid S0; clear S0
  have HB0 := Lib.hid B0; clear B0
  go_enter Try.func45, Try.ntmps45
  go_wp2
  go_region
  go_wp2
  go_loopw [6] (fun s6 wr => AtRel w c N D n s6 wr) (fun s6 _ => n - (intOf s6).toNat)
  case atStart => exact ⟨1, rfl, Nat.le_refl _, by omega, HS0.out.below ((Below.refl _ _).drew), HT0.out.below ((Below.refl _ _).drew), HB0.out.drew, rfl, HK0.out _ rfl⟩
  case round =>
    obtain ⟨k, rfl, hk1, hk, hS, hT, hB, hat, hge⟩ := hrel
    by_cases hlt : k < n
    · have hbw : b < wr.heap.size := Nat.lt_of_lt_of_le hb hB.size
      have c1 := ((hB.cell (p := ⟨b, off + k * 2, none⟩) hb)).trans (HC.out k hlt).1
      have c2 := ((hB.cell (p := ⟨b, off + k * 2 + 1, none⟩) hb)).trans (HC.out k hlt).2
      have c3 := ((hB.cell (p := ⟨b, off + (k - 1) * 2, none⟩) hb)).trans (HC.out (k - 1) (by omega)).1
      have c4 := ((hB.cell (p := ⟨b, off + (k - 1) * 2 + 1, none⟩) hb)).trans (HC.out (k - 1) (by omega)).2
      have hk3 : ((k : Int) - 1).toNat = k - 1 := by omega
      have hk4 : 0 ≤ (k : Int) - 1 := by omega
      have hk5 : (k : Int) - 1 < (n : Int) := by omega
      have hk6 : IntKind.i64.wrap ((k : Int) - 1) = (k : Int) - 1 := IntWalk.i64_in _ (by omega)
      have hk7 : IntKind.i64.wrap ((k : Int) + 1) = (k : Int) + 1 := IntWalk.i64_in _ (by omega)
      have ba := cur_bd hcur (i := k - 1) (by omega)
      have bb := cur_bd hcur (i := k) (by omega)
      have hup := cur_up hcur (i := k - 1) (j := k) (by omega) (by omega)
      have hgo := atR_go hk1 (show k < c.length by omega) N D
      rw [← hat] at hgo
      have hHS := Lib.hid hS
      have hHT := Lib.hid hT
      have hbs := hB.size
      have HB := Lib.hid hB; clear hB
      obtain ⟨s0, s1, s2, s3, s4⟩ := hS
      obtain ⟨t0, t1, t2, t3, t4⟩ := hT
      generalize hx2 : kx c k = x2 at *
      have HX2 := Lib.hid hx2; clear hx2
      generalize ky c k = y2 at *
      generalize kx c (k - 1) = x1 at *
      generalize ky c (k - 1) = y1 at *
      have m2 := MB.out x2 bb.1.1 bb.1.2
      have j2 : IntKind.i64.wrap (x2 * D) = x2 * D := IntWalk.i64_in _ (by omega)
      have HAT := Lib.hid hat; clear hat
      by_cases hx : x2 * D < N
      · rw [if_pos hx] at hgo
        have HG := Lib.hid hgo; clear hgo
        have B1 : Below wr.heap.size wr ((wr.alloc (.cells #[.int .i64 x2, .int .i64 y2] 25)).alloc (.cells #[.int .i64 x1, .int .i64 y1] 25)).drew := (((Below.refl _ _).alloc (Nat.le_refl _) _).alloc (by simp) _).drew
        have B2 : Below wr.heap.size wr ((wr.alloc (.cells #[.int .i64 x1, .int .i64 y1] 25)).alloc (.cells #[.int .i64 x2, .int .i64 y2] 25)).drew := (((Below.refl _ _).alloc (Nat.le_refl _) _).alloc (by simp) _).drew
        have HB1 := Lib.hid B1; clear B1
        have HB2 := Lib.hid B2; clear B2
        go_wp2
        go_region
        all_goals go_wp2
        all_goals go_roundw
        all_goals first
          | (simp [intOf]; omega)
          | exact ⟨k + 1, by go_num, by omega, by omega, hHS.out.below HB1.out, hHT.out.below HB1.out, HB.out.trans (HB1.out.mono hbs), by rw [HG.out]; rfl, by show kx c k * D ≤ N; rw [HX2.out]; omega⟩
          | exact ⟨k + 1, by go_num, by omega, by omega, hHS.out.below HB2.out, hHT.out.below HB2.out, HB.out.trans (HB2.out.mono hbs), by rw [HG.out]; rfl, by show kx c k * D ≤ N; rw [HX2.out]; omega⟩
      · rw [if_neg hx] at hgo
        obtain ⟨q1, q2, q3, q4, q5, q6⟩ := seg_bd (a := (x1, y1)) (b := (x2, y2)) (n := N) (d := D) hup ba bb hD hge (by show N ≤ x2 * D; omega)
        dsimp only at q1 q2 q3 q4 q5 q6
        have v1 : IntKind.i64.wrap (x2 - x1) = x2 - x1 := IntWalk.i64_in _ (by omega)
        have v2 : IntKind.i64.wrap (y2 - y1) = y2 - y1 := IntWalk.i64_in _ (by omega)
        have v3 : IntKind.i64.wrap (y1 * (x2 - x1)) = y1 * (x2 - x1) := IntWalk.i64_in _ (by omega)
        have v4 : IntKind.i64.wrap (y1 * (x2 - x1) * D) = y1 * (x2 - x1) * D := IntWalk.i64_in _ (by omega)
        have v5 : IntKind.i64.wrap (x1 * D) = x1 * D := IntWalk.i64_in _ (by omega)
        have v6 : IntKind.i64.wrap (N - x1 * D) = N - x1 * D := IntWalk.i64_in _ (by omega)
        have v7 : IntKind.i64.wrap ((N - x1 * D) * (y2 - y1)) = (N - x1 * D) * (y2 - y1) := IntWalk.i64_in _ (by omega)
        have v8 : IntKind.i64.wrap (y1 * (x2 - x1) * D + (N - x1 * D) * (y2 - y1)) = y1 * (x2 - x1) * D + (N - x1 * D) * (y2 - y1) := IntWalk.i64_in _ (by omega)
        have v9 : IntKind.i64.wrap ((x2 - x1) * D) = (x2 - x1) * D := IntWalk.i64_in _ (by omega)
        have HG := Lib.hid hgo; clear hgo
        clear q1 q2 q3 q4 q5 q6
        have B1 : Below wr.heap.size wr ((wr.alloc (.cells #[.int .i64 x2, .int .i64 y2] 25)).alloc (.cells #[.int .i64 x1, .int .i64 y1] 25)).drew.drew := (((Below.refl _ _).alloc (Nat.le_refl _) _).alloc (by simp) _).drew.drew
        have B2 : Below wr.heap.size wr ((wr.alloc (.cells #[.int .i64 x1, .int .i64 y1] 25)).alloc (.cells #[.int .i64 x2, .int .i64 y2] 25)).drew.drew := (((Below.refl _ _).alloc (Nat.le_refl _) _).alloc (by simp) _).drew.drew
        have HB1 := Lib.hid B1; clear B1
        have HB2 := Lib.hid B2; clear B2
        go_wp2
        go_region
        all_goals go_wp2
        all_goals go_region
        all_goals go_wp2_with (go_at_call 61; refine (fracOf_i _ _ _).mono ?_; rintro e w2 ⟨rfl, hbb⟩; have hbW : Below wr.heap.size wr w2 := (by first | exact HB1.out.trans (hbb.mono HB1.out.size) | exact HB2.out.trans (hbb.mono HB2.out.size)); obtain ⟨z0, z1, z2, z3, z4⟩ := hHT.out.below hbW)
        all_goals (refine bodyPost_ret (v := .tuple #[.agg #[.int .i64 (fN (ofF (y1 * (x2 - x1) * D + (N - x1 * D) * (y2 - y1)) ((x2 - x1) * D))), .int .i64 (fD (ofF (y1 * (x2 - x1) * D + (N - x1 * D) * (y2 - y1)) ((x2 - x1) * D)))], .bool (fOk (ofF (y1 * (x2 - x1) * D + (N - x1 * D) * (y2 - y1)) ((x2 - x1) * D)))]) (by simp [results, Try.results45, go_sem, z1, z2]) rfl ⟨by rw [HP.out, HG.out, retF], ?_⟩; exact ((HB.out.trans (hbW.mono hbs)).setCell (p := ⟨w.heap.size + 1, 0, none⟩) (by simp) _).setCell (p := ⟨w.heap.size + 1, 1, none⟩) (by simp) _)
    · have ek : k = n := by omega
      subst ek
      have hla := atR_last (show 1 ≤ c.length by omega) N D
      rw [hn, ← hat] at hla
      have HL := Lib.hid hla
      obtain ⟨s0, s1, s2, s3, s4⟩ := hS
      obtain ⟨t0, t1, t2, t3, t4⟩ := hT
      clear hat hla
      go_wp2
      refine bodyPost_ret (v := .tuple #[.agg #[.int .i64 0, .int .i64 0], .bool false]) (by simp [results, Try.results45, go_sem, t1, t2]) rfl ⟨by rw [HP.out, HL.out]; rfl, ?_⟩
      exact (hB.setCell (p := ⟨w.heap.size + 1, 0, none⟩) (by simp) _).setCell (p := ⟨w.heap.size + 1, 1, none⟩) (by simp) _
theorem curveAt_dp : DFun Try.prog 45 gAt := by
  refine DFun.ofC Try.func45 rfl (by kernel_rfl) ?_
  intro w ds args r ha hg
  unfold gAt at hg
  split at hg
  case h_2 => cases hg
  rename_i m l n d
  split at hg
  case isFalse => cases hg
  rename_i hcond
  obtain ⟨hcur, hd⟩ := hcond
  cases hg
  match args, ha with
  | [v1, v2], ⟨h1, h2, _⟩ =>
    obtain ⟨A, cap, rfl, q1, q2, q3, q4, q5⟩ := h1
    have h2 : v2 = .agg #[.int .i64 n, .int .i64 d] := h2
    subst h2
    obtain ⟨c, rfl, rfl⟩ := flat_ex q3
    rw [unflat_flat] at hcur ⊢
    have hl := cur_len hcur
    obtain ⟨b, off, rfl, hb, hc⟩ := q5 (by rw [flat_len]; omega)
    rw [flat_len] at hc
    refine (curveAt_i b off c.length cap c n d w rfl q1 q2 hcur hb (fun j hj => ⟨?_, ?_⟩) hd).mono (fun e w' ⟨he, hb⟩ => ⟨_, he, hb, rd_vv rfl⟩)
    · have := hc (j * 2) (by omega)
      rw [flat_get0] at this
      exact this
    · have := hc (j * 2 + 1) (by omega)
      rw [flat_get1] at this
      exact this
end Go.Proofs.Ytidcomcnieggaaa
