/-
  Plain: means and rebinned records, as rational numbers.
-/
import Derived.Test.YtlhkdgkaafhehaaBetQ
namespace Go.Proofs.Ytlhkdgkaafhehaa
set_option linter.unusedVariables false
theorem meanF_some {l a : List Int} {t b : Int} {f : Int × Int} (h : meanF l a t b = some f) : ∃ s, betF l a t b = some s ∧ t ≠ b ∧ divF s (b - t, 1) = some f := by
  unfold meanF at h
  split at h
  · cases h
  · rename_i hne
    obtain ⟨s, h1, h2⟩ := Option.bind_eq_some_iff.1 h
    exact ⟨s, h1, hne, h2⟩
theorem mean_q {l a : List Int} {t b : Int} {f : Int × Int} (h : meanF l a t b = some f) : recB l a = true ∧ 0 ≤ t ∧ t < b ∧ b ≤ 30000 ∧ vB f.1 f.2 = true ∧ qv f * ((b - t : Int) : Rat) = sumQ l a t b a.length := by
  obtain ⟨s, h1, h2, h3⟩ := meanF_some h
  have hs := betF_span h1
  obtain ⟨_, _, h0, hv, hq⟩ := divF_q h3
  refine ⟨hs.1, hs.2.1, by omega, hs.2.2.2, hv, ?_⟩
  have hp := q_pos (show 0 < b - t by omega)
  rw [hq, qv_one, (betF_q h1).2]
  grind
theorem whole_v {n : Int} (h : -1000000000 ≤ n ∧ n ≤ 1000000000) : vB n 1 = true := vB_one h.1 h.2
theorem mean_back {l a : List Int} {t b : Int} {f : Int × Int} (h : meanF l a t b = some f) : ∃ s, betF l a t b = some s ∧ mulF f (b - t, 1) = some s ∧ t < b := by
  obtain ⟨s, h1, h2, h3⟩ := meanF_some h
  obtain ⟨_, p0, p1, p2, hv, hq⟩ := mean_q h
  refine ⟨s, h1, mulF_mk hv (whole_v (by omega)) (betF_q h1).1 ?_, p1⟩
  rw [qv_one, hq, (betF_q h1).2]
theorem mean_nn {l a : List Int} {t b : Int} {f : Int × Int} (h : meanF l a t b = some f) : 0 ≤ f.1 := by
  obtain ⟨hr, p0, p1, p2, hv, hq⟩ := mean_q h
  have h0 := sumQ_nn (t := t) (b := b) hr _ (Nat.le_refl _)
  have hp := q_pos (show 0 < b - t by omega)
  refine (qv_nn (vB_pos hv)).1 ?_
  by_cases c2 : qv f < 0
  · have := (Rat.mul_lt_mul_right hp).2 c2
    grind
  · grind
theorem mean_parts {l a : List Int} {t d b : Int} {f x y : Int × Int} (h : meanF l a t b = some f) (hx : meanF l a t d = some x) (hy : meanF l a d b = some y) :
    (ltF x f && ltF y f) = false ∧ (ltF f x && ltF f y) = false := by
  obtain ⟨hr, _, p1, _, v1, q1⟩ := mean_q h
  obtain ⟨_, _, p2, _, v2, q2⟩ := mean_q hx
  obtain ⟨_, _, p3, _, v3, q3⟩ := mean_q hy
  have hs := sumQ_add (t := t) (d := d) (b := b) hr (by omega) (by omega) _ (Nat.le_refl _)
  rw [← q1, ← q2, ← q3] at hs
  have e : ((b - t : Int) : Rat) = ((d - t : Int) : Rat) + ((b - d : Int) : Rat) := by
    have : b - t = (d - t) + (b - d) := by omega
    rw [this]; norm_cast
  have u := q_pos (show 0 < d - t by omega)
  have v := q_pos (show 0 < b - d by omega)
  rw [e] at hs
  generalize ((d - t : Int) : Rat) = P at *
  generalize ((b - d : Int) : Rat) = Q at *
  constructor
  · rw [Bool.eq_false_iff]
    intro hc
    rw [Bool.and_eq_true] at hc
    have a1 := (Rat.mul_lt_mul_right u).2 ((ltF_q v2 v1).1 hc.1)
    have a2 := (Rat.mul_lt_mul_right v).2 ((ltF_q v3 v1).1 hc.2)
    grind
  · rw [Bool.eq_false_iff]
    intro hc
    rw [Bool.and_eq_true] at hc
    have a1 := (Rat.mul_lt_mul_right u).2 ((ltF_q v1 v2).1 hc.1)
    have a2 := (Rat.mul_lt_mul_right v).2 ((ltF_q v1 v3).1 hc.2)
    grind
/-! ## A part of one bin -/
theorem addF_zero_l {s : Int × Int} (h : vB s.1 s.2 = true) : addF (0, 1) s = some s := addF_mk (by decide) h h (by rw [qv_one]; grind)
theorem addF_zero_r {s : Int × Int} (h : vB s.1 s.2 = true) : addF s (0, 1) = some s := addF_mk h (by decide) h (by rw [qv_one]; grind)
theorem bsum_one {e a : List Int} (h : recB e a = true) {k : Nat} (hk : k < a.length) {t b : Int} (h1 : e.getD k 0 ≤ t) (h2 : b ≤ e.getD (k + 1) 0) {s : Int × Int} (hs : partF e a t b k = some s) (hv : vB s.1 s.2 = true) :
    ∀ j, j ≤ a.length → bsum e a t b j = some (if j ≤ k then (0, 1) else s)
  | 0, _ => by rw [if_pos (by omega)]; rfl
  | j + 1, hj => by
    have he := (recB_iff.1 h).1
    have hl := recB_bd h
    have ih := bsum_one h hk h1 h2 hs hv j (by omega)
    have hb := bin_ok h (k := j) (by omega)
    rw [bsum_succ, ih]
    have hz : j ≠ k → partF e a t b j = some (0, 1) := by
      intro hne
      have ho : ovl t b (e.getD j 0) (e.getD (j + 1) 0) = 0 := by
        rcases Nat.lt_or_gt_of_ne hne with c | c
        · have := edges_mono he (i := j + 1) (j := k) (by omega) (by omega)
          unfold ovl; omega
        · have := edges_mono he (i := k + 1) (j := j) (by omega) (by omega)
          unfold ovl; omega
      unfold partF
      rw [ho, Int.mul_zero]
      exact ofF_zero (by omega) (by omega)
    rcases Nat.lt_trichotomy j k with c | c | c
    · rw [if_pos (by omega), if_pos (by omega), hz (by omega)]
      exact addF_zero_l (s := (0, 1)) (by decide)
    · subst c
      rw [if_pos (by omega), if_neg (by omega), hs]
      exact addF_zero_l hv
    · rw [if_neg (by omega), if_neg (by omega), hz (by omega)]
      exact addF_zero_r hv
theorem mean_bin {e a : List Int} (h : recB e a = true) {k : Nat} (hk : k < a.length) {m : Int} (hm : 1 ≤ m) (hm' : m ≤ e.getD (k + 1) 0 - e.getD k 0) {x : Int × Int} (hx : ofF (a.getD k 0) (e.getD (k + 1) 0 - e.getD k 0) = some x) :
    meanF e a (e.getD k 0) (e.getD k 0 + m) = some x := by
  have hb := bin_ok h hk
  have hl := recB_bd h
  have hp := prod_bd (x := a.getD k 0) (y := m) (A := 10000) (B := 30000) (by omega) (by omega) (by omega)
  obtain ⟨s, s1, s2, s3⟩ := frac_red (a.getD k 0 * m) (e.getD (k + 1) 0 - e.getD k 0) (by omega) (by omega) (by omega)
  have ho : ovl (e.getD k 0) (e.getD k 0 + m) (e.getD k 0) (e.getD (k + 1) 0) = m := by unfold ovl; omega
  have hpart : partF e a (e.getD k 0) (e.getD k 0 + m) k = some s := by unfold partF; rw [ho]; exact s1
  have hsum := bsum_one h hk (t := e.getD k 0) (b := e.getD k 0 + m) (by omega) (by omega) hpart s2 a.length (Nat.le_refl _)
  rw [if_neg (by omega)] at hsum
  have hsp : spanB (e.getD k 0) (e.getD k 0 + m) = true := by simp only [spanB, decide_eq_true_eq]; omega
  have hbet : betF e a (e.getD k 0) (e.getD k 0 + m) = some s := by unfold betF; rw [if_pos ⟨h, hsp⟩, hsum]
  rw [meanF_eq hbet (by omega), show e.getD k 0 + m - e.getD k 0 = m from by omega]
  obtain ⟨_, vx, qx⟩ := ofF_q hx
  refine divF_mk s2 (whole_v (by omega)) (by show m ≠ 0; omega) vx ?_
  rw [qx, s3, qv_one]
  have e1 : ((a.getD k 0 * m : Int) : Rat) = (a.getD k 0 : Int) * (m : Int) := by norm_cast
  have u := q_ne (show m ≠ 0 by omega)
  have v := q_ne (show e.getD (k + 1) 0 - e.getD k 0 ≠ 0 by omega)
  rw [e1]
  grind
theorem bin_of {e a : List Int} (h : recB e a = true) {k : Nat} (hk : k < a.length) : ∃ x, ofF (a.getD k 0) (e.getD (k + 1) 0 - e.getD k 0) = some x := by
  have hb := bin_ok h hk
  obtain ⟨x, h1, _⟩ := frac_red (a.getD k 0) (e.getD (k + 1) 0 - e.getD k 0) (by omega) (by omega) (by omega)
  exact ⟨x, h1⟩
/-! ## Rebinned -/
theorem gReb_some {l a o : List Int} {r : List (Int × Int)} {n m q : Nat} (h : rebF l a o = some r) : gReb [.sl .i64 1 n l, .sl .i64 1 m a, .sl .i64 1 q o] = some (.tup [.row 27 2 r.length (flat r), .v (.bool true)]) := by
  show some (RD.tup [RC.row 27 2 (rebV l a o).length (flat (rebV l a o)), .v (.bool (rebF l a o).isSome)]) = _
  rw [rebV_some h, h]; rfl
theorem gReb_none {l a o : List Int} {n m q : Nat} (h : rebF l a o = none) : gReb [.sl .i64 1 n l, .sl .i64 1 m a, .sl .i64 1 q o] = some (.tup [.row 27 2 0 (flat []), .v (.bool false)]) := by
  show some (RD.tup [RC.row 27 2 (rebV l a o).length (flat (rebV l a o)), .v (.bool (rebF l a o).isSome)]) = _
  rw [rebV_no h, h]; rfl
theorem rebF_some {l a o : List Int} {r : List (Int × Int)} (h : rebF l a o = some r) : recB l a = true ∧ edgesB o = true ∧ rebL l a o (o.length - 1) = some r := by
  unfold rebF at h
  split at h
  · rename_i hc; exact ⟨hc.1, hc.2, h⟩
  · cases h
theorem rebL_at {l a o : List Int} : ∀ {k : Nat} {r : List (Int × Int)}, rebL l a o k = some r → ∀ i, i < k → betF l a (o.getD i 0) (o.getD (i + 1) 0) = some (r.getD i (0, 0))
  | 0, r, h, i, hi => by omega
  | k + 1, r, h, i, hi => by
    rw [rebL] at h
    obtain ⟨r', h1, h2⟩ := Option.bind_eq_some_iff.1 h
    obtain ⟨x, h3, rfl⟩ := Option.map_eq_some_iff.1 h2
    have hl := rebL_len h1
    by_cases c : i = k
    · subst c
      rw [h3, List.getD_eq_getElem?_getD, List.getElem?_append_right (by omega), hl, Nat.sub_self]; rfl
    · rw [rebL_at h1 i (by omega), List.getD_eq_getElem?_getD, List.getD_eq_getElem?_getD, List.getElem?_append_left (by omega)]
theorem reb_three {l a o : List Int} {r rx : List (Int × Int)} {z : Int × Int} (h : rebF l a o = some r) (h3 : o.length = 3) (hx : rebF l a [o.getD 0 0, o.getD 2 0] = some rx) (hz : addF (r.getD 0 (0, 0)) (r.getD 1 (0, 0)) = some z) : rx.getD 0 (0, 0) = z := by
  obtain ⟨_, _, hr⟩ := rebF_some h
  obtain ⟨_, _, hr'⟩ := rebF_some hx
  rw [h3] at hr
  have b0 := rebL_at hr 0 (by omega)
  have b1 := rebL_at hr 1 (by omega)
  have b2 := rebL_at hr' 0 (by simp)
  exact (bet_split b2 b0 b1 hz).symm
theorem reb_len {l a o : List Int} {r : List (Int × Int)} (h : rebF l a o = some r) : r.length = o.length - 1 := rebL_len (rebF_some h).2.2
theorem reb_self {l a : List Int} (h : recB l a = true) : rebF l a l = some (a.map fun z => (z, 1)) := by
  have hl := recB_bd h
  have he := (recB_iff.1 h).1
  have key : ∀ k, k ≤ a.length → rebL l a l k = some ((a.take k).map fun z => (z, 1)) := by
    intro k
    induction k with
    | zero => intro _; rfl
    | succ k ih =>
      intro hk
      rw [rebL_succ (ih (by omega)) (bet_bin h (by omega)), List.take_succ_eq_append_getElem (show k < a.length by omega), List.map_append, List.getD_eq_getElem?_getD, List.getElem?_eq_getElem (show k < a.length by omega)]
      rfl
  refine rebF_end he (k := a.length) (by omega) ?_
  rw [key _ (Nat.le_refl _), List.take_length]
theorem reb_all {l a : List Int} (h : recB l a = true) : rebF l a [l.getD 0 0, l.getD (l.length - 1) 0] = some [(totalI l a, 1)] := by
  have hl := recB_bd h
  have he := (recB_iff.1 h).1
  have d0 := edges_dep he (i := 0) (by omega)
  have d1 := edges_dep he (i := l.length - 1) (by omega)
  have d2 := edges_lt he (i := 0) (j := l.length - 1) (by omega) (by omega)
  have ho : edgesB [l.getD 0 0, l.getD (l.length - 1) 0] = true := by
    refine edgesB_iff.2 ⟨?_, by simp, by simp⟩
    intro i hi
    have : i = 0 ∨ i = 1 := by simp at hi; omega
    rcases this with rfl | rfl
    · exact ⟨d0, fun h => absurd h (by omega)⟩
    · exact ⟨d1, fun _ => d2⟩
  refine rebF_end ho (k := 1) (by simp) ?_
  exact rebL_succ (k := 0) (r := []) rfl (bet_all h)
end Go.Proofs.Ytlhkdgkaafhehaa
