/-
  How a row of pairs that came in, and a pair, are told to the plain machine.
-/
import Derived.Test.YtionljjdfgeggaaLawH
import Derived.Deep.SlicePairs
import Derived.Lib.SmallJoins
import Derived.OpenShut
import Derived.ChangeArms
namespace Go.Proofs.Ytionljjdfgeggaa
open Go.RowKit Go.ChangeShapes Go.WideShapes Go.Deep
set_option linter.unusedVariables false
def valI : Value → Int
  | .int _ z => z
  | _ => 0
theorem open_pairsA {H : Type} {enc : TypeId × Value → H} {P : Program} {w : World} {base : Nat} {spare : Nat → Bool} {held : Bool} {t e : TypeId} {f0 f1 : Field} (ht : P.underlying t = some (.slice e)) (he : P.underlying e = some (.struct #[f0, f1]))
    (ce : P.cellsOf e = 2) (o0 : f0.offset = 0) (o1 : f1.offset = 1) (c0 : P.cellsOf f0.type = 1) (c1 : P.cellsOf f1.type = 1) (i0 : P.underlying f0.type = some (.int .i64)) (i1 : P.underlying f1.type = some (.int .i64))
    {a : Option Addr} {len cap : Nat} {d : DataW H} {p : List MemPlace} (h : DataW.Trod enc P w base spare held t (.slice a len cap) d p) : ∃ l : List Int, ARel w (.sl .i64 2 len l) (.slice a len cap) := by
  obtain ⟨fuel, hf⟩ := h
  rcases open_slice_pairs ht he ce o0 o1 c0 c1 hf with ⟨hcs, _⟩ | ⟨x, l, c, m, n, V0, V1, D0, D1, P0, P1, hcs, _, hl, hm, hmm, _, hcell⟩
  · simp [Value.cells] at hcs
    obtain ⟨rfl, rfl, rfl⟩ := hcs
    exact ⟨[], none, 0, rfl, Nat.le_refl _, by omega, by simp, by omega, fun h => by simp at h⟩
  · simp [Value.cells] at hcs
    obtain ⟨rfl, rfl, rfl⟩ := hcs
    have hlm : len ≤ m := by rw [hmm]; split <;> omega
    unfold maxLen at hm
    have hlen : ((List.range (len * 2)).map fun j => valI (if j % 2 = 0 then V0 (j / 2) else V1 (j / 2))).length = len * 2 := by simp
    refine ⟨(List.range (len * 2)).map fun j => valI (if j % 2 = 0 then V0 (j / 2) else V1 (j / 2)), some x, cap, rfl, hl, by omega, hlen, by omega, fun hn => ?_⟩
    rw [hlen] at hn
    obtain ⟨b, off, spot⟩ := x
    have hz := (hcell 0 (by omega)).1
    have hspot : spot = none := by simpa [Addr.add] using World.cell?_spot hz
    subst hspot
    have hlt : b < w.heap.size := World.block_lt_of_cell? w _ (by simpa [Addr.add] using hz)
    refine ⟨b, off, rfl, hlt, fun j hj => ?_⟩
    rw [hlen] at hj
    obtain ⟨k1, k2, k3, k4⟩ := hcell (j / 2) (by omega)
    rw [add_plain] at k1 k2
    obtain ⟨z0, e0, _⟩ := DataW.trod_int i0 k3
    obtain ⟨z1, e1, _⟩ := DataW.trod_int i1 k4
    simp only [List.cons.injEq, and_true] at e0 e1
    have hget : ((List.range (len * 2)).map fun j => valI (if j % 2 = 0 then V0 (j / 2) else V1 (j / 2))).getD j 0 = valI (if j % 2 = 0 then V0 (j / 2) else V1 (j / 2)) := by
      simp [List.getD_eq_getElem?_getD, hj]
    rw [hget]
    by_cases hj2 : j % 2 = 0
    · rw [if_pos hj2, e0]
      have : off + j = off + j / 2 * 2 := by omega
      rw [this, k1, e0]; rfl
    · rw [if_neg hj2, e1]
      have : off + j = off + (j / 2 * 2 + 1) := by omega
      rw [this, k2, e1]; rfl
theorem open_pairA {H : Type} {enc : TypeId × Value → H} {P : Program} {w : World} {base : Nat} {spare : Nat → Bool} {held : Bool} {r : Reach} {b0 : Nat} {t : TypeId} {f0 f1 : Field} (he : P.underlying t = some (.struct #[f0, f1]))
    (hone : oneCellFields P #[f0, f1] = true) (ce : P.cellsOf t = 2) (i0 : P.underlying f0.type = some (.int .i64)) (i1 : P.underlying f1.type = some (.int .i64))
    {v : Value} {d : DataW H} {p : List MemPlace} (hv : Value.okWide P w r b0 t v) (h : DataW.Trod enc P w base spare held t v d p) : ∃ x y : Int, v = .agg #[.int .i64 x, .int .i64 y] := by
  obtain ⟨v0, v1, y0, y1, n, rfl, _, _, h0, h1⟩ := Go.Joins.open_agg2 he hone ce hv h
  obtain ⟨z0, e0, _⟩ := DataW.trod_int i0 h0
  obtain ⟨z1, e1, _⟩ := DataW.trod_int i1 h1
  simp only [List.cons.injEq, and_true] at e0 e1
  exact ⟨z0, z1, by rw [e0, e1]⟩
end Go.Proofs.Ytionljjdfgeggaa
