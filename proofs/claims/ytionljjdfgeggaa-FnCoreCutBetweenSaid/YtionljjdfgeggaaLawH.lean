/-
  The statements' own helpers, walked by the plain machine, and how a statement's walk is handed over.
-/
import Derived.Test.YtionljjdfgeggaaFracD
namespace Go.Proofs.Ytionljjdfgeggaa
open Go.RowKit
set_option linter.unusedVariables false
set_option linter.unusedSimpArgs false

/-! ## From the plain machine to a statement -/
theorem law_walk {P : Program} {f : FuncId} {g : List AD → Option RD} {ds : List AD} {args : List Value} {w : World} (h : DFun P f g) (ha : All2 (ARel w) ds args) (hg : g ds = some (.one (.v (.bool true)))) :
    Calls P f args.toArray w fun e w' => e = .returned (.bool true) ∧ Below w.heap.size w w' := by
  refine (h.calls w ds args _ ha hg).mono ?_
  rintro e w' ⟨y, rfl, hb, hr⟩
  have : y = .bool true := hr
  exact ⟨by rw [this], hb⟩
theorem arel_of_row {w : World} {k : IntKind} {a : Option Addr} {len cap : Nat} {zs : List Int}
    (h : (a = none ∧ len = 0 ∧ cap = 0 ∧ zs = []) ∨ ∃ x, a = some x ∧ len ≤ cap ∧ cap ≤ maxLen ∧ zs.length = cap ∧ (∀ i, i < zs.length → w.cell? (x.add i) = some (.int k (zs.getD i 0))) ∧ ∀ n ∈ zs, (Lit.int k n).wf = true) :
    ARel w (.sl k 1 len (zs.take len)) (.slice a len cap) := by
  rcases h with ⟨rfl, rfl, rfl, rfl⟩ | ⟨x, rfl, hl, hm, hz, hc, hw⟩
  · exact ⟨none, 0, rfl, Nat.le_refl _, by omega, by simp, by omega, fun h => by simp at h⟩
  · have hlen : (zs.take len).length = len * 1 := by simp; omega
    unfold maxLen at hm
    refine ⟨some x, cap, rfl, hl, by omega, hlen, by omega, fun hn => ?_⟩
    obtain ⟨b, off, spot⟩ := x
    have hspot : spot = none := by simpa [Addr.add] using World.cell?_spot (hc 0 (by omega))
    subst hspot
    have hlt : b < w.heap.size := World.block_lt_of_cell? w _ (by simpa [Addr.add] using hc 0 (by omega))
    refine ⟨b, off, rfl, hlt, fun j hj => ?_⟩
    have := hc j (by omega)
    rw [Go.WideShapes.add_plain] at this
    rw [this]
    simp [List.getD_eq_getElem?_getD, show j < len by omega]
theorem arel_v {w : World} (x : Value) : ARel w (.v x) x := rfl
def bytesB (l : List Int) : Bool := l.all fun z => decide (0 ≤ z) && decide (z ≤ 255)
theorem bytes_of_row {w : World} {a : Option Addr} {len cap : Nat} {zs : List Int}
    (h : (a = none ∧ len = 0 ∧ cap = 0 ∧ zs = []) ∨ ∃ x, a = some x ∧ len ≤ cap ∧ cap ≤ maxLen ∧ zs.length = cap ∧ (∀ i, i < zs.length → w.cell? (x.add i) = some (.int .u8 (zs.getD i 0))) ∧ ∀ n ∈ zs, (Lit.int .u8 n).wf = true) :
    bytesB (zs.take len) = true := by
  simp only [bytesB, List.all_eq_true, Bool.and_eq_true, decide_eq_true_eq]
  intro z hz
  have hz := List.mem_of_mem_take hz
  rcases h with ⟨_, _, _, rfl⟩ | ⟨x, _, _, _, _, _, hw⟩
  · cases hz
  · have := hw z hz
    simpa [Lit.wf, IntKind.min, IntKind.max, IntKind.signed, IntKind.bits] using this

/-! ## Helpers on ints -/
def gToI : List AD → Option RD
  | [.sl .i64 1 _ l] => if l.length ≤ 1048576 then some (.one (.row 3 1 l.length l)) else none
  | _ => none
def gEqI : List AD → Option RD
  | [.sl .i64 1 _ l, .sl .i64 1 _ m] => some (.one (.v (.bool (decide (l = m)))))
  | _ => none
def gFrac : List AD → Option RD
  | [.v (.int .i64 n)] => some (.one (.v (.agg #[.int .i64 n, .int .i64 1])))
  | _ => none
def gEqF : List AD → Option RD
  | [.v (.agg ⟨[.int .i64 a, .int .i64 b]⟩), .v (.agg ⟨[.int .i64 c, .int .i64 d]⟩)] => some (.one (.v (.bool (a == c && b == d))))
  | _ => none

theorem copy_set (l : List Int) (k : Nat) (h : k < l.length) : (l.take k ++ List.replicate (l.length - k) 0).set k (l.getD k 0) = l.take (k + 1) ++ List.replicate (l.length - (k + 1)) 0 := by
  rw [List.set_append, if_neg (by simp; omega)]
  have e : l.length - k = (l.length - (k + 1)) + 1 := by omega
  have e2 : k - (l.take k).length = 0 := by simp; omega
  rw [e2, e, List.replicate_succ, List.set_cons_zero, List.take_succ_eq_append_getElem h, List.append_assoc, List.singleton_append]
  congr 2
  simp [List.getD_eq_getElem?_getD, List.getElem?_eq_getElem h]


theorem eq_of_getD {l m : List Int} (hl : l.length = m.length) (h : ∀ j, j < l.length → l.getD j 0 = m.getD j 0) : l = m := by
  apply List.ext_getElem hl
  intro i h1 h2
  have := h i h1
  simpa [List.getD_eq_getElem?_getD, List.getElem?_eq_getElem h1, List.getElem?_eq_getElem h2] using this



end Go.Proofs.Ytionljjdfgeggaa
