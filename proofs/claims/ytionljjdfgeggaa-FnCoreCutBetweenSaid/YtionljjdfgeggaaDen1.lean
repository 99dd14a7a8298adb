/-
  A plain machine beside the model: data without addresses, how they lie in memory, and that each step of the plain machine is one of the model. This file: the data, the steps, their soundness.
-/
import Derived.Test.YtionljjdfgeggaaRows
import Derived.WalkKit
import Derived.WalkSpells
import Derived.WalkLawsBesides
import Derived.Lib.Hide
import Derived.Deep.OwnRows
import Derived.OwnWalk
import Derived.OpenShut
import Derived.Maps.AppendAt
import Derived.Orders
import Derived.Laws.StructEq
namespace Go.Proofs.Ytionljjdfgeggaa
open Go.RowKit
set_option linter.unusedVariables false
set_option linter.unusedSimpArgs false
/-! ## The plain data -/
inductive TC where
  | v (x : Value)
  | s (id len : Nat)
inductive DV where
  | val (v : Value)
  | sl (id off len : Nat)
  | ptr (id off : Nat)
  | tup (l : List TC)
/-- a plain object: a row of ints that is only read; a row of the call's own; a variable of the call's own; a reader of bytes -/
inductive DO where
  | ro (k : IntKind) (sz : Nat) (l : List Int)
  | row (e : TypeId) (sz : Nat) (l : List Int)
  | box (t : TypeId) (l : List Int)
  | rdr (g : Nat) (A : Option Addr) (bs : List Int) (p : Nat)
  | prow (A : Option Addr) (cap : Nat) (e : TypeId) (sz : Nat) (l : List Int)
def DO.cells : DO → List Int
  | .ro _ _ l | .row _ _ l | .box _ l | .prow _ _ _ _ l => l
  | .rdr _ _ _ _ => []
def DO.kind : DO → IntKind
  | .ro k _ _ => k
  | _ => .i64
def DO.sz : DO → Nat
  | .ro _ s _ | .row _ s _ | .prow _ _ _ s _ => s
  | _ => 1
def DO.own : DO → Bool
  | .ro _ _ _ => false
  | _ => true
def DO.isRow : DO → Bool
  | .row _ _ _ => true
  | _ => false
def TC.ids : TC → List Nat
  | .v _ => []
  | .s i _ => [i]
def DV.ids : DV → List Nat
  | .val _ => []
  | .sl i _ _ | .ptr i _ => [i]
  | .tup l => l.flatMap TC.ids
def TC.dv : TC → DV
  | .v x => .val x
  | .s i n => .sl i 0 n

def lk {α : Type} : List (Nat × α) → Nat → Option α
  | [], _ => none
  | (k, v) :: r, t => bif Nat.beq k t then some v else lk r t
abbrev DT := List (Nat × DV)
abbrev DH := List (Nat × DO)
abbrev DG := Nat → Option DO
def hup (G : DG) (k : Nat) (o : DO) : DG := fun i => if k = i then some o else G i
theorem hup_same (G : DG) (k : Nat) (o : DO) : hup G k o k = some o := by simp [hup]
theorem hup_ne (G : DG) {k i : Nat} (o : DO) (h : k ≠ i) : hup G k o i = G i := by simp [hup, h]
def ev (T : DT) : Operand → Option DV
  | .tmp t => lk T t
  | .const v => some (.val v)
  | _ => none

theorem lk_cons {α : Type} (k : Nat) (v : α) (r : List (Nat × α)) (t : Nat) : lk ((k, v) :: r) t = if k = t then some v else lk r t := by
  by_cases h : k = t
  · subst h; simp [lk]
  · rw [lk, if_neg h]
    have : Nat.beq k t = false := by
      cases hb : Nat.beq k t
      · rfl
      · exact absurd (Nat.eq_of_beq_eq_true hb) h
    rw [this]; rfl
theorem lk_same {α : Type} (k : Nat) (v : α) (r : List (Nat × α)) : lk ((k, v) :: r) k = some v := by rw [lk_cons, if_pos rfl]
theorem lk_ne {α : Type} {k t : Nat} (v : α) (r : List (Nat × α)) (h : k ≠ t) : lk ((k, v) :: r) t = lk r t := by rw [lk_cons, if_neg h]

/-! ## Where plain objects lie -/
structure Loc where
  a : Option Addr
  cap : Nat
  b : Option Nat
def Loc.blk (r : Loc) : Option Nat := r.a.map (·.block)
def Foot (r : Loc) (g : Nat) : Prop := r.blk = some g ∨ r.b = some g

def ORel (w : World) (r : Loc) : DO → Prop
  | .ro k _ l => 0 < l.length → ∃ b off, r.a = some ⟨b, off, none⟩ ∧ ∀ j, j < l.length → w.cell? ⟨b, off + j, none⟩ = some (.int k (l.getD j 0))
  | .row e sz l => ∃ n, w.ownsRow 0 e sz (.slice r.a n r.cap) n (l.map (Value.int .i64))
  | .box t l => ∃ g, r.a = some ⟨g, 0, none⟩ ∧ w.heap[g]? = some (.cells (l.map (Value.int .i64)).toArray t (0, 0))
  | .prow A cap e sz l => r.a = A ∧ r.cap = cap ∧ ∃ n, w.ownsRow 0 e sz (.slice r.a n r.cap) n (l.map (Value.int .i64))
  | .rdr g A bs p => ∃ t c, r.a = some ⟨g, 0, none⟩ ∧ w.heap[g]? = some (.cells #[.slice A bs.length c, .int .i64 (p : Nat)] t (0, 0)) ∧ bs.length ≤ 2000 ∧ (∀ z ∈ bs, 0 ≤ z ∧ z ≤ 255) ∧
      (0 < bs.length → ∃ b off, A = some ⟨b, off, none⟩ ∧ r.b = some b ∧ ∀ j, j < bs.length → w.cell? ⟨b, off + j, none⟩ = some (.int .u8 (bs.getD j 0)))

theorem cell_of_block {w w' : World} {b off : Nat} (h : w'.heap[b]? = w.heap[b]?) : w'.cell? ⟨b, off, none⟩ = w.cell? ⟨b, off, none⟩ := by
  unfold World.cell?
  simp only [h]

theorem ORel.congr {w w' : World} {r : Loc} {o : DO} (h : ORel w r o) (hb : ∀ g, Foot r g → w'.heap[g]? = w.heap[g]?) : ORel w' r o := by
  have row : ∀ (e : TypeId) (sz : Nat) (l : List Int), (∃ n, w.ownsRow 0 e sz (.slice r.a n r.cap) n (l.map (Value.int .i64))) → ∃ n, w'.ownsRow 0 e sz (.slice r.a n r.cap) n (l.map (Value.int .i64)) := by
    rintro e sz l ⟨n, hl, hr⟩
    refine ⟨n, hl, ?_⟩
    rcases hr with hr | ⟨g, cap, cur, e1, e2, e3, r⟩
    · exact .inl hr
    · refine .inr ⟨g, cap, cur, e1, e2, ?_, r⟩
      injection e1 with e1
      rw [hb g (.inl (by simp [Loc.blk, e1]))]
      exact e3
  cases o with
  | ro k sz l =>
    intro hl
    obtain ⟨b, off, e, hc⟩ := h hl
    refine ⟨b, off, e, fun j hj => ?_⟩
    rw [cell_of_block (hb b (.inl (by simp [Loc.blk, e])))]
    exact hc j hj
  | row e sz l => exact row e sz l h
  | prow A cap e sz l => exact ⟨h.1, h.2.1, row e sz l h.2.2⟩
  | box t l =>
    obtain ⟨g, e, hg⟩ := h
    exact ⟨g, e, by rw [hb g (.inl (by simp [Loc.blk, e]))]; exact hg⟩
  | rdr g A bs p =>
    obtain ⟨t, c, e, hg, h1, h2, h3⟩ := h
    refine ⟨t, c, e, by rw [hb g (.inl (by simp [Loc.blk, e]))]; exact hg, h1, h2, fun h0 => ?_⟩
    obtain ⟨b, off, e1, e2, hc⟩ := h3 h0
    refine ⟨b, off, e1, e2, fun j hj => ?_⟩
    rw [cell_of_block (hb b (.inr e2))]
    exact hc j hj

/-- what a slice's value is -/
def SlRel (r : Loc) (o : DO) (off len : Nat) (v : Value) : Prop :=
  ∃ A c, v = .slice A len c ∧ len ≤ c ∧ c ≤ 9223372036854775807 ∧ (0 < len → ∃ b f, r.a = some ⟨b, f, none⟩ ∧ A = some ⟨b, f + off * o.sz, none⟩) ∧ (o.isRow = true → off = 0 → A = r.a ∧ c = r.cap) ∧ (off + len) * o.sz ≤ o.cells.length ∧ 0 < o.sz
def TCRel (ρ : Nat → Loc) (G : DG) : TC → Value → Prop
  | .v x, y => y = x
  | .s id len, y => ∀ o, G id = some o → SlRel (ρ id) o 0 len y
def VRel (ρ : Nat → Loc) (G : DG) : DV → Value → Prop
  | .val x, y => y = x
  | .sl id off len, y => ∀ o, G id = some o → SlRel (ρ id) o off len y
  | .ptr id off, y => ∀ o, G id = some o → ∃ b f, (ρ id).a = some ⟨b, f, none⟩ ∧ y = .pointer (some ⟨b, f + off, none⟩)
  | .tup l, y => ∃ vs : List Value, y = .tuple vs.toArray ∧ vs.length = l.length ∧ ∀ (i : Nat) (c : TC) (x : Value), l[i]? = some c → vs[i]? = some x → TCRel ρ G c x

theorem TCRel.congr {ρ ρ' : Nat → Loc} {G G' : DG} {c : TC} {y : Value} (h : TCRel ρ G c y) (hh : ∀ id ∈ c.ids, G' id = none ∨ (G' id = G id ∧ ρ' id = ρ id)) : TCRel ρ' G' c y := by
  cases c with
  | v x => exact h
  | s id len =>
    intro o ho
    rcases hh id (by simp [TC.ids]) with h0 | ⟨h1, h2⟩
    · rw [h0] at ho; cases ho
    · rw [h1] at ho
      rw [h2]
      exact h o ho
theorem VRel.congr {ρ ρ' : Nat → Loc} {G G' : DG} {d : DV} {y : Value} (h : VRel ρ G d y) (hh : ∀ id ∈ d.ids, G' id = none ∨ (G' id = G id ∧ ρ' id = ρ id)) : VRel ρ' G' d y := by
  cases d with
  | val x => exact h
  | sl id off len =>
    intro o ho
    rcases hh id (by simp [DV.ids]) with h0 | ⟨h1, h2⟩
    · rw [h0] at ho; cases ho
    · rw [h1] at ho; rw [h2]; exact h o ho
  | ptr id off =>
    intro o ho
    rcases hh id (by simp [DV.ids]) with h0 | ⟨h1, h2⟩
    · rw [h0] at ho; cases ho
    · rw [h1] at ho; rw [h2]; exact h o ho
  | tup l =>
    obtain ⟨vs, e, hl, hv⟩ := h
    refine ⟨vs, e, hl, fun i c x hc hx => (hv i c x hc hx).congr fun id hid => hh id ?_⟩
    simp only [DV.ids, List.mem_flatMap]
    exact ⟨c, List.mem_of_getElem? hc, hid⟩

structure Ctx where
  w0 : World
  X : List Nat
structure FrC (C : Ctx) (w : World) : Prop where
  os : w.os = C.w0.os
  tape : w.tape = C.w0.tape
  output : w.output = C.w0.output
  size : C.w0.heap.size ≤ w.heap.size
  block : ∀ k, k < C.w0.heap.size → k ∉ C.X → w.heap[k]? = C.w0.heap[k]?

structure HRel (C : Ctx) (G : DG) (ρ : Nat → Loc) (w : World) : Prop where
  obj : ∀ id o, G id = some o → ORel w (ρ id) o
  inn : ∀ id o g, G id = some o → Foot (ρ id) g → g < w.heap.size
  sep : ∀ id id' o o' g, id ≠ id' → G id = some o → G id' = some o' → o.own = true → (ρ id).blk = some g → ¬ Foot (ρ id') g
  old : ∀ id o g, G id = some o → o.own = true → (ρ id).blk = some g → C.w0.heap.size ≤ g ∨ g ∈ C.X
  fr : FrC C w

theorem HRel.grow {C : Ctx} {G : DG} {ρ : Nat → Loc} {w w' : World} (h : HRel C G ρ w) (hb : Below w.heap.size w w') : HRel C G ρ w' where
  obj id o ho := (h.obj id o ho).congr fun g hg => hb.block g (h.inn id o g ho hg)
  inn id o g ho hg := Nat.lt_of_lt_of_le (h.inn id o g ho hg) hb.size
  sep := h.sep
  old := h.old
  fr := ⟨hb.os.trans h.fr.os, hb.tape.trans h.fr.tape, hb.output.trans h.fr.output, Nat.le_trans h.fr.size hb.size, fun k hk hx => (hb.block k (Nat.lt_of_lt_of_le hk h.fr.size)).trans (h.fr.block k hk hx)⟩

def up (ρ : Nat → Loc) (id : Nat) (r : Loc) : Nat → Loc := fun i => if i = id then r else ρ i
theorem up_same (ρ : Nat → Loc) (id : Nat) (r : Loc) : up ρ id r id = r := by simp [up]
theorem up_ne (ρ : Nat → Loc) {id i : Nat} (r : Loc) (h : i ≠ id) : up ρ id r i = ρ i := by simp [up, h]

/-- a new object whose block nobody else knows -/
theorem HRel.add {C : Ctx} {G : DG} {ρ : Nat → Loc} {w : World} (h : HRel C G ρ w) (id : Nat) (o : DO) (r : Loc) (ho : ORel w r o) (hi : ∀ g, Foot r g → g < w.heap.size)
    (hs : ∀ id' o' g, id' ≠ id → G id' = some o' → Foot r g → ¬ Foot (ρ id') g) (hold : ∀ g, r.blk = some g → C.w0.heap.size ≤ g ∨ g ∈ C.X) : HRel C (hup G id o) (up ρ id r) w where
  obj i o' h' := by
    unfold hup at h'
    by_cases e : id = i
    · subst e; rw [if_pos rfl] at h'; obtain rfl := Option.some.inj h'; rw [up_same]; exact ho
    · rw [if_neg e] at h'; rw [up_ne _ _ (Ne.symm e)]; exact h.obj i o' h'
  inn i o' g h' hg := by
    unfold hup at h'
    by_cases e : id = i
    · subst e; rw [up_same] at hg; exact hi g hg
    · rw [if_neg e] at h'; rw [up_ne _ _ (Ne.symm e)] at hg; exact h.inn i o' g h' hg
  sep i i' o1 o2 g hne h1 h2 hown hg hf := by
    unfold hup at h1 h2
    by_cases e : id = i
    · subst e
      rw [if_neg hne] at h2
      rw [up_same] at hg
      rw [up_ne _ _ (Ne.symm hne)] at hf
      exact hs i' o2 g (Ne.symm hne) h2 (.inl hg) hf
    · rw [if_neg e] at h1
      rw [up_ne _ _ (Ne.symm e)] at hg
      by_cases e' : id = i'
      · subst e'
        rw [up_same] at hf
        exact hs i o1 g (Ne.symm e) h1 hf (.inl hg)
      · rw [if_neg e'] at h2
        rw [up_ne _ _ (Ne.symm e')] at hf
        exact h.sep i i' o1 o2 g hne h1 h2 hown hg hf
  old i o' g h' hown hg := by
    unfold hup at h'
    by_cases e : id = i
    · subst e; rw [up_same] at hg; exact hold g hg
    · rw [if_neg e] at h'; rw [up_ne _ _ (Ne.symm e)] at hg; exact h.old i o' g h' hown hg
  fr := h.fr

/-- some objects are forgotten -/
theorem HRel.sub {C : Ctx} {G G' : DG} {ρ : Nat → Loc} {w : World} (h : HRel C G ρ w) (hs : ∀ id o, G' id = some o → G id = some o) : HRel C G' ρ w where
  obj i o h' := h.obj i o (hs i o h')
  inn i o g h' hg := h.inn i o g (hs i o h') hg
  sep i i' o o' g hne h1 h2 := h.sep i i' o o' g hne (hs _ _ h1) (hs _ _ h2)
  old i o g h' := h.old i o g (hs _ _ h')
  fr := h.fr
/-! ## Types, as the plain machine knows them -/
inductive TK where
  | int
  | bool
  | pair
  | sl (e : TypeId)
def TK.esz : TK → Option Nat
  | .int => some 1
  | .pair => some 2
  | _ => none

structure TInt (P : Program) (t : TypeId) : Prop where
  und : P.underlying t = some (.int .i64)
  info : ∃ i, P.info? t = some i ∧ i.zero = some (.int .i64 0) ∧ i.size = 1 ∧ i.bytes = 8
structure TPair (P : Program) (t : TypeId) : Prop where
  und : ∃ f0 f1 : Field, P.underlying t = some (.struct #[f0, f1]) ∧ f0.offset = 0 ∧ f1.offset = 1 ∧ (P.info? f0.type).map (·.size) = some 1 ∧ (P.info? f1.type).map (·.size) = some 1 ∧ P.underlying f0.type = some (.int .i64) ∧ P.underlying f1.type = some (.int .i64)
  info : ∃ i, P.info? t = some i ∧ i.zero = some (.agg #[.int .i64 0, .int .i64 0]) ∧ i.size = 2 ∧ i.bytes = 16
  eql : ∀ (w : World) (x y : Operand) (a b c d : Int), ((do eqGuard .eql t x y (.agg #[.int .i64 a, .int .i64 b]) (.agg #[.int .i64 c, .int .i64 d]); binOp .eql t (.agg #[.int .i64 a, .int .i64 b]) (.agg #[.int .i64 c, .int .i64 d])) : Sem Value).run P w = .ok (.bool (a == c && b == d)) w
  neq : ∀ (w : World) (x y : Operand) (a b c d : Int), ((do eqGuard .neq t x y (.agg #[.int .i64 a, .int .i64 b]) (.agg #[.int .i64 c, .int .i64 d]); binOp .neq t (.agg #[.int .i64 a, .int .i64 b]) (.agg #[.int .i64 c, .int .i64 d])) : Sem Value).run P w = .ok (.bool (!(a == c && b == d))) w
def TyOK1 (P : Program) (t : TypeId) : TK → Prop
  | .int => TInt P t
  | .bool => P.underlying t = some .bool
  | .pair => TPair P t
  | .sl e => P.underlying t = some (.slice e)
def TyOK (P : Program) (τ : List (Nat × TK)) : Prop := ∀ t k, lk τ t = some k → TyOK1 P t k

section
variable {P : Program} {w : World}
theorem run_underlying' {t : TypeId} {d : TypeDesc} (h : P.underlying t = some d) : (underlying t).run P w = .ok d w := by
  simp [underlying, go_sem, h]
theorem run_typeInfo {t : TypeId} {i : TypeInfo} (h : P.info? t = some i) : (typeInfo t).run P w = .ok i w := by
  simp [typeInfo, go_sem, h]
theorem run_sizeOf' {t : TypeId} {i : TypeInfo} (h : P.info? t = some i) : (sizeOf t).run P w = .ok i.size w := by
  simp [sizeOf, run_typeInfo h]
theorem run_zero {t : TypeId} {i : TypeInfo} {z : Value} (h : P.info? t = some i) (hz : i.zero = some z) : (zeroValue t).run P w = .ok z w := by
  simp [zeroValue, run_typeInfo h, hz]
theorem run_newRow (e : TypeId) (cs : Array Value) : (newRow e cs).run P w = .ok ⟨w.heap.size, 0, none⟩ (w.alloc (.cells cs e)) := by
  simp [newRow, go_sem]
theorem run_alloc {t : TypeId} {i : TypeInfo} {z : Value} (h : P.info? t = some i) (hz : i.zero = some z) : (Instr.alloc t true (.tuple #[])).run P w = .ok (.pointer (some ⟨w.heap.size, 0, none⟩)) (w.alloc (.cells z.cells t)) := by
  simp [Instr.alloc, run_zero h hz, newVar, run_newRow]
theorem run_box (t : TypeId) (v : Value) : (Instr.box t v).run P w = .ok (.pointer (some ⟨w.heap.size, 0, none⟩)) (w.alloc (.cells v.cells t)) := by
  simp [Instr.box, newVar, run_newRow]
theorem run_load1 {t : TypeId} (ht : TInt P t) {a : Addr} {v : Value} (h : w.cell? a = some v) : (Instr.loadAt t (.pointer (some a))).run P w = .ok v w := by
  simp [Instr.loadAt, Instr.sureAddr, loadVar, isAgg, run_underlying' ht.und, go_sem, h]
theorem run_load2 {t : TypeId} (ht : TPair P t) {b f : Nat} {x y : Value} (h0 : w.cell? ⟨b, f, none⟩ = some x) (h1 : w.cell? ⟨b, f + 1, none⟩ = some y) :
    (Instr.loadAt t (.pointer (some ⟨b, f, none⟩))).run P w = .ok (.agg #[x, y]) w := by
  obtain ⟨f0, f1, hu, _⟩ := ht.und
  obtain ⟨i, hi, _, hs, _⟩ := ht.info
  have h1' : w.cell? ((⟨b, f, none⟩ : Addr).add 1) = some y := by rw [Go.WideShapes.add_plain]; exact h1
  have h0' : w.cell? ((⟨b, f, none⟩ : Addr).add 0) = some x := by rw [Go.WideShapes.add_plain]; exact h0
  simp [Instr.loadAt, Instr.sureAddr, loadVar, isAgg, run_underlying' hu, run_sizeOf' hi, hs, loadCells, loadCellsFrom, go_sem, h0, h1]
theorem run_store1 {t : TypeId} (ht : TInt P t) {b f : Nat} {v : Value} {z : Int} (h : w.cell? ⟨b, f, none⟩ = some v) (hf : w.frozen? ⟨b, f, none⟩ = false) :
    (Instr.storeAt t (.pointer (some ⟨b, f, none⟩)) (.int .i64 z)).run P w = .ok () (w.setCell ⟨b, f, none⟩ (.int .i64 z)) := by
  obtain ⟨i, hi, _, hs, _⟩ := ht.info
  simp [Instr.storeAt, Instr.sureAddr, storeVar, run_sizeOf' hi, hs, storeCells, go_sem, h, hf, Value.cells]
theorem run_store2 {t : TypeId} (ht : TPair P t) {b f : Nat} {v v' : Value} {x y : Int} (h : w.cell? ⟨b, f, none⟩ = some v) (h' : w.cell? ⟨b, f + 1, none⟩ = some v') (hf : w.frozen? ⟨b, f, none⟩ = false) (hf' : w.frozen? ⟨b, f + 1, none⟩ = false) :
    (Instr.storeAt t (.pointer (some ⟨b, f, none⟩)) (.agg #[.int .i64 x, .int .i64 y])).run P w = .ok () ((w.setCell ⟨b, f, none⟩ (.int .i64 x)).setCell ⟨b, f + 1, none⟩ (.int .i64 y)) := by
  obtain ⟨i, hi, _, hs, _⟩ := ht.info
  simp [Instr.storeAt, Instr.sureAddr, storeVar, run_sizeOf' hi, hs, storeCells, go_sem, h, h', hf, hf', Value.cells]
theorem run_fieldAt {t : TypeId} (ht : TPair P t) {b f : Nat} {k : Nat} (hk : k < 2) : (Instr.fieldAt t (.pointer (some ⟨b, f, none⟩)) k).run P w = .ok (.pointer (some ⟨b, f + k, none⟩)) w := by
  obtain ⟨f0, f1, hu, o0, o1, s0, s1, _⟩ := ht.und
  obtain ⟨i0, hi0, hs0⟩ := Option.map_eq_some_iff.1 s0
  obtain ⟨i1, hi1, hs1⟩ := Option.map_eq_some_iff.1 s1
  have : k = 0 ∨ k = 1 := by omega
  rcases this with rfl | rfl
  · simp [Instr.fieldAt, Instr.sureAddr, run_underlying' hu, fieldPlace, run_sizeOf' hi0, hs0, o0, go_sem]
  · simp [Instr.fieldAt, Instr.sureAddr, run_underlying' hu, fieldPlace, run_sizeOf' hi1, hs1, o1, go_sem]
theorem run_indexAt {t e : TypeId} {i : TypeInfo} (hu : P.underlying t = some (.slice e)) (hi : P.info? e = some i) {b f n c : Nat} {z : Int} (h0 : 0 ≤ z) (h1 : z < n) :
    (Instr.indexAt t (.slice (some ⟨b, f, none⟩) n c) (.int .i64 z)).run P w = .ok (.pointer (some ⟨b, f + z.toNat * i.size, none⟩)) w := by
  simp [Instr.indexAt, asIntOf, run_underlying' hu, run_sizeOf' hi, h0, h1, Go.WideShapes.add_plain]
end
section
variable {P : Program} {w : World}
/-! ### structs built -/
def setP : Int × Int → Nat × Int → Int × Int := fun p q => if q.1 = 0 then (q.2, p.2) else (p.1, q.2)
def intV : Nat × Int → Nat × Value := fun q => (q.1, .int .i64 q.2)
theorem fill_pair (pl : Nat → Option (Nat × Nat)) (h0 : pl 0 = some (0, 1)) (h1 : pl 1 = some (1, 1)) : ∀ (ps : List (Nat × Int)) (p : Int × Int), (∀ q ∈ ps, q.1 < 2) →
    Instr.fill pl #[.int .i64 p.1, .int .i64 p.2] (ps.map intV) = some #[.int .i64 (ps.foldl setP p).1, .int .i64 (ps.foldl setP p).2]
  | [], p, _ => rfl
  | (i, z) :: ps, p, h => by
    have hi := h (i, z) (by simp)
    have hr := fun q hq => h q (List.mem_cons_of_mem _ hq)
    have : i = 0 ∨ i = 1 := by simp at hi; omega
    rcases this with rfl | rfl
    · have := fill_pair pl h0 h1 ps (z, p.2) hr
      simpa [Instr.fill, intV, h0, Value.cells, setP] using this
    · have := fill_pair pl h0 h1 ps (p.1, z) hr
      simpa [Instr.fill, intV, h1, Value.cells, setP] using this
theorem run_build2 {t : TypeId} (ht : TPair P t) (ps : List (Nat × Int)) (h : ∀ q ∈ ps, q.1 < 2) :
    (Instr.build t (ps.map intV).toArray).run P w = .ok (.agg #[.int .i64 (ps.foldl setP (0, 0)).1, .int .i64 (ps.foldl setP (0, 0)).2]) w := by
  obtain ⟨f0, f1, hu, o0, o1, s0, s1, _⟩ := ht.und
  obtain ⟨i0, hi0, hs0⟩ := Option.map_eq_some_iff.1 s0
  obtain ⟨i1, hi1, hs1⟩ := Option.map_eq_some_iff.1 s1
  obtain ⟨i, hi, hz, _⟩ := ht.info
  have hf := fill_pair (fun i => (#[(0, 1), (1, 1)] : Array (Nat × Nat))[i]?) rfl rfl ps (0, 0) h
  simp [Instr.build, run_zero hi hz, run_underlying' hu, run_sizeOf' hi0, run_sizeOf' hi1, hs0, hs1, o0, o1, Value.cells]
  simp at hf
  rw [hf]
  rfl

/-! ### rows built -/
def setAt : List Int → Nat → List Int → List Int
  | l, _, [] => l
  | l, k, x :: xs => setAt (l.set k x) (k + 1) xs
theorem setAt_len : ∀ (xs : List Int) (l : List Int) (k : Nat), (setAt l k xs).length = l.length
  | [], l, k => rfl
  | x :: xs, l, k => by rw [setAt, setAt_len xs]; simp
def partV (sz : Nat) : Nat × List Int → Nat × Value := fun q => (q.1, if sz = 1 then .int .i64 (q.2.getD 0 0) else .agg (q.2.map (Value.int .i64)).toArray)
def cellsOf (l : List Int) : Array Value := (l.map (Value.int .i64)).toArray
theorem cellsOf_set (l : List Int) (k : Nat) (z : Int) : (cellsOf l).setIfInBounds k (.int .i64 z) = cellsOf (l.set k z) := by
  simp [cellsOf, List.map_set]
theorem fold_set (off : Nat) : ∀ (xs : List Int) (j : Nat) (l : List Int),
    ((xs.map (Value.int .i64)).toArray.toList.zipIdx j).foldl (fun cs (q : Value × Nat) => cs.setIfInBounds (off + q.2) q.1) (cellsOf l) = cellsOf (setAt l (off + j) xs)
  | [], j, l => by simp [setAt]
  | x :: xs, j, l => by
    have := fold_set off xs (j + 1) (l.set (off + j) x)
    simp only [List.map_cons, List.zipIdx_cons, List.foldl_cons, cellsOf_set, setAt]
    simpa [Nat.add_assoc] using this
def buildRow (sz : Nat) : List Int → List (Nat × List Int) → List Int
  | l, [] => l
  | l, (i, vs) :: ps => buildRow sz (setAt l (i * sz) vs) ps
theorem buildRow_len (sz : Nat) : ∀ (ps : List (Nat × List Int)) (l : List Int), (buildRow sz l ps).length = l.length
  | [], l => rfl
  | (i, vs) :: ps, l => by rw [buildRow, buildRow_len sz ps, setAt_len]
theorem fill_row (sz : Nat) (hsz : sz = 1 ∨ sz = 2) : ∀ (ps : List (Nat × List Int)) (l : List Int), (∀ q ∈ ps, q.2.length = sz ∧ (q.1 + 1) * sz ≤ l.length) →
    Instr.fill (fun i => some (i * sz, sz)) (cellsOf l) (ps.map (partV sz)) = some (cellsOf (buildRow sz l ps))
  | [], l, _ => rfl
  | (i, vs) :: ps, l, h => by
    obtain ⟨h1, h2⟩ := h (i, vs) (by simp)
    have hr : ∀ q ∈ ps, q.2.length = sz ∧ (q.1 + 1) * sz ≤ (setAt l (i * sz) vs).length := fun q hq => by
      rw [setAt_len]; exact h q (List.mem_cons_of_mem _ hq)
    have ih := fill_row sz hsz ps (setAt l (i * sz) vs) hr
    simp only at h1 h2
    have hsize : (cellsOf l).size = l.length := by simp [cellsOf]
    rcases hsz with rfl | rfl
    · match vs, h1 with
      | [x], _ =>
        have e : (cellsOf l).setIfInBounds (i * 1) (.int .i64 x) = cellsOf (setAt l (i * 1) [x]) := by rw [cellsOf_set]; rfl
        rw [← e] at ih
        have hlt : ¬ l.length < i + 1 := by omega
        simp [Instr.fill, partV, Value.cells, buildRow, hsize, hlt] at ih ⊢
        exact ih
    · match vs, h1 with
      | [x, y], _ =>
        have e : ((cellsOf l).setIfInBounds (i * 2) (.int .i64 x)).setIfInBounds (i * 2 + 1) (.int .i64 y) = cellsOf (setAt l (i * 2) [x, y]) := by rw [cellsOf_set, cellsOf_set]; rfl
        rw [← e] at ih
        have hlt : ¬ l.length < i * 2 + 2 := by omega
        simp [Instr.fill, partV, Value.cells, buildRow, hsize, hlt] at ih ⊢
        exact ih
theorem zeros_cells {z : Array Value} {sz n : Nat} (hsz : (sz = 1 ∧ z = #[.int .i64 0]) ∨ (sz = 2 ∧ z = #[.int .i64 0, .int .i64 0])) : (Array.range n).map (z[· % z.size]!) = cellsOf (List.replicate n 0) := by
  apply Array.ext
  · simp [cellsOf]
  · intro i h1 h2
    simp only [Array.size_map, Array.size_range] at h1
    rcases hsz with ⟨_, rfl⟩ | ⟨_, rfl⟩
    · simp [cellsOf, Nat.mod_one]
    · have : i % 2 = 0 ∨ i % 2 = 1 := by omega
      rcases this with e | e <;> simp [cellsOf, e]
/-- an element's type and its size -/
structure TElem (P : Program) (e : TypeId) (sz : Nat) : Prop where
  szs : sz = 1 ∨ sz = 2
  info : ∃ i z, P.info? e = some i ∧ i.zero = some z ∧ i.size = sz ∧ i.bytes = 8 * sz ∧ z.cells.size = sz ∧ ((sz = 1 ∧ z.cells = #[.int .i64 0]) ∨ (sz = 2 ∧ z.cells = #[.int .i64 0, .int .i64 0]))
theorem TInt.elem {e : TypeId} (h : TInt P e) : TElem P e 1 := by
  obtain ⟨i, h1, h2, h3, h4⟩ := h.info
  exact ⟨.inl rfl, i, _, h1, h2, h3, by omega, rfl, .inl ⟨rfl, rfl⟩⟩
theorem TPair.elem {e : TypeId} (h : TPair P e) : TElem P e 2 := by
  obtain ⟨i, h1, h2, h3, h4⟩ := h.info
  exact ⟨.inr rfl, i, _, h1, h2, h3, by omega, rfl, .inr ⟨rfl, rfl⟩⟩
theorem run_buildSlice {t e : TypeId} {sz : Nat} (hu : P.underlying t = some (.slice e)) (he : TElem P e sz) (len : Nat) (hlen : len * sz ≤ 2 ^ 24) (ps : List (Nat × List Int)) (h : ∀ q ∈ ps, q.2.length = sz ∧ (q.1 + 1) * sz ≤ len * sz) :
    (Instr.buildSlice t len (ps.map (partV sz)).toArray).run P w = .ok (.slice (some ⟨w.heap.size, 0, none⟩) len len) (w.alloc (.cells (cellsOf (buildRow sz (List.replicate (len * sz) 0) ps)) e)) := by
  obtain ⟨i, z, hi, hz, hs, _, hzs, hzz⟩ := he.info
  have hf := fill_row sz he.szs ps (List.replicate (len * sz) 0) (by simpa using h)
  have hc := zeros_cells (n := len * sz) hzz
  simp only [Instr.buildSlice, Sem.run_bind, run_underlying' hu, Result.andThen_ok, run_sizeOf' hi, hs]
  rw [if_neg (by omega)]
  by_cases h0 : len * sz = 0
  · rw [if_pos h0]
    simp only [Sem.run_bind, Sem.run_pure, Result.andThen_ok]
    have e0 : (Array.range (len * sz)).map ((#[] : Array Value)[· % (#[] : Array Value).size]!) = cellsOf (List.replicate (len * sz) 0) := by rw [h0]; simp [cellsOf]
    rw [e0]
    simp only [hf, Sem.run_bind, run_newRow, Result.andThen_ok, Sem.run_pure]
  · rw [if_neg h0]
    simp only [Sem.run_bind, Sem.run_pure, Result.andThen_ok, run_zero hi hz]
    rw [hc]
    simp only [hf, Sem.run_bind, run_newRow, Result.andThen_ok, Sem.run_pure]
end
section
variable {P : Program} {w : World}
def binI : BinOp → Int → Int → Option Value
  | .add, a, b => some (.int .i64 (IntKind.i64.wrap (a + b)))
  | .sub, a, b => some (.int .i64 (IntKind.i64.wrap (a - b)))
  | .mul, a, b => some (.int .i64 (IntKind.i64.wrap (a * b)))
  | .eql, a, b => some (.bool (a == b))
  | .neq, a, b => some (.bool (a != b))
  | .lss, a, b => some (.bool (decide (a < b)))
  | .leq, a, b => some (.bool (decide (a ≤ b)))
  | .gtr, a, b => some (.bool (decide (a > b)))
  | .geq, a, b => some (.bool (decide (a ≥ b)))
  | _, _, _ => none
theorem run_binI {op : BinOp} {a b : Int} {v : Value} (h : binI op a b = some v) (t : TypeId) (x y : Operand) :
    ((do eqGuard op t x y (.int .i64 a) (.int .i64 b); binOp op t (.int .i64 a) (.int .i64 b)) : Sem Value).run P w = .ok v w := by
  cases op <;> simp only [binI, Option.some.injEq, reduceCtorEq] at h <;> subst h <;> simp [eqGuard, binOp, Op.intArith, Op.intCmp]
theorem run_quo {a b : Int} (hb : b ≠ 0) (t : TypeId) (x y : Operand) :
    ((do eqGuard .quo t x y (.int .i64 a) (.int .i64 b); binOp .quo t (.int .i64 a) (.int .i64 b)) : Sem Value).run P w = .ok (.int .i64 (IntKind.i64.wrap (a.tdiv b))) w := by
  simp [eqGuard, binOp, Op.intDiv, hb]
theorem run_rem {a b : Int} (hb : b ≠ 0) (t : TypeId) (x y : Operand) :
    ((do eqGuard .rem t x y (.int .i64 a) (.int .i64 b); binOp .rem t (.int .i64 a) (.int .i64 b)) : Sem Value).run P w = .ok (.int .i64 (a.tmod b)) w := by
  simp [eqGuard, binOp, Op.intDiv, hb]
theorem run_eqlB {a b : Bool} {t : TypeId} (ht : P.underlying t = some .bool) (x y : Operand) :
    ((do eqGuard .eql t x y (.bool a) (.bool b); binOp .eql t (.bool a) (.bool b)) : Sem Value).run P w = .ok (.bool (a == b)) w := by
  have h : (Op.equal t (.bool a) (.bool b)).run P w = .ok (a == b) w := run_equalIn_bool w 9999 t a b ht
  simp [eqGuard, binOp, h]
theorem run_neqB {a b : Bool} {t : TypeId} (ht : P.underlying t = some .bool) (x y : Operand) :
    ((do eqGuard .neq t x y (.bool a) (.bool b); binOp .neq t (.bool a) (.bool b)) : Sem Value).run P w = .ok (.bool (!(a == b))) w := by
  have h : (Op.equal t (.bool a) (.bool b)).run P w = .ok (a == b) w := run_equalIn_bool w 9999 t a b ht
  simp [eqGuard, binOp, h]
theorem run_len {t e : TypeId} (ht : P.underlying t = some (.slice e)) (A : Option Addr) (n c : Nat) (ty : TypeId) :
    (Builtin.len_ #[t] ty #[.slice A n c]).run P w = .ok (.int .i64 (n : Nat)) w := by
  simp [Builtin.len_, run_underlying' ht, goInt]
theorem run_min (a b : Int) (ts : Array TypeId) (ty : TypeId) : (Builtin.min_ ts ty #[.int .i64 a, .int .i64 b]).run P w = .ok (.int .i64 (if b < a then b else a)) w := by
  simp [Builtin.min_, Builtin.min2]
theorem run_max (a b : Int) (ts : Array TypeId) (ty : TypeId) : (Builtin.max_ ts ty #[.int .i64 a, .int .i64 b]).run P w = .ok (.int .i64 (if b > a then b else a)) w := by
  simp [Builtin.max_, Builtin.max2]
theorem run_slice {t e : TypeId} {i : TypeInfo} (ht : P.underlying t = some (.slice e)) (hi : P.info? e = some i) (A : Option Addr) (n c : Nat) (lo hi' : Option Value) (l h : Nat)
    (hl : lo = some (.int .i64 (l : Nat)) ∨ (lo = none ∧ l = 0)) (hh : hi' = some (.int .i64 (h : Nat)) ∨ (hi' = none ∧ h = n)) (h1 : l ≤ h) (h2 : h ≤ n) (h3 : n ≤ c) :
    (Instr.sliceAt t (.slice A n c) lo hi' none).run P w = .ok (.slice (if c = l then A else A.map (·.add (l * i.size))) (h - l) (c - l)) w := by
  have a1 : (0 : Int) ≤ (l : Int) := by omega
  have a2 : (l : Int) ≤ (h : Int) := by omega
  have a3 : (0 : Int) ≤ (h : Int) := by omega
  have a4 : (h : Int) ≤ (c : Int) := by omega
  have a5 : h ≤ c := by omega
  have a6 : (0 : Int) ≤ (n : Int) := by omega
  rcases hl with rfl | ⟨rfl, rfl⟩ <;> rcases hh with rfl | ⟨rfl, rfl⟩ <;>
    simp [Instr.sliceAt, run_underlying' ht, Instr.slice, Instr.sliceBounds, Instr.sliceBound, asIntOf, run_sizeOf' hi, h1, a5]
theorem run_make {t e : TypeId} {sz : Nat} (ht : P.underlying t = some (.slice e)) (he : TElem P e sz) (n : Nat) (hn : n ≤ 1000000000) :
    (Instr.makeSlice t (.int .i64 (n : Nat)) (.int .i64 (n : Nat))).run P w = .ok (.slice (some ⟨w.heap.size, 0, none⟩) n n) (w.alloc (.cells (cellsOf (List.replicate (n * sz) 0)) e)) := by
  obtain ⟨i, z, hi, hz, hs, hby, hzs, hzz⟩ := he.info
  have hc := zeros_cells (n := n * sz) hzz
  have hb2 : (i.bytes : Int) * (n : Int) ≤ 281474976710656 := by
    rw [hby]
    rcases he.szs with rfl | rfl <;> omega
  have h := Go.run_make (P := P) w t e i z ht hi hz .i64 .i64 (n : Int) (n : Int) (by omega) (Int.le_refl _) hb2 (by omega)
  rw [Int.toNat_natCast, hs] at h
  rw [h]
  unfold madeCells
  rw [hc]
end
def All2 {α β : Type} (R : α → β → Prop) : List α → List β → Prop
  | [], [] => True
  | a :: l, b :: m => R a b ∧ All2 R l m
  | _, _ => False

/-! ## What calls are known by -/
inductive AD where
  | v (x : Value)
  | sl (k : IntKind) (sz n : Nat) (l : List Int)
inductive RC where
  | v (x : Value)
  | row (e : TypeId) (sz n : Nat) (l : List Int)
inductive RD where
  | one (c : RC)
  | tup (l : List RC)
def ARel (w : World) : AD → Value → Prop
  | .v x, y => y = x
  | .sl k sz n l, y => ∃ A c, y = .slice A n c ∧ n ≤ c ∧ c ≤ 9223372036854775807 ∧ l.length = n * sz ∧ 0 < sz ∧ (0 < l.length → ∃ b off, A = some ⟨b, off, none⟩ ∧ b < w.heap.size ∧ ∀ j, j < l.length → w.cell? ⟨b, off + j, none⟩ = some (.int k (l.getD j 0)))
def RCRel (base : Nat) (w : World) : RC → Value → Prop
  | .v x, y => y = x
  | .row e sz n l, y => ∃ A c, y = .slice A n c ∧ w.ownsRow base e sz y n (l.map (Value.int .i64)) ∧ 0 < sz
def SepV (vs : List Value) : Prop := vs.Pairwise fun x y => x.ownBlock = none ∨ x.ownBlock ≠ y.ownBlock
def RDRel (base : Nat) (w : World) : RD → Value → Prop
  | .one c, y => RCRel base w c y
  | .tup l, y => ∃ vs : List Value, y = .tuple vs.toArray ∧ All2 (RCRel base w) l vs ∧ SepV vs
structure DFun (P : Program) (f : FuncId) (g : List AD → Option RD) : Prop where
  ent : ∀ args w, (callFunc f args).run P w = .ok (.enter f args) w
  calls : ∀ (w : World) (ds : List AD) (args : List Value) (r : RD), All2 (ARel w) ds args → g ds = some r → Calls P f args.toArray w (fun e w' => ∃ y, e = .returned y ∧ Below w.heap.size w w' ∧ RDRel w.heap.size w' r y)
abbrev Env := List (Nat × (List AD → Option RD))
def EnvOK (P : Program) (E : Env) : Prop := ∀ f g, lk E f = some g → DFun P f g

/-! ## One step of the plain machine that makes objects and turns none -/
def parts (ev : Operand → Option DV) : List (Nat × Operand) → Option (List (Nat × Int))
  | [] => some []
  | (i, x) :: r =>
    match ev x, parts ev r with
    | some (.val (.int .i64 z)), some qs => bif Nat.blt i 2 then some ((i, z) :: qs) else none
    | _, _ => none
def parts1 (ev : Operand → Option DV) (len : Nat) : List (Nat × Operand) → Option (List (Nat × List Int))
  | [] => some []
  | (i, x) :: r =>
    match ev x, parts1 ev len r with
    | some (.val (.int .i64 z)), some qs => bif Nat.blt i len then some ((i, [z]) :: qs) else none
    | _, _ => none
def parts2 (ev : Operand → Option DV) (len : Nat) : List (Nat × Operand) → Option (List (Nat × List Int))
  | [] => some []
  | (i, x) :: r =>
    match ev x, parts2 ev len r with
    | some (.val (.agg ⟨[.int .i64 y, .int .i64 z]⟩)), some qs => bif Nat.blt i len then some ((i, [y, z]) :: qs) else none
    | _, _ => none
def bnd (ev : Operand → Option DV) : Option Operand → Int → Option Int
  | none, d => some d
  | some x, _ => match ev x with
    | some (.val (.int .i64 z)) => some z
    | _ => none
inductive ArgOf (ev : Operand → Option DV) (gt : Nat → Option DO) : Operand → AD → Prop
  | v {x : Operand} {y : Value} (h : ev x = some (.val y)) : ArgOf ev gt x (.v y)
  | full {x : Operand} {id len : Nat} {o : DO} (h : ev x = some (.sl id 0 len)) (hg : gt id = some o) (hl : o.cells.length = len * o.sz) : ArgOf ev gt x (.sl o.kind o.sz len o.cells)
  | part {x : Operand} {id off len : Nat} {o : DO} (h : ev x = some (.sl id off len)) (hg : gt id = some o) : ArgOf ev gt x (.sl o.kind o.sz len ((o.cells.drop (off * o.sz)).take (len * o.sz)))
def tcs : Nat → List RC → List TC
  | _, [] => []
  | k, .v x :: r => .v x :: tcs k r
  | k, .row _ _ n _ :: r => .s k n :: tcs (k + 1000) r
def rws : List RC → List DO
  | [] => []
  | .v _ :: r => rws r
  | .row e sz _ l :: r => .row e sz l :: rws r
def resV (nid : Nat) : RD → DV
  | .one (.v x) => .val x
  | .one (.row _ _ n _) => .sl nid 0 n
  | .tup l => .tup (tcs nid l)
def resN : RD → List DO
  | .one (.v _) => []
  | .one (.row e sz _ l) => [.row e sz l]
  | .tup l => rws l
def addN : Nat → List DO → DG → DG
  | _, [], G => G
  | k, o :: os, G => addN (k + 1000) os (hup G k o)

inductive GStep (τ : List (Nat × TK)) (E : Env) (ev : Operand → Option DV) (gt : Nat → Option DO) (nid : Nat) : Op → DV → List DO → Prop
  | move {x : Operand} {v : DV} (h : ev x = some v) : GStep τ E ev gt nid (.move x) v []
  | assign {x : Operand} {v : DV} (h : ev x = some v) : GStep τ E ev gt nid (.assign x) v []
  | pickT {c a b : Operand} {v : DV} (hc : ev c = some (.val (.bool true))) (h : ev a = some v) : GStep τ E ev gt nid (.pick c a b) v []
  | pickF {c a b : Operand} {v : DV} (hc : ev c = some (.val (.bool false))) (h : ev b = some v) : GStep τ E ev gt nid (.pick c a b) v []
  | alloc1 {t : TypeId} (ht : lk τ t = some .int) : GStep τ E ev gt nid (.alloc t) (.ptr nid 0) [.box t [0]]
  | alloc2 {t : TypeId} (ht : lk τ t = some .pair) : GStep τ E ev gt nid (.alloc t) (.ptr nid 0) [.box t [0, 0]]
  | box1 {t : TypeId} {x : Operand} {z : Int} (hx : ev x = some (.val (.int .i64 z))) : GStep τ E ev gt nid (.box t x) (.ptr nid 0) [.box t [z]]
  | box2 {t : TypeId} {x : Operand} {y z : Int} (hx : ev x = some (.val (.agg #[.int .i64 y, .int .i64 z]))) : GStep τ E ev gt nid (.box t x) (.ptr nid 0) [.box t [y, z]]
  | build {t : TypeId} {ps : List (Nat × Operand)} {qs : List (Nat × Int)} {y z : Int} (ht : lk τ t = some .pair) (h : parts ev ps = some qs) (hy : (qs.foldl setP (0, 0)).1 = y) (hz : (qs.foldl setP (0, 0)).2 = z) : GStep τ E ev gt nid (.build t ps.toArray) (.val (.agg #[.int .i64 y, .int .i64 z])) []
  | bslice1 {t e : TypeId} {len : Nat} {ps : List (Nat × Operand)} {qs : List (Nat × List Int)} {l : List Int} (ht : lk τ t = some (.sl e)) (he : lk τ e = some .int) (hn : len ≤ 1000) (h : parts1 ev len ps = some qs) (hl : buildRow 1 (List.replicate (len * 1) 0) qs = l) :
      GStep τ E ev gt nid (.buildSlice t len ps.toArray) (.sl nid 0 len) [.row e 1 l]
  | bslice2 {t e : TypeId} {len : Nat} {ps : List (Nat × Operand)} {qs : List (Nat × List Int)} {l : List Int} (ht : lk τ t = some (.sl e)) (he : lk τ e = some .pair) (hn : len ≤ 1000) (h : parts2 ev len ps = some qs) (hl : buildRow 2 (List.replicate (len * 2) 0) qs = l) :
      GStep τ E ev gt nid (.buildSlice t len ps.toArray) (.sl nid 0 len) [.row e 2 l]
  | mk1 {t e : TypeId} {x y : Operand} {n : Nat} (ht : lk τ t = some (.sl e)) (he : lk τ e = some .int) (hx : ev x = some (.val (.int .i64 (n : Nat)))) (hy : ev y = some (.val (.int .i64 (n : Nat)))) (hn : n ≤ 1000000000) :
      GStep τ E ev gt nid (.makeSlice t x y) (.sl nid 0 n) [.row e 1 (List.replicate (n * 1) 0)]
  | mk2 {t e : TypeId} {x y : Operand} {n : Nat} (ht : lk τ t = some (.sl e)) (he : lk τ e = some .pair) (hx : ev x = some (.val (.int .i64 (n : Nat)))) (hy : ev y = some (.val (.int .i64 (n : Nat)))) (hn : n ≤ 1000000000) :
      GStep τ E ev gt nid (.makeSlice t x y) (.sl nid 0 n) [.row e 2 (List.replicate (n * 2) 0)]
  | load1 {t : TypeId} {x : Operand} {id off : Nat} {o : DO} (ht : lk τ t = some .int) (hx : ev x = some (.ptr id off)) (hg : gt id = some o) (ho : off < o.cells.length) : GStep τ E ev gt nid (.load t x) (.val (.int o.kind (o.cells.getD off 0))) []
  | load2 {t : TypeId} {x : Operand} {id off : Nat} {o : DO} (ht : lk τ t = some .pair) (hx : ev x = some (.ptr id off)) (hg : gt id = some o) (ho : off + 1 < o.cells.length) :
      GStep τ E ev gt nid (.load t x) (.val (.agg #[.int o.kind (o.cells.getD off 0), .int o.kind (o.cells.getD (off + 1) 0)])) []
  | binI {op : BinOp} {t t' : TypeId} {x y : Operand} {a b : Int} {v : Value} (hx : ev x = some (.val (.int .i64 a))) (hy : ev y = some (.val (.int .i64 b))) (h : binI op a b = some v) : GStep τ E ev gt nid (.binOp op t x y t') (.val v) []
  | quo {t t' : TypeId} {x y : Operand} {a b : Int} (hx : ev x = some (.val (.int .i64 a))) (hy : ev y = some (.val (.int .i64 b))) (hb : b ≠ 0) : GStep τ E ev gt nid (.binOp .quo t x y t') (.val (.int .i64 (IntKind.i64.wrap (a.tdiv b)))) []
  | rem {t t' : TypeId} {x y : Operand} {a b : Int} (hx : ev x = some (.val (.int .i64 a))) (hy : ev y = some (.val (.int .i64 b))) (hb : b ≠ 0) : GStep τ E ev gt nid (.binOp .rem t x y t') (.val (.int .i64 (a.tmod b))) []
  | eqlB {t t' : TypeId} {x y : Operand} {a b : Bool} (ht : lk τ t = some .bool) (hx : ev x = some (.val (.bool a))) (hy : ev y = some (.val (.bool b))) : GStep τ E ev gt nid (.binOp .eql t x y t') (.val (.bool (a == b))) []
  | neqB {t t' : TypeId} {x y : Operand} {a b : Bool} (ht : lk τ t = some .bool) (hx : ev x = some (.val (.bool a))) (hy : ev y = some (.val (.bool b))) : GStep τ E ev gt nid (.binOp .neq t x y t') (.val (.bool (!(a == b)))) []
  | eqlP {t t' : TypeId} {x y : Operand} {a b c d : Int} (ht : lk τ t = some .pair) (hx : ev x = some (.val (.agg #[.int .i64 a, .int .i64 b]))) (hy : ev y = some (.val (.agg #[.int .i64 c, .int .i64 d]))) : GStep τ E ev gt nid (.binOp .eql t x y t') (.val (.bool (a == c && b == d))) []
  | neqP {t t' : TypeId} {x y : Operand} {a b c d : Int} (ht : lk τ t = some .pair) (hx : ev x = some (.val (.agg #[.int .i64 a, .int .i64 b]))) (hy : ev y = some (.val (.agg #[.int .i64 c, .int .i64 d]))) : GStep τ E ev gt nid (.binOp .neq t x y t') (.val (.bool (!(a == c && b == d)))) []
  | not {t : TypeId} {x : Operand} {a : Bool} (hx : ev x = some (.val (.bool a))) : GStep τ E ev gt nid (.unOp .not t x) (.val (.bool (!a))) []
  | neg {t : TypeId} {x : Operand} {a : Int} (hx : ev x = some (.val (.int .i64 a))) : GStep τ E ev gt nid (.unOp .neg t x) (.val (.int .i64 (IntKind.i64.wrap (0 - a)))) []
  | slice {t e : TypeId} {k : TK} {x : Operand} {lo hi : Option Operand} {id off len l h : Nat} {o : DO} {zl zh : Int} (ht : lk τ t = some (.sl e)) (he : lk τ e = some k) (hx : ev x = some (.sl id off len)) (hg : gt id = some o) (hk : k.esz = some o.sz)
      (hl : bnd ev lo 0 = some zl) (hh : bnd ev hi len = some zh) (el : zl = (l : Int)) (eh : zh = (h : Int)) (h1 : l ≤ h) (h2 : h ≤ len) : GStep τ E ev gt nid (.slice t x lo hi none) (.sl id (off + l) (h - l)) []
  | faddr {t : TypeId} {x : Operand} {id off f : Nat} {o : DO} (ht : lk τ t = some .pair) (hx : ev x = some (.ptr id off)) (hg : gt id = some o) (hf : f < 2) : GStep τ E ev gt nid (.fieldAddr t x f) (.ptr id (off + f)) []
  | iaddr {t e : TypeId} {k : TK} {x y : Operand} {id off len i : Nat} {o : DO} {z : Int} (ht : lk τ t = some (.sl e)) (he : lk τ e = some k) (hx : ev x = some (.sl id off len)) (hg : gt id = some o) (hk : k.esz = some o.sz) (hy : ev y = some (.val (.int .i64 z))) (hz : z = (i : Int)) (hi : i < len) :
      GStep τ E ev gt nid (.indexAddr t x y) (.ptr id ((off + i) * o.sz)) []
  | extr {x : Operand} {l : List TC} {i : Nat} {c : TC} (hx : ev x = some (.tup l)) (hc : l[i]? = some c) : GStep τ E ev gt nid (.extract x i) c.dv []
  | len {t e : TypeId} {x : Operand} {id off n : Nat} {o : DO} (ht : lk τ t = some (.sl e)) (hx : ev x = some (.sl id off n)) (hg : gt id = some o) : GStep τ E ev gt nid (.call { callee := .builtin .len, args := #[x], argTypes := #[t] }) (.val (.int .i64 (n : Nat))) []
  | lenNil {t e : TypeId} {x : Operand} (ht : lk τ t = some (.sl e)) (hx : ev x = some (.val (.slice none 0 0))) : GStep τ E ev gt nid (.call { callee := .builtin .len, args := #[x], argTypes := #[t] }) (.val (.int .i64 (0 : Nat))) []
  | min {ts : Array TypeId} {x y : Operand} {a b : Int} (hx : ev x = some (.val (.int .i64 a))) (hy : ev y = some (.val (.int .i64 b))) : GStep τ E ev gt nid (.call { callee := .builtin .min, args := #[x, y], argTypes := ts }) (.val (.int .i64 (if b < a then b else a))) []
  | max {ts : Array TypeId} {x y : Operand} {a b : Int} (hx : ev x = some (.val (.int .i64 a))) (hy : ev y = some (.val (.int .i64 b))) : GStep τ E ev gt nid (.call { callee := .builtin .max, args := #[x, y], argTypes := ts }) (.val (.int .i64 (if b > a then b else a))) []
  | call {f : FuncId} {xs : List Operand} {ts : Array TypeId} {g : List AD → Option RD} {ds : List AD} {r : RD} (hf : lk E f = some g) (ha : All2 (ArgOf ev gt) xs ds) (hr : g ds = some r) :
      GStep τ E ev gt nid (.call { callee := .value (.func f), args := xs.toArray, argTypes := ts }) (resV nid r) (resN r)
theorem All2.length {α β : Type} {R : α → β → Prop} : ∀ {l : List α} {m : List β}, All2 R l m → l.length = m.length
  | [], [], _ => rfl
  | _ :: _, _ :: _, h => by simp [All2.length h.2]
theorem All2.mono {α β : Type} {R S : α → β → Prop} (hh : ∀ a b, R a b → S a b) : ∀ {l : List α} {m : List β}, All2 R l m → All2 S l m
  | [], [], _ => trivial
  | _ :: _, _ :: _, h => ⟨hh _ _ h.1, All2.mono hh h.2⟩

theorem ORel.cell {w : World} {r : Loc} {o : DO} (h : ORel w r o) (j : Nat) (hj : j < o.cells.length) : ∃ b off, r.a = some ⟨b, off, none⟩ ∧ w.cell? ⟨b, off + j, none⟩ = some (.int o.kind (o.cells.getD j 0)) := by
  have row : ∀ (e : TypeId) (sz : Nat) (l : List Int), (∃ n, w.ownsRow 0 e sz (.slice r.a n r.cap) n (l.map (Value.int .i64))) → j < l.length → ∃ b off, r.a = some ⟨b, off, none⟩ ∧ w.cell? ⟨b, off + j, none⟩ = some (.int .i64 (l.getD j 0)) := by
    rintro e sz l ⟨n, hl, hr⟩ hj
    have hlen : l.length = n * sz := by simpa using hl
    rcases hr with ⟨_, h0⟩ | ⟨g, cap, cur, e1, e2, e3, e4, e5, e6, e7⟩
    · rw [h0] at hlen; omega
    · injection e1 with e1
      refine ⟨g, 0, e1, ?_⟩
      have h1 : cur[j]? = some (.int .i64 (l.getD j 0)) := by
        rw [← Array.getElem?_toList]
        have h2 : (cur.toList.take (n * sz))[j]? = (l.map (Value.int .i64))[j]? := by rw [e7]
        rw [List.getElem?_take, if_pos (by omega)] at h2
        rw [h2, List.getElem?_map, List.getElem?_eq_getElem hj]
        simp [List.getD_eq_getElem?_getD, List.getElem?_eq_getElem hj]
      simp [World.cell?, e3, h1]
  cases o with
  | ro k sz l =>
    obtain ⟨b, off, e, hc⟩ := h (by simp only [DO.cells] at hj; omega)
    exact ⟨b, off, e, hc j hj⟩
  | row e sz l => exact row e sz l h hj
  | prow A cap e sz l => exact row e sz l h.2.2 hj
  | box t l =>
    obtain ⟨g, e, hg⟩ := h
    simp only [DO.cells] at hj
    refine ⟨g, 0, e, ?_⟩
    simp [World.cell?, hg, DO.kind, DO.cells, List.getElem?_eq_getElem hj]
  | rdr g A bs p => simp [DO.cells] at hj

theorem arg_rel {C : Ctx} {G : DG} {ρ : Nat → Loc} {w : World} (hH : HRel C G ρ w) {ev : Operand → Option DV} {x : Operand} {d : AD} {y : Value} (ha : ArgOf ev G x d)
    (hv : ∀ d, ev x = some d → VRel ρ G d y) : ARel w d y := by
  have key : ∀ {id off len : Nat} {o : DO}, ev x = some (.sl id off len) → G id = some o → ARel w (.sl o.kind o.sz len ((o.cells.drop (off * o.sz)).take (len * o.sz))) y := by
    intro id off len o h hg
    obtain ⟨A, c, rfl, h1, h2, h3, _, h5, h6⟩ := hv _ h o hg
    have hlen : ((o.cells.drop (off * o.sz)).take (len * o.sz)).length = len * o.sz := by
      rw [List.length_take, List.length_drop]
      rw [Nat.add_mul] at h5
      omega
    refine ⟨A, c, rfl, h1, h2, hlen, h6, fun h0 => ?_⟩
    rw [hlen] at h0
    have hl0 : 0 < len := by
      rcases Nat.eq_zero_or_pos len with e | e
      · rw [e] at h0; simp at h0
      · exact e
    obtain ⟨b, f, e1, e2⟩ := h3 hl0
    have hb : b < w.heap.size := hH.inn id o b hg (.inl (by simp [Loc.blk, e1]))
    refine ⟨b, f + off * o.sz, e2, hb, fun j hj => ?_⟩
    rw [hlen] at hj
    obtain ⟨b', f', e3, hc⟩ := (hH.obj id o hg).cell (off * o.sz + j) (by rw [Nat.add_mul] at h5; omega)
    rw [e1] at e3
    injection e3 with e3
    injection e3 with e4 e5
    subst e4 e5
    rw [Nat.add_assoc, hc]
    congr 2
    simp [List.getD_eq_getElem?_getD, hj, List.getElem?_drop]
  cases ha with
  | v h => exact hv _ h
  | full h hg hl =>
    have := key h hg
    rw [Nat.zero_mul, List.drop_zero, ← hl, List.take_length] at this
    exact this
  | part h hg => exact key h hg

/-- rows that a call has made are added -/
theorem add_rows {C : Ctx} {w : World} {base : Nat} (hbase : C.w0.heap.size ≤ base) : ∀ (l : List RC) (vs : List Value) (nid : Nat) (G : DG) (ρ : Nat → Loc), HRel C G ρ w →
    (∀ id o g, G id = some o → Foot (ρ id) g → g < base ∨ ∀ x ∈ vs, x.ownBlock ≠ some g) → All2 (RCRel base w) l vs → SepV vs →
    ∃ ρ', HRel C (addN nid (rws l) G) ρ' w ∧ (∀ id, (∀ k, k < (rws l).length → id ≠ nid + 1000 * k) → ρ' id = ρ id ∧ addN nid (rws l) G id = G id) ∧ All2 (TCRel ρ' (addN nid (rws l) G)) (tcs nid l) vs
  | [], [], nid, G, ρ, h, _, _, _ => ⟨ρ, h, fun id _ => ⟨rfl, rfl⟩, trivial⟩
  | .v x :: l, y :: vs, nid, G, ρ, h, hf, ha, hs => by
    obtain ⟨ρ', h1, h2, h3⟩ := add_rows hbase l vs nid G ρ h (fun id o g ho hg => (hf id o g ho hg).imp (fun hh => hh) (fun hh x hx => hh x (List.mem_cons_of_mem _ hx))) ha.2 (List.pairwise_cons.1 hs).2
    exact ⟨ρ', h1, h2, ha.1, h3⟩
  | .row e sz n xs :: l, y :: vs, nid, G, ρ, h, hf, ha, hs => by
    obtain ⟨⟨A, c, rfl, hown, hsz0⟩, ha⟩ := ha
    obtain ⟨hs1, hs2⟩ := List.pairwise_cons.1 hs
    have own0 : w.ownsRow 0 e sz (.slice A n c) n (xs.map (Value.int .i64)) := by
      refine ⟨hown.1, ?_⟩
      rcases hown.2 with h' | ⟨g, cap, cur, e1, e2, r⟩
      · exact .inl h'
      · exact .inr ⟨g, cap, cur, e1, Nat.zero_le _, r⟩
    have hblk : ∀ g, A.map (·.block) = some g → base ≤ g ∧ g < w.heap.size := by
      intro g hg
      rcases hown.2 with ⟨e1, _⟩ | ⟨g', cap, cur, e1, e2, e3, _⟩
      · injection e1 with e1; subst e1; cases hg
      · injection e1 with e1; subst e1
        simp at hg; subst hg
        exact ⟨e2, (Array.getElem?_eq_some_iff.1 e3).1⟩
    have hfoot : ∀ g, Foot ⟨A, c, none⟩ g → A.map (·.block) = some g := by
      intro g hg
      rcases hg with hg | hg
      · exact hg
      · cases hg
    have hadd : HRel C (hup G nid (.row e sz xs)) (up ρ nid ⟨A, c, none⟩) w := by
      refine h.add nid _ _ ⟨n, own0⟩ (fun g hg => (hblk g (hfoot g hg)).2) ?_ (fun g hg => .inl (Nat.le_trans hbase (hblk g hg).1))
      intro id' o' g hne ho' hg hg'
      have hA := hfoot g hg
      rcases hf id' o' g ho' hg' with h1 | h1
      · have := (hblk g hA).1; omega
      · refine h1 _ (List.mem_cons_self ..) ?_
        cases A with
        | none => cases hA
        | some ad => exact hA
    obtain ⟨ρ', h1, h2, h3⟩ := add_rows hbase l vs (nid + 1000) _ _ hadd (by
      intro id o g ho hg
      unfold hup at ho
      by_cases e0 : nid = id
      · subst e0
        rw [up_same] at hg
        have hA := hfoot g hg
        refine .inr fun x hx hxg => ?_
        rcases hs1 x hx with h0 | h0
        · cases A with
          | none => cases hA
          | some ad => simp [Value.ownBlock] at h0
        · apply h0
          rw [hxg]
          cases A with
          | none => cases hA
          | some ad => exact hA
      · rw [if_neg e0] at ho
        rw [up_ne _ _ (Ne.symm e0)] at hg
        exact (hf id o g ho hg).imp (fun hh => hh) (fun hh x hx => hh x (List.mem_cons_of_mem _ hx))) ha hs2
    refine ⟨ρ', h1, fun id hid => ?_, ?_, h3⟩
    · have hne : id ≠ nid := by have := hid 0 (by simp [rws]); simpa using this
      have hh := h2 id (fun k hk => by have := hid (k + 1) (by simp [rws]; omega); omega)
      exact ⟨hh.1.trans (up_ne _ _ hne), hh.2.trans (hup_ne _ _ (Ne.symm hne))⟩
    · have hh := h2 nid (fun k hk => by omega)
      intro o ho
      rw [show addN nid (rws (.row e sz n xs :: l)) G = addN (nid + 1000) (rws l) (hup G nid (.row e sz xs)) from rfl, hh.2, hup_same] at ho
      obtain rfl := Option.some.inj ho
      rw [hh.1, up_same]
      have hlen : xs.length = n * sz := by simpa using hown.1
      refine ⟨A, c, rfl, ?_, ?_, ?_, fun _ _ => ⟨rfl, rfl⟩, by simp [DO.sz, DO.cells, hlen], hsz0⟩
      · rcases hown.2 with ⟨e1, h0⟩ | ⟨g', cap, cur, e1, e2, e3, e4, _⟩
        · injection e1 with e1 e2 e3; omega
        · injection e1 with e1 e2 e3; omega
      · rcases hown.2 with ⟨e1, h0⟩ | ⟨g', cap, cur, e1, e2, e3, e4, e5, _⟩
        · injection e1 with e1 e2 e3; omega
        · injection e1 with e1 e2 e3; unfold maxLen at e5; omega
      · intro h0
        rcases hown.2 with ⟨e1, h0'⟩ | ⟨g', cap, cur, e1, _⟩
        · omega
        · injection e1 with e1
          exact ⟨g', 0, e1, by rw [e1]; simp⟩
  | [], _ :: _, _, _, _, _, _, h, _ => h.elim
  | .v _ :: _, [], _, _, _, _, _, h, _ => h.elim
  | .row _ _ _ _ :: _, [], _, _, _, _, _, h, _ => h.elim

/-- one new block of the call's own -/
theorem add_block {C : Ctx} {G : DG} {ρ : Nat → Loc} {w : World} (h : HRel C G ρ w) (id : Nat) (o : DO) (ob : Obj) (cap : Nat) (ho : ORel (w.alloc ob) ⟨some ⟨w.heap.size, 0, none⟩, cap, none⟩ o) :
    HRel C (hup G id o) (up ρ id ⟨some ⟨w.heap.size, 0, none⟩, cap, none⟩) (w.alloc ob) := by
  have hb : Below w.heap.size w (w.alloc ob) := (Below.refl _ _).alloc (Nat.le_refl _) _
  have hg := h.grow hb
  refine hg.add id o _ ho ?_ ?_ ?_
  · intro g hg
    rcases hg with hg | hg
    · simp [Loc.blk] at hg; subst hg; simp
    · cases hg
  · intro id' o' g hne h' hg hg'
    have h1 := h.inn id' o' g h' hg'
    rcases hg with hg | hg
    · simp [Loc.blk] at hg; omega
    · cases hg
  · intro g hg
    simp [Loc.blk] at hg; subst hg
    exact .inl h.fr.size
theorem wp_value {P : Program} {o : Oper} {a : Act} {w w' : World} {v : Value} {K : Act → World → Prop} {Q : Exit → Act → World → Prop} (h : (execOp a.eval o).run P w = .ok (.value v) w') (hk : K (a.put o.dst v) w') : o.wp P a w K Q := by
  unfold Oper.wp
  rw [h]
  exact hk

/-- what is handed on behind a step that turns nothing old -/
def Next (P : Program) (C : Ctx) (G : DG) (ρ : Nat → Loc) (w : World) (nid : Nat) (v : DV) (news : List DO) (K : Value → World → Prop) : Prop :=
  ∀ ρ' v' w', HRel C (addN nid news G) ρ' w' → VRel ρ' (addN nid news G) v v' → (∀ id, (∀ k, k < news.length → id ≠ nid + 1000 * k) → ρ' id = ρ id ∧ addN nid news G id = G id) → Below w.heap.size w w' → K v' w'

theorem parts_map {ev : Operand → Option DV} {a : Act} {ρ : Nat → Loc} {G : DG} : ∀ (ps : List (Nat × Operand)) (qs : List (Nat × Int)), parts ev ps = some qs → (∀ p ∈ ps, ∀ d, ev p.2 = some d → VRel ρ G d (a.eval p.2)) →
    (ps.map fun p => (p.1, a.eval p.2)) = qs.map intV ∧ ∀ q ∈ qs, q.1 < 2
  | [], qs, h, _ => by simp [parts] at h; subst h; exact ⟨rfl, fun q hq => by cases hq⟩
  | (i, x) :: ps, qs, h, hv => by
    simp only [parts] at h
    split at h
    · rename_i z qs' h1 h2
      cases hb : Nat.blt i 2
      · rw [hb] at h; cases h
      · rw [hb] at h
        simp at h
        subst h
        have := parts_map ps qs' h2 (fun p hp => hv p (List.mem_cons_of_mem _ hp))
        have hx : a.eval x = .int .i64 z := hv (i, x) (List.mem_cons_self ..) _ h1
        refine ⟨by simp [hx, intV, this.1], fun q hq => ?_⟩
        rcases List.mem_cons.1 hq with rfl | hq
        · exact Nat.le_of_ble_eq_true hb
        · exact this.2 q hq
    · cases h
theorem parts1_map {ev : Operand → Option DV} {a : Act} {ρ : Nat → Loc} {G : DG} {len : Nat} : ∀ (ps : List (Nat × Operand)) (qs : List (Nat × List Int)), parts1 ev len ps = some qs → (∀ p ∈ ps, ∀ d, ev p.2 = some d → VRel ρ G d (a.eval p.2)) →
    (ps.map fun p => (p.1, a.eval p.2)) = qs.map (partV 1) ∧ ∀ q ∈ qs, q.2.length = 1 ∧ (q.1 + 1) * 1 ≤ len * 1
  | [], qs, h, _ => by simp [parts1] at h; subst h; exact ⟨rfl, fun q hq => by cases hq⟩
  | (i, x) :: ps, qs, h, hv => by
    simp only [parts1] at h
    split at h
    · rename_i z qs' h1 h2
      cases hb : Nat.blt i len
      · rw [hb] at h; cases h
      · rw [hb] at h
        simp at h
        subst h
        have := parts1_map ps qs' h2 (fun p hp => hv p (List.mem_cons_of_mem _ hp))
        have hx : a.eval x = .int .i64 z := hv (i, x) (List.mem_cons_self ..) _ h1
        refine ⟨by simp [hx, partV, this.1], fun q hq => ?_⟩
        rcases List.mem_cons.1 hq with rfl | hq
        · have := Nat.le_of_ble_eq_true hb
          exact ⟨rfl, by simpa using this⟩
        · exact this.2 q hq
    · cases h
theorem parts2_map {ev : Operand → Option DV} {a : Act} {ρ : Nat → Loc} {G : DG} {len : Nat} : ∀ (ps : List (Nat × Operand)) (qs : List (Nat × List Int)), parts2 ev len ps = some qs → (∀ p ∈ ps, ∀ d, ev p.2 = some d → VRel ρ G d (a.eval p.2)) →
    (ps.map fun p => (p.1, a.eval p.2)) = qs.map (partV 2) ∧ ∀ q ∈ qs, q.2.length = 2 ∧ (q.1 + 1) * 2 ≤ len * 2
  | [], qs, h, _ => by simp [parts2] at h; subst h; exact ⟨rfl, fun q hq => by cases hq⟩
  | (i, x) :: ps, qs, h, hv => by
    simp only [parts2] at h
    split at h
    · rename_i y z qs' h1 h2
      cases hb : Nat.blt i len
      · rw [hb] at h; cases h
      · rw [hb] at h
        simp at h
        subst h
        have := parts2_map ps qs' h2 (fun p hp => hv p (List.mem_cons_of_mem _ hp))
        have hx : a.eval x = .agg #[.int .i64 y, .int .i64 z] := hv (i, x) (List.mem_cons_self ..) _ h1
        refine ⟨by simp [hx, partV, this.1], fun q hq => ?_⟩
        rcases List.mem_cons.1 hq with rfl | hq
        · have := Nat.le_of_ble_eq_true hb
          exact ⟨rfl, by show (i + 1) * 2 ≤ len * 2; omega⟩
        · exact this.2 q hq
    · cases h

theorem box_rel (w : World) (t : TypeId) (l : List Int) (cap : Nat) : ORel (w.alloc (.cells (cellsOf l) t)) ⟨some ⟨w.heap.size, 0, none⟩, cap, none⟩ (.box t l) :=
  ⟨w.heap.size, rfl, by show (w.heap.push _)[w.heap.size]? = _; simp [cellsOf]⟩
theorem row_rel (w : World) (e : TypeId) (sz n : Nat) (l : List Int) (hl : l.length = n * sz) (hn : n ≤ 9223372036854775807) : ORel (w.alloc (.cells (cellsOf l) e)) ⟨some ⟨w.heap.size, 0, none⟩, n, none⟩ (.row e sz l) := by
  have h := World.ownsRow_lit (base := 0) (e := e) (size := sz) w (cellsOf l) n (Nat.zero_le _) (by unfold maxLen; omega) (by simp [cellsOf, hl])
  refine ⟨n, ?_⟩
  simpa [cellsOf] using h

section
variable {P : Program} {τ : List (Nat × TK)} {E : Env} {C : Ctx} {G : DG} {ρ : Nat → Loc} {w : World} {ev : Operand → Option DV} {nid : Nat} {a : Act}

theorem next_box (hH : HRel C G ρ w) {K : Value → World → Prop} {t : TypeId} {l : List Int} (hK : Next P C G ρ w nid (.ptr nid 0) [.box t l] K) : K (.pointer (some ⟨w.heap.size, 0, none⟩)) (w.alloc (.cells (cellsOf l) t)) := by
  refine hK (up ρ nid ⟨some ⟨w.heap.size, 0, none⟩, 0, none⟩) _ _ (add_block hH nid _ _ _ (box_rel w t l 0)) ?_ ?_ ((Below.refl _ _).alloc (Nat.le_refl _) _)
  · intro o ho
    rw [up_same]
    exact ⟨w.heap.size, 0, rfl, rfl⟩
  · intro id hid
    have hne : id ≠ nid := by have := hid 0 (by simp); simpa using this
    exact ⟨up_ne _ _ hne, hup_ne _ _ (Ne.symm hne)⟩
theorem next_row (hH : HRel C G ρ w) {K : Value → World → Prop} {e : TypeId} {sz n : Nat} {l : List Int} (hl : l.length = n * sz) (hsz : 0 < sz) (hn : n ≤ 9223372036854775807) (hK : Next P C G ρ w nid (.sl nid 0 n) [.row e sz l] K) :
    K (.slice (some ⟨w.heap.size, 0, none⟩) n n) (w.alloc (.cells (cellsOf l) e)) := by
  refine hK (up ρ nid ⟨some ⟨w.heap.size, 0, none⟩, n, none⟩) _ _ (add_block hH nid _ _ _ (row_rel w e sz n l hl hn)) ?_ ?_ ((Below.refl _ _).alloc (Nat.le_refl _) _)
  · intro o ho
    rw [show addN nid [.row e sz l] G = hup G nid (.row e sz l) from rfl, hup_same] at ho
    obtain rfl := Option.some.inj ho
    rw [up_same]
    exact ⟨_, _, rfl, Nat.le_refl _, hn, fun _ => ⟨w.heap.size, 0, rfl, by simp⟩, fun _ _ => ⟨rfl, rfl⟩, by simp [DO.sz, DO.cells, hl], hsz⟩
  · intro id hid
    have hne : id ≠ nid := by have := hid 0 (by simp); simpa using this
    exact ⟨up_ne _ _ hne, hup_ne _ _ (Ne.symm hne)⟩
theorem next_same (hH : HRel C G ρ w) {K : Value → World → Prop} {v : DV} {v' : Value} (hv : VRel ρ G v v') (hK : Next P C G ρ w nid v [] K) : K v' w :=
  hK ρ v' w hH hv (fun _ _ => ⟨rfl, rfl⟩) (Below.refl _ _)

theorem next_val (hH : HRel C G ρ w) {K : Value → World → Prop} {v : Value} (hK : Next P C G ρ w nid (.val v) [] K) : K v w := next_same hH (v := .val v) rfl hK

theorem args_rel (hH : HRel C G ρ w) : ∀ (xs : List Operand) (ds : List AD), All2 (ArgOf ev G) xs ds → (∀ x ∈ xs, ∀ d, ev x = some d → VRel ρ G d (a.eval x)) → All2 (ARel w) ds (xs.map a.eval)
  | [], [], _, _ => trivial
  | x :: xs, d :: ds, h, hv => ⟨arg_rel hH h.1 (hv x (List.mem_cons_self ..)), args_rel hH xs ds h.2 (fun x hx => hv x (List.mem_cons_of_mem _ hx))⟩

theorem tcs_get {ρ' : Nat → Loc} {G' : DG} : ∀ (l : List TC) (vs : List Value), All2 (TCRel ρ' G') l vs → ∀ (i : Nat) (c : TC) (x : Value), l[i]? = some c → vs[i]? = some x → TCRel ρ' G' c x
  | c :: l, x :: vs, h, 0, c', x', hc, hx => by simp at hc hx; subst hc hx; exact h.1
  | c :: l, x :: vs, h, i + 1, c', x', hc, hx => tcs_get l vs h.2 i c' x' (by simpa using hc) (by simpa using hx)
  | [], _, _, _, _, _, hc, _ => by simp at hc
  | _ :: _, [], h, _, _, _, _, _ => h.elim

theorem ty_size (hτ : TyOK P τ) {e : TypeId} {k : TK} {sz : Nat} (he : lk τ e = some k) (hk : k.esz = some sz) : ∃ i, P.info? e = some i ∧ i.size = sz := by
  cases k with
  | int =>
    obtain ⟨i, h1, _, h3, _⟩ := (hτ e _ he : TInt P e).info
    exact ⟨i, h1, by simp [TK.esz] at hk; omega⟩
  | pair =>
    obtain ⟨i, h1, _, h3, _⟩ := (hτ e _ he : TPair P e).info
    exact ⟨i, h1, by simp [TK.esz] at hk; omega⟩
  | bool => cases hk
  | sl e' => cases hk

theorem G_sound (hτ : TyOK P τ) (hE : EnvOK P E) (hH : HRel C G ρ w) {o : Oper} {v : DV} {news : List DO} (hev : ∀ x ∈ o.op.operands.toList, ∀ d, ev x = some d → VRel ρ G d (a.eval x))
    (hg : GStep τ E ev G nid o.op v news) {K : Act → World → Prop} {Q : Exit → Act → World → Prop} (hK : Next P C G ρ w nid v news (fun v' w' => K (a.put o.dst v') w')) : o.wp P a w K Q := by
  obtain ⟨dst, op, type, pos, after, guard⟩ := o
  simp only at hev hg hK
  cases hg with
  | move h => exact wp_value rfl (next_same hH (hev _ (by simp [Op.operands]) _ h) hK)
  | assign h => exact wp_value rfl (next_same hH (hev _ (by simp [Op.operands]) _ h) hK)
  | @pickT c x y v hc h =>
    have e : a.eval c = .bool true := hev _ (by simp [Op.operands]) _ hc
    exact wp_value (v := a.eval x) (w' := w) (by simp [execOp, e, asBool]) (next_same hH (hev _ (by simp [Op.operands]) _ h) hK)
  | @pickF c x y v hc h =>
    have e : a.eval c = .bool false := hev _ (by simp [Op.operands]) _ hc
    exact wp_value (v := a.eval y) (w' := w) (by simp [execOp, e, asBool]) (next_same hH (hev _ (by simp [Op.operands]) _ h) hK)
  | @alloc1 t ht =>
    obtain ⟨i, hi, hz, _⟩ := (hτ t _ ht : TInt P t).info
    exact wp_value (v := .pointer (some ⟨w.heap.size, 0, none⟩)) (w' := w.alloc (.cells (cellsOf [0]) t)) (by simp [execOp, run_alloc hi hz, cellsOf, Value.cells]) (next_box hH hK)
  | @alloc2 t ht =>
    obtain ⟨i, hi, hz, _⟩ := (hτ t _ ht : TPair P t).info
    exact wp_value (v := .pointer (some ⟨w.heap.size, 0, none⟩)) (w' := w.alloc (.cells (cellsOf [0, 0]) t)) (by simp [execOp, run_alloc hi hz, cellsOf, Value.cells]) (next_box hH hK)
  | @box1 t x z hx =>
    have e : a.eval x = .int .i64 z := hev _ (by simp [Op.operands]) _ hx
    exact wp_value (v := .pointer (some ⟨w.heap.size, 0, none⟩)) (w' := w.alloc (.cells (cellsOf [z]) t)) (by simp [execOp, run_box, e, cellsOf, Value.cells]) (next_box hH hK)
  | @box2 t x y z hx =>
    have e : a.eval x = .agg #[.int .i64 y, .int .i64 z] := hev _ (by simp [Op.operands]) _ hx
    exact wp_value (v := .pointer (some ⟨w.heap.size, 0, none⟩)) (w' := w.alloc (.cells (cellsOf [y, z]) t)) (by simp [execOp, run_box, e, cellsOf, Value.cells]) (next_box hH hK)
  | @build t ps qs y z ht h hy hz =>
    obtain ⟨h1, h2⟩ := parts_map (a := a) (ρ := ρ) (G := G) ps qs h (fun p hp => hev p.2 (by simp [Op.operands]; exact ⟨p.1, hp⟩))
    have := run_build2 (P := P) (w := w) (hτ t _ ht : TPair P t) qs h2
    rw [hy, hz] at this
    refine wp_value (v := .agg #[.int .i64 y, .int .i64 z]) (w' := w) ?_ (next_val hH hK)
    simp [execOp, h1, this]
  | @bslice1 t e len ps qs l ht he hn h hl =>
    obtain ⟨h1, h2⟩ := parts1_map (a := a) (ρ := ρ) (G := G) ps qs h (fun p hp => hev p.2 (by simp [Op.operands]; exact ⟨p.1, hp⟩))
    have := run_buildSlice (P := P) (w := w) (hτ t _ ht) (hτ e _ he : TInt P e).elem len (by omega) qs h2
    rw [hl] at this
    refine wp_value (v := .slice (some ⟨w.heap.size, 0, none⟩) len len) (w' := w.alloc (.cells (cellsOf l) e)) ?_ (next_row hH (by rw [← hl, buildRow_len]; simp) (by omega) (by omega) hK)
    simp [execOp, h1, this]
  | @bslice2 t e len ps qs l ht he hn h hl =>
    obtain ⟨h1, h2⟩ := parts2_map (a := a) (ρ := ρ) (G := G) ps qs h (fun p hp => hev p.2 (by simp [Op.operands]; exact ⟨p.1, hp⟩))
    have := run_buildSlice (P := P) (w := w) (hτ t _ ht) (hτ e _ he : TPair P e).elem len (by omega) qs h2
    rw [hl] at this
    refine wp_value (v := .slice (some ⟨w.heap.size, 0, none⟩) len len) (w' := w.alloc (.cells (cellsOf l) e)) ?_ (next_row hH (by rw [← hl, buildRow_len]; simp) (by omega) (by omega) hK)
    simp [execOp, h1, this]
  | @mk1 t e x y n ht he hx hy hn =>
    have e1 : a.eval x = .int .i64 (n : Nat) := hev _ (by simp [Op.operands]) _ hx
    have e2 : a.eval y = .int .i64 (n : Nat) := hev _ (by simp [Op.operands]) _ hy
    have := run_make (P := P) (w := w) (hτ t _ ht) (hτ e _ he : TInt P e).elem n hn
    refine wp_value (v := .slice (some ⟨w.heap.size, 0, none⟩) n n) ?_ (next_row hH (by simp) (by omega) (by omega) hK)
    simp [execOp, e1, e2, this]
  | @mk2 t e x y n ht he hx hy hn =>
    have e1 : a.eval x = .int .i64 (n : Nat) := hev _ (by simp [Op.operands]) _ hx
    have e2 : a.eval y = .int .i64 (n : Nat) := hev _ (by simp [Op.operands]) _ hy
    have := run_make (P := P) (w := w) (hτ t _ ht) (hτ e _ he : TPair P e).elem n hn
    refine wp_value (v := .slice (some ⟨w.heap.size, 0, none⟩) n n) ?_ (next_row hH (by simp) (by omega) (by omega) hK)
    simp [execOp, e1, e2, this]
  | @load1 t x id off ob ht hx hg ho =>
    obtain ⟨b, f, e1, e2⟩ := hev _ (by simp [Op.operands]) _ hx ob hg
    obtain ⟨b', f', e3, hc⟩ := (hH.obj id ob hg).cell off ho
    rw [e1] at e3; injection e3 with e3; injection e3 with e4 e5; subst e4 e5
    have := run_load1 (P := P) (w := w) (hτ t _ ht : TInt P t) hc
    exact wp_value (v := .int ob.kind (ob.cells.getD off 0)) (w' := w) (by simp [execOp, e2, this]) (next_val hH hK)
  | @load2 t x id off ob ht hx hg ho =>
    obtain ⟨b, f, e1, e2⟩ := hev _ (by simp [Op.operands]) _ hx ob hg
    obtain ⟨b', f', e3, hc⟩ := (hH.obj id ob hg).cell off (by omega)
    obtain ⟨b'', f'', e3', hc'⟩ := (hH.obj id ob hg).cell (off + 1) ho
    rw [e1] at e3 e3'; injection e3 with e3; injection e3 with e4 e5; subst e4 e5
    injection e3' with e3'; injection e3' with e4 e5; subst e4 e5
    have := run_load2 (P := P) (w := w) (hτ t _ ht : TPair P t) hc (by rw [Nat.add_assoc]; exact hc')
    exact wp_value (v := .agg #[.int ob.kind (ob.cells.getD off 0), .int ob.kind (ob.cells.getD (off + 1) 0)]) (w' := w) (by simp [execOp, e2, this]) (next_val hH hK)
  | @binI op t t' x y i j v hx hy h =>
    have e1 : a.eval x = .int .i64 i := hev _ (by simp [Op.operands]) _ hx
    have e2 : a.eval y = .int .i64 j := hev _ (by simp [Op.operands]) _ hy
    have := run_binI (P := P) (w := w) h t x y
    exact wp_value (v := v) (w' := w) (by simp only [execOp, e1, e2, Sem.run_bind, this]; rfl) (next_val hH hK)
  | @quo t t' x y i j hx hy h =>
    have e1 : a.eval x = .int .i64 i := hev _ (by simp [Op.operands]) _ hx
    have e2 : a.eval y = .int .i64 j := hev _ (by simp [Op.operands]) _ hy
    have := run_quo (P := P) (w := w) (a := i) h t x y
    exact wp_value (v := _) (w' := w) (by simp only [execOp, e1, e2, Sem.run_bind, this]; rfl) (next_val hH hK)
  | @rem t t' x y i j hx hy h =>
    have e1 : a.eval x = .int .i64 i := hev _ (by simp [Op.operands]) _ hx
    have e2 : a.eval y = .int .i64 j := hev _ (by simp [Op.operands]) _ hy
    have := run_rem (P := P) (w := w) (a := i) h t x y
    exact wp_value (v := _) (w' := w) (by simp only [execOp, e1, e2, Sem.run_bind, this]; rfl) (next_val hH hK)
  | @eqlB t t' x y i j ht hx hy =>
    have e1 : a.eval x = .bool i := hev _ (by simp [Op.operands]) _ hx
    have e2 : a.eval y = .bool j := hev _ (by simp [Op.operands]) _ hy
    have := run_eqlB (P := P) (w := w) (a := i) (b := j) (hτ t _ ht) x y
    exact wp_value (v := _) (w' := w) (by simp only [execOp, e1, e2, Sem.run_bind, this]; rfl) (next_val hH hK)
  | @neqB t t' x y i j ht hx hy =>
    have e1 : a.eval x = .bool i := hev _ (by simp [Op.operands]) _ hx
    have e2 : a.eval y = .bool j := hev _ (by simp [Op.operands]) _ hy
    have := run_neqB (P := P) (w := w) (a := i) (b := j) (hτ t _ ht) x y
    exact wp_value (v := _) (w' := w) (by simp only [execOp, e1, e2, Sem.run_bind, this]; rfl) (next_val hH hK)
  | @eqlP t t' x y i j k l ht hx hy =>
    have e1 : a.eval x = .agg #[.int .i64 i, .int .i64 j] := hev _ (by simp [Op.operands]) _ hx
    have e2 : a.eval y = .agg #[.int .i64 k, .int .i64 l] := hev _ (by simp [Op.operands]) _ hy
    have := (hτ t _ ht : TPair P t).eql w x y i j k l
    exact wp_value (v := _) (w' := w) (by simp only [execOp, e1, e2, Sem.run_bind, this]; rfl) (next_val hH hK)
  | @neqP t t' x y i j k l ht hx hy =>
    have e1 : a.eval x = .agg #[.int .i64 i, .int .i64 j] := hev _ (by simp [Op.operands]) _ hx
    have e2 : a.eval y = .agg #[.int .i64 k, .int .i64 l] := hev _ (by simp [Op.operands]) _ hy
    have := (hτ t _ ht : TPair P t).neq w x y i j k l
    exact wp_value (v := _) (w' := w) (by simp only [execOp, e1, e2, Sem.run_bind, this]; rfl) (next_val hH hK)
  | @not t x i hx =>
    have e1 : a.eval x = .bool i := hev _ (by simp [Op.operands]) _ hx
    exact wp_value (v := .bool !i) (w' := w) (by simp [execOp, e1, Op.unary]) (next_val hH hK)
  | @neg t x i hx =>
    have e1 : a.eval x = .int .i64 i := hev _ (by simp [Op.operands]) _ hx
    exact wp_value (v := .int .i64 (IntKind.i64.wrap (0 - i))) (w' := w) (by simp [execOp, e1, Op.unary, Op.intArith]) (next_val hH hK)
  | @slice t e k x lo hi id off len l h ob zl zh ht he hx hg hk hl hh el eh h1 h2 =>
    subst el eh
    obtain ⟨A, c, e1, b1, b2, b3, b4, b5, b6⟩ := hev _ (by simp [Op.operands]) _ hx ob hg
    obtain ⟨i, hi', hs⟩ := ty_size hτ he hk
    have hlo : lo.map a.eval = some (.int .i64 (l : Nat)) ∨ (lo.map a.eval = none ∧ l = 0) := by
      cases lo with
      | none => simp only [bnd, Option.some.injEq] at hl; exact .inr ⟨rfl, by omega⟩
      | some y =>
        refine .inl ?_
        simp only [bnd] at hl
        split at hl
        · rename_i z hz
          have := hev y (by simp [Op.operands]) _ hz
          simp only [Option.some.injEq] at hl
          rw [Option.map_some, (this : a.eval y = _), hl]
        · cases hl
    have hhi : hi.map a.eval = some (.int .i64 (h : Nat)) ∨ (hi.map a.eval = none ∧ h = len) := by
      cases hi with
      | none => simp only [bnd, Option.some.injEq] at hh; exact .inr ⟨rfl, by omega⟩
      | some y =>
        refine .inl ?_
        simp only [bnd] at hh
        split at hh
        · rename_i z hz
          have := hev y (by simp [Op.operands]) _ hz
          simp only [Option.some.injEq] at hh
          rw [Option.map_some, (this : a.eval y = _), hh]
        · cases hh
    have hrun := run_slice (P := P) (w := w) (hτ t _ ht) hi' A len c (lo.map a.eval) (hi.map a.eval) l h hlo hhi h1 h2 b1
    refine wp_value (v := .slice (if c = l then A else A.map (·.add (l * i.size))) (h - l) (c - l)) (w' := w) (by simp only [execOp, e1, Option.map_none, Sem.run_bind, hrun]; rfl) (next_same hH ?_ hK)
    intro o' ho'
    rw [hg] at ho'
    obtain rfl := Option.some.inj ho'
    refine ⟨_, _, rfl, by omega, by omega, fun h0 => ?_, fun hr h0 => ?_, ?_, b6⟩
    · obtain ⟨b, f, r1, r2⟩ := b3 (by omega)
      refine ⟨b, f, r1, ?_⟩
      rw [if_neg (by omega), r2, Option.map_some, Go.WideShapes.add_plain, hs, Nat.add_mul, Nat.add_assoc]
    · have : off = 0 ∧ l = 0 := by omega
      obtain ⟨rfl, rfl⟩ := this
      obtain ⟨r1, r2⟩ := b4 hr rfl
      refine ⟨?_, by omega⟩
      split
      · exact r1
      · rw [r1]
        cases (ρ id).a with
        | none => rfl
        | some ad => simp [Addr.add]
    · have : off + l + (h - l) ≤ off + len := by omega
      exact Nat.le_trans (Nat.mul_le_mul_right _ this) b5
  | @faddr t x id off f ob ht hx hg hf =>
    obtain ⟨b, f', e1, e2⟩ := hev _ (by simp [Op.operands]) _ hx ob hg
    have := run_fieldAt (P := P) (w := w) (hτ t _ ht : TPair P t) (b := b) (f := f' + off) hf
    refine wp_value (v := .pointer (some ⟨b, f' + off + f, none⟩)) (w' := w) (by simp [execOp, e2, this]) (next_same hH ?_ hK)
    exact fun o' ho' => ⟨b, f', e1, by rw [Nat.add_assoc]⟩
  | @iaddr t e k x y id off len i ob z ht he hx hg hk hy hz hi =>
    subst hz
    obtain ⟨A, c, e1, b1, b2, b3, b4, b5⟩ := hev _ (by simp [Op.operands]) _ hx ob hg
    have e2 : a.eval y = .int .i64 (i : Int) := hev _ (by simp [Op.operands]) _ hy
    obtain ⟨inf, hi', hs⟩ := ty_size hτ he hk
    obtain ⟨b, f, r1, r2⟩ := b3 (by omega)
    have hrun := run_indexAt (P := P) (w := w) (hτ t _ ht) hi' (b := b) (f := f + off * ob.sz) (n := len) (c := c) (z := (i : Int)) (by omega) (by omega)
    refine wp_value (v := .pointer (some ⟨b, f + off * ob.sz + (i : Int).toNat * inf.size, none⟩)) (w' := w) (by simp only [execOp, e1, e2, r2, Sem.run_bind, hrun]; rfl) (next_same hH ?_ hK)
    exact fun o' ho' => ⟨b, f, r1, by rw [hs, Int.toNat_natCast, Nat.add_mul, Nat.add_assoc]⟩
  | @extr x l i c hx hc =>
    obtain ⟨vs, e1, hl, hv⟩ := hev _ (by simp [Op.operands]) _ hx
    have hlt : i < l.length := (List.getElem?_eq_some_iff.1 hc).1
    have hx' : vs[i]? = some vs[i] := List.getElem?_eq_getElem (by omega)
    have hr := hv i c _ hc hx'
    refine wp_value (v := vs[i]) (w' := w) (by simp [execOp, e1, Instr.extract, hx']) (next_same hH ?_ hK)
    cases c with
    | v y => exact hr
    | s id n => exact hr
  | @len t e x id off n ob ht hx hg =>
    obtain ⟨A, c, e1, _⟩ := hev _ (by simp [Op.operands, Call.operands]) _ hx ob hg
    have := run_len (P := P) (w := w) (hτ t _ ht) A n c type
    exact wp_value (v := .int .i64 (n : Nat)) (w' := w) (by simp [execOp, resolve, invoke, builtin, e1, this]) (next_val hH hK)
  | @lenNil t e x ht hx =>
    have e1 : a.eval x = .slice none 0 0 := hev _ (by simp [Op.operands, Call.operands]) _ hx
    have := run_len (P := P) (w := w) (hτ t _ ht) none 0 0 type
    exact wp_value (v := .int .i64 (0 : Nat)) (w' := w) (by simp [execOp, resolve, invoke, builtin, e1, this]) (next_val hH hK)
  | @min ts x y i j hx hy =>
    have e1 : a.eval x = .int .i64 i := hev _ (by simp [Op.operands, Call.operands]) _ hx
    have e2 : a.eval y = .int .i64 j := hev _ (by simp [Op.operands, Call.operands]) _ hy
    exact wp_value (v := .int .i64 (if j < i then j else i)) (w' := w) (by simp [execOp, resolve, invoke, builtin, e1, e2, run_min]) (next_val hH hK)
  | @max ts x y i j hx hy =>
    have e1 : a.eval x = .int .i64 i := hev _ (by simp [Op.operands, Call.operands]) _ hx
    have e2 : a.eval y = .int .i64 j := hev _ (by simp [Op.operands, Call.operands]) _ hy
    exact wp_value (v := .int .i64 (if j > i then j else i)) (w' := w) (by simp [execOp, resolve, invoke, builtin, e1, e2, run_max]) (next_val hH hK)
  | @call f xs ts g ds r hf ha hr =>
    have hd := hE f g hf
    have hargs := args_rel (a := a) hH xs ds ha (fun x hx => hev x (by simp [Op.operands, Call.operands, hx]))
    have hc := hd.calls w ds _ r hargs hr
    unfold Oper.wp
    have hrun : (execOp a.eval ⟨dst, .call { callee := .value (.func f), args := xs.toArray, argTypes := ts }, type, pos, after, guard⟩).run P w = .ok (.enter f (xs.map a.eval).toArray) w := by
      simp [execOp, resolve, Act.eval, Deferred.ofValue, invoke, hd.ent]
    rw [hrun]
    refine hc.mono ?_
    rintro e w' ⟨y, rfl, hb, hrel⟩
    have hH' := hH.grow hb
    cases r with
    | one c =>
      have hh := add_rows (C := C) (w := w') (base := w.heap.size) hH.fr.size [c] [y] nid G ρ hH' (fun id o g ho hg => .inl (hH.inn id o g ho hg)) ⟨hrel, trivial⟩ (by simp [SepV])
      obtain ⟨ρ', h1, h2, h3⟩ := hh
      cases c with
      | v x => exact hK ρ' y w' h1 h3.1 h2 hb
      | row e sz n l => exact hK ρ' y w' h1 h3.1 h2 hb
    | tup l =>
      obtain ⟨vs, rfl, hl, hsep⟩ := hrel
      obtain ⟨ρ', h1, h2, h3⟩ := add_rows (C := C) (w := w') (base := w.heap.size) hH.fr.size l vs nid G ρ hH' (fun id o g ho hg => .inl (hH.inn id o g ho hg)) hl hsep
      exact hK ρ' _ w' h1 ⟨vs, rfl, (All2.length h3).symm, tcs_get _ _ h3⟩ h2 hb
end
section
variable {τ : List (Nat × TK)} {E : Env} {ev ev' : Operand → Option DV} {G G' : DG} {nid : Nat}

theorem parts_congr : ∀ (ps : List (Nat × Operand)), (∀ p ∈ ps, ev p.2 = ev' p.2) → parts ev ps = parts ev' ps
  | [], _ => rfl
  | (i, x) :: ps, h => by
    have h1 := h (i, x) (List.mem_cons_self ..)
    have h2 := parts_congr ps (fun p hp => h p (List.mem_cons_of_mem _ hp))
    simp only at h1
    simp only [parts, h1, h2]
theorem parts1_congr {len : Nat} : ∀ (ps : List (Nat × Operand)), (∀ p ∈ ps, ev p.2 = ev' p.2) → parts1 ev len ps = parts1 ev' len ps
  | [], _ => rfl
  | (i, x) :: ps, h => by
    have h1 := h (i, x) (List.mem_cons_self ..)
    have h2 := parts1_congr (len := len) ps (fun p hp => h p (List.mem_cons_of_mem _ hp))
    simp only at h1
    simp only [parts1, h1, h2]
theorem parts2_congr {len : Nat} : ∀ (ps : List (Nat × Operand)), (∀ p ∈ ps, ev p.2 = ev' p.2) → parts2 ev len ps = parts2 ev' len ps
  | [], _ => rfl
  | (i, x) :: ps, h => by
    have h1 := h (i, x) (List.mem_cons_self ..)
    have h2 := parts2_congr (len := len) ps (fun p hp => h p (List.mem_cons_of_mem _ hp))
    simp only at h1
    simp only [parts2, h1, h2]
theorem bnd_congr (x : Option Operand) (d : Int) (h : ∀ y, x = some y → ev y = ev' y) : bnd ev x d = bnd ev' x d := by
  cases x with
  | none => rfl
  | some y => simp only [bnd, h y rfl]
theorem args_congr : ∀ (xs : List Operand) (ds : List AD), (∀ x ∈ xs, ev x = ev' x) → (∀ x ∈ xs, ∀ d, ev x = some d → ∀ id ∈ d.ids, G id = G' id) → All2 (ArgOf ev G) xs ds → All2 (ArgOf ev' G') xs ds
  | [], [], _, _, _ => trivial
  | x :: xs, d :: ds, he, hg, h => by
    refine ⟨?_, args_congr xs ds (fun y hy => he y (List.mem_cons_of_mem _ hy)) (fun y hy => hg y (List.mem_cons_of_mem _ hy)) h.2⟩
    have e := he x (List.mem_cons_self ..)
    have g := hg x (List.mem_cons_self ..)
    obtain ⟨h, _⟩ := h
    cases h with
    | v h => exact .v (e ▸ h)
    | full h hh hl => exact .full (e ▸ h) ((g _ h _ (by simp [DV.ids])).symm.trans hh) hl
    | part h hh => exact .part (e ▸ h) ((g _ h _ (by simp [DV.ids])).symm.trans hh)

theorem GStep.loc {op : Op} {v : DV} {news : List DO} (h : GStep τ E ev G nid op v news) (he : ∀ x ∈ op.operands.toList, ev x = ev' x)
    (hg : ∀ x ∈ op.operands.toList, ∀ d, ev x = some d → ∀ id ∈ d.ids, G id = G' id) : GStep τ E ev' G' nid op v news := by
  have tr : ∀ {x : Operand} {d : DV}, ev x = some d → x ∈ op.operands.toList → ev' x = some d := fun h hx => (he _ hx) ▸ h
  have tg : ∀ {x : Operand} {d : DV} {id : Nat} {o : DO}, G id = some o → ev x = some d → id ∈ d.ids → x ∈ op.operands.toList → G' id = some o := fun h hx hi hm => (hg _ hm _ hx _ hi).symm.trans h
  cases h with
  | move h => exact .move (tr h (by simp [Op.operands]))
  | assign h => exact .assign (tr h (by simp [Op.operands]))
  | pickT hc h => exact .pickT (tr hc (by simp [Op.operands])) (tr h (by simp [Op.operands]))
  | pickF hc h => exact .pickF (tr hc (by simp [Op.operands])) (tr h (by simp [Op.operands]))
  | alloc1 ht => exact .alloc1 ht
  | alloc2 ht => exact .alloc2 ht
  | box1 hx => exact .box1 (tr hx (by simp [Op.operands]))
  | box2 hx => exact .box2 (tr hx (by simp [Op.operands]))
  | @build t ps qs y z ht h hy hz => exact .build ht ((parts_congr ps (fun p hp => he p.2 (by simp [Op.operands]; exact ⟨p.1, hp⟩))).symm.trans h) hy hz
  | @bslice1 t e len ps qs l ht he' hn h hl => exact .bslice1 ht he' hn ((parts1_congr ps (fun p hp => he p.2 (by simp [Op.operands]; exact ⟨p.1, hp⟩))).symm.trans h) hl
  | @bslice2 t e len ps qs l ht he' hn h hl => exact .bslice2 ht he' hn ((parts2_congr ps (fun p hp => he p.2 (by simp [Op.operands]; exact ⟨p.1, hp⟩))).symm.trans h) hl
  | mk1 ht he' hx hy hn => exact .mk1 ht he' (tr hx (by simp [Op.operands])) (tr hy (by simp [Op.operands])) hn
  | mk2 ht he' hx hy hn => exact .mk2 ht he' (tr hx (by simp [Op.operands])) (tr hy (by simp [Op.operands])) hn
  | load1 ht hx hg' ho => exact .load1 ht (tr hx (by simp [Op.operands])) (tg hg' hx (by simp [DV.ids]) (by simp [Op.operands])) ho
  | load2 ht hx hg' ho => exact .load2 ht (tr hx (by simp [Op.operands])) (tg hg' hx (by simp [DV.ids]) (by simp [Op.operands])) ho
  | binI hx hy h => exact .binI (tr hx (by simp [Op.operands])) (tr hy (by simp [Op.operands])) h
  | quo hx hy h => exact .quo (tr hx (by simp [Op.operands])) (tr hy (by simp [Op.operands])) h
  | rem hx hy h => exact .rem (tr hx (by simp [Op.operands])) (tr hy (by simp [Op.operands])) h
  | eqlB ht hx hy => exact .eqlB ht (tr hx (by simp [Op.operands])) (tr hy (by simp [Op.operands]))
  | neqB ht hx hy => exact .neqB ht (tr hx (by simp [Op.operands])) (tr hy (by simp [Op.operands]))
  | eqlP ht hx hy => exact .eqlP ht (tr hx (by simp [Op.operands])) (tr hy (by simp [Op.operands]))
  | neqP ht hx hy => exact .neqP ht (tr hx (by simp [Op.operands])) (tr hy (by simp [Op.operands]))
  | not hx => exact .not (tr hx (by simp [Op.operands]))
  | neg hx => exact .neg (tr hx (by simp [Op.operands]))
  | @slice t e k x lo hi id off len l h o zl zh ht he' hx hg' hk hl hh el eh h1 h2 =>
    refine .slice ht he' (tr hx (by simp [Op.operands])) (tg hg' hx (by simp [DV.ids]) (by simp [Op.operands])) hk ?_ ?_ el eh h1 h2
    · rw [← bnd_congr lo 0 (fun y hy => he y (by simp [Op.operands, hy]))]; exact hl
    · rw [← bnd_congr hi len (fun y hy => he y (by simp [Op.operands, hy]))]; exact hh
  | faddr ht hx hg' hf => exact .faddr ht (tr hx (by simp [Op.operands])) (tg hg' hx (by simp [DV.ids]) (by simp [Op.operands])) hf
  | iaddr ht he' hx hg' hk hy hz hi => exact .iaddr ht he' (tr hx (by simp [Op.operands])) (tg hg' hx (by simp [DV.ids]) (by simp [Op.operands])) hk (tr hy (by simp [Op.operands])) hz hi
  | extr hx hc => exact .extr (tr hx (by simp [Op.operands])) hc
  | len ht hx hg' => exact .len ht (tr hx (by simp [Op.operands, Call.operands])) (tg hg' hx (by simp [DV.ids]) (by simp [Op.operands, Call.operands]))
  | lenNil ht hx => exact .lenNil ht (tr hx (by simp [Op.operands, Call.operands]))
  | min hx hy => exact .min (tr hx (by simp [Op.operands, Call.operands])) (tr hy (by simp [Op.operands, Call.operands]))
  | max hx hy => exact .max (tr hx (by simp [Op.operands, Call.operands])) (tr hy (by simp [Op.operands, Call.operands]))
  | @call f xs ts g ds r hf ha hr =>
    exact .call hf (args_congr xs ds (fun x hx => he x (by simp [Op.operands, Call.operands, hx])) (fun x hx => hg x (by simp [Op.operands, Call.operands, hx])) ha) hr

theorem tcs_ids : ∀ (l : List RC) (k : Nat) (id : Nat), id ∈ (tcs k l).flatMap TC.ids → ∃ j, j < (rws l).length ∧ id = k + 1000 * j
  | [], k, id, h => by simp [tcs] at h
  | .v x :: l, k, id, h => by
    simp only [tcs, List.flatMap_cons, TC.ids, List.nil_append] at h
    exact tcs_ids l k id h
  | .row e sz n xs :: l, k, id, h => by
    simp only [tcs, List.flatMap_cons, TC.ids, List.cons_append, List.nil_append, List.mem_cons] at h
    rcases h with rfl | h
    · exact ⟨0, by simp [rws], by simp⟩
    · obtain ⟨j, h1, h2⟩ := tcs_ids l (k + 1000) id h
      exact ⟨j + 1, by simp [rws]; omega, by omega⟩
theorem GStep.idsOf {op : Op} {v : DV} {news : List DO} (h : GStep τ E ev G nid op v news) (id : Nat) (hid : id ∈ v.ids) : (∃ x ∈ op.operands.toList, ∃ d, ev x = some d ∧ id ∈ d.ids) ∨ ∃ k, k < news.length ∧ id = nid + 1000 * k := by
  cases h with
  | move h => exact .inl ⟨_, by simp [Op.operands], _, h, hid⟩
  | assign h => exact .inl ⟨_, by simp [Op.operands], _, h, hid⟩
  | @pickT c a b v hc h => exact .inl ⟨a, by simp [Op.operands], _, h, hid⟩
  | @pickF c a b v hc h => exact .inl ⟨b, by simp [Op.operands], _, h, hid⟩
  | alloc1 ht => simp [DV.ids] at hid; exact .inr ⟨0, by simp, by simpa using hid⟩
  | alloc2 ht => simp [DV.ids] at hid; exact .inr ⟨0, by simp, by simpa using hid⟩
  | box1 hx => simp [DV.ids] at hid; exact .inr ⟨0, by simp, by simpa using hid⟩
  | box2 hx => simp [DV.ids] at hid; exact .inr ⟨0, by simp, by simpa using hid⟩
  | bslice1 ht he' hn h hl => simp [DV.ids] at hid; exact .inr ⟨0, by simp, by simpa using hid⟩
  | bslice2 ht he' hn h hl => simp [DV.ids] at hid; exact .inr ⟨0, by simp, by simpa using hid⟩
  | mk1 ht he' hx hy hn => simp [DV.ids] at hid; exact .inr ⟨0, by simp, by simpa using hid⟩
  | mk2 ht he' hx hy hn => simp [DV.ids] at hid; exact .inr ⟨0, by simp, by simpa using hid⟩
  | @slice t e k x lo hi id' off len l h o zl zh ht he' hx hg' hk hl hh el eh h1 h2 => exact .inl ⟨x, by simp [Op.operands], _, hx, hid⟩
  | @faddr t x id' off f o ht hx hg' hf => exact .inl ⟨x, by simp [Op.operands], _, hx, hid⟩
  | @iaddr t e k x y id' off len i o z ht he' hx hg' hk hy hz hi => exact .inl ⟨x, by simp [Op.operands], _, hx, hid⟩
  | @extr x l i c hx hc =>
    refine .inl ⟨x, by simp [Op.operands], _, hx, ?_⟩
    simp only [DV.ids, List.mem_flatMap]
    refine ⟨c, List.mem_of_getElem? hc, ?_⟩
    cases c with
    | v y => exact hid
    | s i n => exact hid
  | @call f xs ts g ds r hf ha hr =>
    right
    cases r with
    | one c =>
      cases c with
      | v x => simp [resV, DV.ids] at hid
      | row e sz n l => simp [resV, DV.ids] at hid; exact ⟨0, by simp [resN], by simpa using hid⟩
    | tup l => exact tcs_ids l nid id hid
  | _ => simp [DV.ids] at hid
end
end Go.Proofs.Ytionljjdfgeggaa
