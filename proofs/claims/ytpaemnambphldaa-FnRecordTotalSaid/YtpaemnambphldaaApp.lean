/-
  append onto a slice of ints that the call itself has made: one element; the elements of a slice that reads. What the law leaves, in the words of Base.
-/
import Derived.Test.YtpaemnambphldaaBase
import Derived.Maps.AppendAt
namespace Go.Proofs.Ytpaemnambphldaa
open Go.RowKit
set_option linter.unusedVariables false

theorem infoInt : (Try.prog.info? 3).map (fun i => (i.zero, i.size, i.bytes)) = some (some (.int .i64 0), 1, 8) := by kernel_rfl

/-- the block of a slice's address -/
def blk (A : Option Addr) : Option Nat := A.map (·.block)
theorem blk_own (A : Option Addr) (n c : Nat) : (Value.slice A n c).ownBlock = blk A := by cases A <;> rfl

theorem OI.kept {w w' : World} {base : Nat} {A : Option Addr} {n c : Nat} {l : List Int} {row : Option Nat} (h : OI w base A n c l) (hg : w.grownBy w' row) (hne : blk A = none ∨ blk A ≠ row) : OI w' base A n c l :=
  World.ownsRow.kept h hg (by rw [blk_own]; exact hne)
theorem OI.alloc {w : World} {base : Nat} {A : Option Addr} {n c : Nat} {l : List Int} (h : OI w base A n c l) (o : Obj) : OI (w.alloc o) base A n c l := World.ownsRow.alloc h o
theorem OI.blk_lt {w : World} {base : Nat} {A : Option Addr} {n c : Nat} {l : List Int} (h : OI w base A n c l) {k : Nat} (hk : blk A = some k) : base ≤ k ∧ k < w.heap.size :=
  World.ownsRow.lt h k (by rw [blk_own]; exact hk)
theorem OI.lit (w : World) (base : Nat) (l : List Int) (hb : base ≤ w.heap.size) (hl : l.length ≤ 1000000) : OI (w.alloc (.cells (l.map (Value.int .i64)).toArray 3)) base (some ⟨w.heap.size, 0, none⟩) l.length l.length l := by
  have := World.ownsRow_lit (base := base) (e := 3) (size := 1) w (l.map (Value.int .i64)).toArray l.length hb (by unfold maxLen; omega) (by simp)
  exact this

theorem OI.set {w : World} {base g n c : Nat} {l : List Int} (h : OI w base (some ⟨g, 0, none⟩) n c l) (j : Nat) (z : Int) :
    OI (w.setCell ⟨g, j, none⟩ (.int .i64 z)) base (some ⟨g, 0, none⟩) n c (l.set j z) ∧ w.grownBy (w.setCell ⟨g, j, none⟩ (.int .i64 z)) (some g) := by
  have := World.ownsRow.stored h j (.int .i64 z)
  refine ⟨?_, this.2⟩
  unfold OI
  rw [List.map_set]
  exact this.1
theorem OI.cell {w : World} {base g n c : Nat} {l : List Int} (h : OI w base (some ⟨g, 0, none⟩) n c l) (j : Nat) (hj : j < n) : w.cell? ⟨g, j, none⟩ = some (.int .i64 (l.getD j 0)) := by
  have hl := h.len
  rw [World.ownsRow.cellAt h j (by omega), List.getElem?_map, List.getElem?_eq_getElem (by omega)]
  simp [List.getD_eq_getElem?_getD, List.getElem?_eq_getElem (show j < l.length by omega)]
theorem OI.frozen {w : World} {base g n c : Nat} {l : List Int} (h : OI w base (some ⟨g, 0, none⟩) n c l) (j : Nat) : w.frozen? ⟨g, j, none⟩ = false := World.ownsRow.frozenAt h j

theorem OI.cap {w : World} {base : Nat} {A : Option Addr} {n c : Nat} {l : List Int} (h : OI w base A n c l) : n ≤ c ∧ c ≤ 9223372036854775807 := by
  rcases h.2 with ⟨e, h0⟩ | ⟨g, cap, cur, e, _, _, h1, h2, _⟩
  · injection e with e1 e2 e3
    omega
  · injection e with e1 e2 e3
    unfold maxLen at h2
    omega
theorem OI.mono {w : World} {base base' : Nat} {A : Option Addr} {n c : Nat} {l : List Int} (h : OI w base A n c l) (hb : base' ≤ base) : OI w base' A n c l := by
  refine ⟨h.1, ?_⟩
  rcases h.2 with h2 | ⟨g, cap, cur, e, hg, r⟩
  · exact .inl h2
  · exact .inr ⟨g, cap, cur, e, Nat.le_trans hb hg, r⟩
theorem RI.take {w : World} {A : Option Addr} {n : Nat} {l : List Int} (h : RI w A n l) {k : Nat} (hk : k ≤ n) : RI w A k (l.take k) := by
  refine ⟨by rw [List.length_take, h.1]; omega, fun h0 => ?_⟩
  obtain ⟨b, off, e, hlt, hc⟩ := h.2 (by omega)
  refine ⟨b, off, e, hlt, fun j hj => ?_⟩
  rw [hc j (by omega)]
  simp [List.getD_eq_getElem?_getD, hj]
theorem RI.drop {w : World} {b off n : Nat} {l : List Int} (h : RI w (some ⟨b, off, none⟩) n l) {k : Nat} (hk : k ≤ n) : RI w (some ⟨b, off + k, none⟩) (n - k) (l.drop k) := by
  refine ⟨by rw [List.length_drop, h.1], fun h0 => ?_⟩
  obtain ⟨b', off', e, hlt, hc⟩ := h.2 (by omega)
  injection e with e
  injection e with e1 e2
  subst e1 e2
  refine ⟨b, off + k, rfl, hlt, fun j hj => ?_⟩
  rw [Nat.add_assoc, hc (k + j) (by omega)]
  simp [List.getD_eq_getElem?_getD]

theorem own_shape {w : World} {base : Nat} {e : TypeId} {size : Nat} {v : Value} {n : Nat} {xs : List Value} (h : w.ownsRow base e size v n xs) : ∃ A c, v = .slice A n c := by
  rcases h.2 with ⟨rfl, rfl⟩ | ⟨g, cap, cur, rfl, _⟩
  · exact ⟨_, _, rfl⟩
  · exact ⟨_, _, rfl⟩

section
variable {ops : Array Oper} {rest : List Oper} {o : Oper} {a : Act} {Q : Exit → Act → World → Prop}
/-- 'append(s, z)' -/
theorem wpList_app1 {w : World} (hgd : o.guard = none) (s x : Operand) (ho : o.op = .call { callee := .builtin .append, args := #[s, x], argTypes := #[22, 22] })
    (base : Nat) (A : Option Addr) (n c : Nat) (l : List Int) (hs : a.eval s = .slice A n c) (hown : OI w base A n c l) (g : Nat) (z : Int) (hx : a.eval x = .slice (some ⟨g, 0, none⟩) 1 1)
    (hc : w.cell? ⟨g, 0, none⟩ = some (.int .i64 z)) (hn : n ≤ 1000000) (hbase : base ≤ w.heap.size)
    (h : ∀ A' c' w', OI w' base A' (n + 1) c' (l ++ [z]) → w.grownBy w' (blk A) → (blk A' = blk A ∨ blk A' = some w.heap.size) → wpList Try.prog ops Q rest (a.put o.dst (.slice A' (n + 1) c')) w') :
    wpList Try.prog ops Q (o :: rest) a w := by
  obtain ⟨i0, hi, hz0, hz1, hz2⟩ := info_parts infoInt
  refine wpList_append_own_at w hgd s x 22 ho base 3 i0 (.int .i64 0) 1 8 Try.underlying22 hi hz0 hz1 hz2 rfl (by decide) _ n _ hs hown ⟨g, 0, none⟩ 1 1 [.int .i64 z] hx rfl ?_ ?_ (by unfold maxLen; omega) (by omega) hbase ?_
  · intro j u hj
    match j, hj with
    | 0, hj =>
      simp at hj
      subst hj
      simpa [Addr.add] using hc
  · intro u hu
    simp at hu
    subst hu
    rfl
  · intro v' w' h1 h2 h3 h4
    obtain ⟨A', c', rfl⟩ := own_shape h1
    rw [blk_own] at h2
    rw [blk_own, blk_own] at h4
    refine h A' c' w' ?_ h2 h4
    unfold OI
    rw [List.map_append]
    exact h1

theorem run_app_nil (w : World) (base : Nat) (ty : TypeId) (A : Option Addr) (n c : Nat) (l : List Int) (hown : OI w base A n c l) (d : Nat) :
    (Builtin.append_ #[22, 22] ty #[.slice A n c, .slice none 0 d]).run Try.prog w = .ok (.slice A n c) w := by
  obtain ⟨i0, hi, hz0, hz1, hz2⟩ := info_parts infoInt
  rcases hown.2 with ⟨e, h0⟩ | ⟨g, cap, cur, e, _, _, hnc, _⟩
  · rw [e]
    simp [Builtin.append_, run_underlying Try.underlying22, sizeOf, typeInfo, hi, Builtin.lenOf, Builtin.firstCells]
  · rw [e]
    simp [Builtin.append_, run_underlying Try.underlying22, sizeOf, typeInfo, hi, Builtin.lenOf, Builtin.firstCells, hnc, storeCells]

/-- 'append(s, xs...)', xs a slice of ints that reads, nil and empty ones among them -/
theorem run_appN (w : World) (base : Nat) (ty : TypeId) (A : Option Addr) (n c : Nat) (l : List Int) (hown : OI w base A n c l) (B : Option Addr) (m d : Nat) (l2 : List Int) (hr : RI w B m l2)
    (hn : n + m ≤ 1000000) (hbase : base ≤ w.heap.size) :
    ∃ A' c' w', (Builtin.append_ #[22, 22] ty #[.slice A n c, .slice B m d]).run Try.prog w = .ok (.slice A' (n + m) c') w' ∧ OI w' base A' (n + m) c' (l ++ l2) ∧ w.grownBy w' (blk A) ∧ (blk A' = blk A ∨ blk A' = some w.heap.size) := by
  obtain ⟨i0, hi, hz0, hz1, hz2⟩ := info_parts infoInt
  cases B with
  | none =>
    have hm : m = 0 := by
      rcases Nat.eq_zero_or_pos m with h0 | h0
      · exact h0
      · obtain ⟨b, off, e, _⟩ := hr.2 h0
        cases e
    subst hm
    have hl2 : l2 = [] := List.eq_nil_of_length_eq_zero hr.1
    subst hl2
    refine ⟨A, c, w, run_app_nil w base ty A n c l hown d, by simpa using hown, World.grownBy.refl w _, .inl rfl⟩
  | some ad =>
    have hcells : ∀ j u, (l2.map (Value.int .i64))[j]? = some u → w.cell? (ad.add j) = some u := by
      intro j u hu
      have hj : j < m := by
        rw [← hr.1]
        have := (List.getElem?_eq_some_iff.1 hu).1
        simpa using this
      obtain ⟨b, off, e, _, hc⟩ := hr.2 (by omega)
      injection e with e
      subst e
      rw [Go.WideShapes.add_plain, hc j hj, ← hu, List.getElem?_map, List.getElem?_eq_getElem (by have := hr.1; omega)]
      simp [List.getD_eq_getElem?_getD, List.getElem?_eq_getElem (show j < l2.length by have := hr.1; omega)]
    obtain ⟨v', w', hrun, h1, h2, _, h4⟩ := run_append_own_at (P := Try.prog) w base 22 ty 3 i0 (.int .i64 0) 1 8 Try.underlying22 hi hz0 hz1 hz2 rfl (by decide) _ n _ hown ad m d (l2.map (Value.int .i64)) (by simp [hr.1]) hcells
      (by intro u hu; obtain ⟨z, _, rfl⟩ := List.mem_map.1 hu; rfl) (by unfold maxLen; omega) (by omega) hbase
    obtain ⟨A', c', rfl⟩ := own_shape h1
    rw [blk_own] at h2
    rw [blk_own, blk_own] at h4
    refine ⟨A', c', w', hrun, ?_, h2, h4⟩
    unfold OI
    rw [List.map_append]
    exact h1

theorem wpList_appN {w : World} (hgd : o.guard = none) (s x : Operand) (ho : o.op = .call { callee := .builtin .append, args := #[s, x], argTypes := #[22, 22] })
    (base : Nat) (A : Option Addr) (n c : Nat) (l : List Int) (hs : a.eval s = .slice A n c) (hown : OI w base A n c l) (B : Option Addr) (m d : Nat) (l2 : List Int) (hx : a.eval x = .slice B m d) (hr : RI w B m l2)
    (hn : n + m ≤ 1000000) (hbase : base ≤ w.heap.size)
    (h : ∀ A' c' w', OI w' base A' (n + m) c' (l ++ l2) → w.grownBy w' (blk A) → (blk A' = blk A ∨ blk A' = some w.heap.size) → wpList Try.prog ops Q rest (a.put o.dst (.slice A' (n + m) c')) w') :
    wpList Try.prog ops Q (o :: rest) a w := by
  refine wpList_plain hgd fun K hK => ?_
  obtain ⟨A', c', w', hrun, h1, h2, h3⟩ := run_appN w base o.type A n c l hown B m d l2 hr hn hbase
  unfold Oper.wp execOp
  simp only [ho, resolve, invoke, builtin, Sem.run_bind, Sem.run_pure, Result.andThen_ok, List.map_toArray, List.map_cons, List.map_nil, hs, hx, hrun]
  exact hK _ _ (h A' c' w' h1 h2 h3)

/-- the same as one step of a region that draws its order -/
theorem step_appN {w : World} {K : Act → World → Prop} {E : Prop} (hw : Region.wanted o (yielded ops a.tmps) = true) (s x : Operand) (ho : o.op = .call { callee := .builtin .append, args := #[s, x], argTypes := #[22, 22] })
    (base : Nat) (A : Option Addr) (n c : Nat) (l : List Int) (hs : a.eval s = .slice A n c) (hown : OI w base A n c l) (B : Option Addr) (m d : Nat) (l2 : List Int) (hx : a.eval x = .slice B m d) (hr : RI w B m l2)
    (hn : n + m ≤ 1000000) (hbase : base ≤ w.heap.size)
    (h : ∀ A' c' w', OI w' base A' (n + m) c' (l ++ l2) → w.grownBy w' (blk A) → (blk A' = blk A ∨ blk A' = some w.heap.size) → K (a.put o.dst (.slice A' (n + m) c')) w') :
    if Region.wanted o (yielded ops a.tmps) = true then Oper.wp Try.prog o a w K Q else E := by
  rw [if_pos hw]
  obtain ⟨A', c', w', hrun, h1, h2, h3⟩ := run_appN w base o.type A n c l hown B m d l2 hr hn hbase
  unfold Oper.wp execOp
  simp only [ho, resolve, invoke, builtin, Sem.run_bind, Sem.run_pure, Result.andThen_ok, List.map_toArray, List.map_cons, List.map_nil, hs, hx, hrun]
  exact h A' c' w' h1 h2 h3
end
end Go.Proofs.Ytpaemnambphldaa
