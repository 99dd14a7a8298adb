/-
  The plain machine, tenth part: a slice compared with nil; slices.Clone; slices.Delete off the shelf.
-/
import Derived.Test.YtpaemnambphldaaPick
import Derived.Test.YtpaemnambphldaaTy
import Derived.Lib.SliceRun
import Derived.Shelf.Lay
import Derived.Ground.Names2Prog
import Derived.Shelf.Slices.Delete
namespace Go.Proofs.Ytpaemnambphldaa
open Go.RowKit
set_option linter.unusedVariables false
set_option linter.unusedSimpArgs false
section
variable {P : Program} {C : Ctx} {N : Nat} {QD : Exit → DT → DH → Prop} {T : DT} {H : DH} {τ : List (Nat × TK)} {ops : Array Oper} {o : Oper} {l : List Oper} {d : Nat}
theorem DL.nilEq (hτ : TyOK P τ) {t t' e : TypeId} {x : Operand} {id off n : Nat} {ob : DO} (ho : o.op = .binOp .eql t x (.const (.slice none 0 0)) t') (hgd : o.guard = none) (hd : o.dst = some d) (hN : Nat.blt d N = true) (ht : lk τ t = some (.sl e)) (hx : ev T x = some (.sl id off n)) (hg : lk H id = some ob)
    (h : ∀ b : Bool, (b = true → n = 0) → DL P C N ops QD l ((d, .val (.bool b)) :: T) H) : DL P C N ops QD (o :: l) T H := by
  intro a w ⟨ρ, hs⟩
  obtain ⟨A, c, e1, b1, b2, b3, _⟩ := hs.ev x (.sl id off n) (by rw [← ev_eq]; exact hx) _ hg
  have hrun := Lib.run_eql_slice_nil (P := P) w t e A n c 0 0 (hτ t _ ht)
  have hrun' : (execOp a.eval o).run P w = .ok (.value (.bool A.isNone)) w := by
    unfold execOp
    have e2 : a.eval (.const (.slice none 0 0)) = .slice none 0 0 := rfl
    simp [ho, e1, e2, eqGuard, hrun]
  refine wpList_plain hgd fun K hK => wp_value hrun' (hK _ _ ?_)
  rw [hd]
  refine h A.isNone (fun hb => ?_) _ _ ⟨ρ, ?_⟩
  · rcases Nat.eq_zero_or_pos n with h0 | h0
    · exact h0
    · obtain ⟨b, f, _, r2⟩ := b3 h0
      rw [r2] at hb; cases hb
  · rw [lk_tup]
    exact hs.step (P := P) (v := .val (.bool A.isNone)) (news := []) (Nat.le_of_ble_eq_true hN) (fun _ _ _ _ k hk => absurd hk (by simp)) hs.heap rfl (fun _ _ => ⟨rfl, rfl⟩)
end
def gClone1 : List AD → Option RD
  | [.sl .i64 1 n l] => if n ≤ 1000000 then some (.one (.row 3 1 n l)) else none
  | _ => none
theorem clone1_d : DFun Try.prog 38 gClone1 := by
  have hE : EnvOK Try.prog [] := EnvOK.nil
  refine DFun.of tauOK (fn := Try.f38) Try.func38 rfl (by kernel_rfl) rfl rfl ?_
  intro C ds r hg hl
  unfold gClone1 at hg
  split at hg
  case h_2 => cases hg
  rename_i n l
  split at hg
  case isFalse => cases hg
  rename_i hsm
  cases hg
  refine ⟨by simp, ?_⟩
  obtain ⟨hn, hm, _⟩ := hl
  obtain rfl : n = l.length := by omega
  clear hn
  refine DW.seq ?_
  refine DW.region ?_
  refine DL.go0 tauOK hE rfl (GStep.assign rfl) rfl rfl ?_
  refine DL.nil ?_
  refine DW.sub (T' := [(0, _)]) (Sub.cons rfl Sub.nil) (Sub.refl _) ?_
  refine DW.seq ?_
  refine DW.seq ?_
  refine DW.region ?_
  refine DL.go0 tauOK hE rfl (GStep.move rfl) rfl rfl ?_
  refine DL.nilEq tauOK rfl rfl rfl rfl rfl rfl rfl ?_
  intro b hb
  refine DL.nil ?_
  refine DW.sub (T' := [(0, _), (4, _)]) (Sub.cons rfl (Sub.cons rfl Sub.nil)) (Sub.refl _) ?_
  refine DW.cond rfl (fun h1 => ?_) (fun h1 => ?_)
  · skip
    have h0 := hb h1
    obtain rfl : l = [] := List.eq_nil_of_length_eq_zero h0
    refine DW.seq ?_
    refine DW.region ?_
    refine DL.go0 tauOK hE rfl (GStep.assign rfl) rfl rfl ?_
    refine DL.nil ?_
    refine DW.sub (T' := [(2, _)]) (Sub.cons rfl Sub.nil) (Sub.refl _) ?_
    refine DW.ret ?_
    exact RetD.nl rfl (by omega)
  · skip
    refine DW.skip ?_
    have e : List.take (l.length * 1) (List.drop (0 * 1) l) = l := by simp
    refine DW.seq ?_
    refine DW.region ?_
    refine DL.go1 tauOK hE rfl (G.bs0i rfl rfl) rfl rfl rfl ?_
    refine DL.go0 tauOK hE rfl (GStep.move rfl) rfl rfl ?_
    refine DL.app tauOK [] rfl rfl rfl rfl rfl rfl rfl rfl rfl (by simp) rfl rfl rfl rfl rfl (by omega) e (Sub.nil) rfl ?_
    refine DL.go0 tauOK hE rfl (GStep.assign rfl) rfl rfl ?_
    refine DL.nil ?_
    refine DW.sub (T' := [(2, _)]) (Sub.cons rfl Sub.nil) (Sub.refl _) ?_
    refine DW.ret ?_
    rw [Nat.zero_add]
    exact RetD.s1 (l1 := l) rfl rfl (by simp) (by omega)
shelf_lay Lays2.n23 Nm2 23 at Try as Try.lays23
open Go.Shelf Go.Sort in
theorem del_row {w : World} {g cap q : Nat} {cur : Array Value} {e : TypeId} {xs ys : List Int} {n : Nat} (hh : w.heap[g]? = some (.cells cur e (0, 0))) (hc : cur.size = cap * 1) (hcap : cap ≤ maxLen) (hl : ys.length ≤ cap) (hn : n ≤ ys.length) :
    (putRow (Value.int .i64) (Sort.ahead w q) g 0 ys.toArray).ownsRow 0 e 1 (.slice (some ⟨g, 0, none⟩) n cap) n ((ys.take n).map (Value.int .i64)) := by
  refine ⟨by simp; omega, .inr ⟨g, cap, putCells (Value.int .i64) 0 ys.toArray cur, rfl, Nat.zero_le _, ?_, by omega, hcap, by simp [putCells, hc], ?_⟩⟩
  · show ((w.heap.modify g (onCells (putCells (Value.int .i64) 0 ys.toArray))))[g]? = _
    simp [Array.getElem?_modify, hh, onCells]
  · apply List.ext_getElem?
    intro j
    by_cases hj : j < n
    · have hj2 : j < ys.length := by omega
      have hj3 : j < cap := by omega
      simp [List.getElem?_take, hj, putCells, hc, hj2, hj3]
    · rw [List.getElem?_eq_none (by simp; omega), List.getElem?_eq_none (by simp; omega)]
def gDel : List Int → List Value → Option (List Int)
  | xs, [.int .i64 i, .int .i64 j] => if 0 ≤ i ∧ i < j ∧ j ≤ xs.length then some (xs.take i.toNat ++ xs.drop j.toNat) else none
  | _, _ => none
theorem gDel_eq (xs : List Int) (i j : Nat) (h : i < j) (h' : j ≤ xs.length) (zi zj : Int) (ei : zi = i) (ej : zj = j) : gDel xs [.int .i64 zi, .int .i64 zj] = some (xs.take i ++ xs.drop j) := by
  subst ei ej
  show (if 0 ≤ (i : Int) ∧ (i : Int) < (j : Int) ∧ (j : Int) ≤ xs.length then some (xs.take (i : Int).toNat ++ xs.drop (j : Int).toNat) else none) = _
  rw [if_pos (by omega)]
  rfl
theorem DCons.ofC {P : Program} {f : FuncId} {fn : Func} {c : Code} {e : TypeId} {sz : Nat} {g : List Int → List Value → Option (List Int)} (hf : P.funcs[f]? = some fn) (hb : fn.body = some c) (hname : (fn.name == "runtime.NumGoroutine") = false)
    (h : ∀ (w : World) (r : Loc) (n : Nat) (xs : List Int) (vs : List Value) (xs' : List Int), xs.length = n * sz → (∀ b, Foot r b → b < w.heap.size) → ORel w r (.row e sz xs) → g xs vs = some xs' →
      Calls P f (.slice r.a n r.cap :: vs).toArray w (fun en w' => ∃ A' n' c', en = .returned (.slice A' n' c') ∧ w'.ownsRow 0 e sz (.slice A' n' c') n' (xs'.map (Value.int .i64)) ∧ w.grownBy w' r.blk ∧ (A'.map (·.block) = r.blk ∨ ∃ b, A'.map (·.block) = some b ∧ w.heap.size ≤ b))) : DCons P f e sz g where
  ent args w := by
    have hn : ¬ fn.name = "runtime.NumGoroutine" := by simpa using hname
    simp [callFunc, hf, hb, hn]
  calls := h
open Go.Shelf Go.Sort in
theorem delete_dc : DCons Try.prog 37 3 1 gDel := by
  refine DCons.ofC Try.func37 rfl (by kernel_rfl) ?_
  intro w r n xs vs xs' hl hfoot hO hg
  unfold gDel at hg
  split at hg
  case h_2 => cases hg
  rename_i i j
  split at hg
  case isFalse => cases hg
  rename_i hij
  obtain ⟨h0, h1, h2⟩ := hij
  cases hg
  obtain ⟨i, rfl⟩ := Int.eq_ofNat_of_zero_le h0
  obtain ⟨j, rfl⟩ := Int.eq_ofNat_of_zero_le (show 0 ≤ j by omega)
  have hij : i < j := by omega
  have hj : j ≤ xs.length := by omega
  obtain ⟨n0, hown⟩ := hO
  have hn0 : n0 = n := by
    have h1 : xs.length = n0 * 1 := by simpa using hown.1
    omega
  subst hn0
  obtain rfl : n0 = xs.length := by omega
  rcases hown.2 with ⟨_, h0⟩ | ⟨g, cap, cur, e1, e2, e3, e4, e5, e6, e7⟩
  · omega
  injection e1 with e1 _ ec
  have hH : Holds (Value.int .i64) w g 0 xs.toArray := by
    intro k hk
    have hk : k < xs.length := by simpa using hk
    have hk1 : cur[k]? = some (.int .i64 xs[k]) := by
      rw [← Array.getElem?_toList]
      have h2 : (cur.toList.take (xs.length * 1))[k]? = (xs.map (Value.int .i64))[k]? := by rw [e7]
      rw [List.getElem?_take, if_pos (by omega)] at h2
      rw [h2, List.getElem?_map, List.getElem?_eq_getElem hk]
      rfl
    constructor
    · simp [World.cell?, e3, hk1, hk]
    · simp [World.frozen?, e3]
  have hmx : cap ≤ 9223372036854775807 := by unfold maxLen at e5; omega
  have hc := Any.slices_Delete_int Try.lays23 g 0 cap i j xs w hH e4 hmx (by omega) hj
  rw [e1, ec]
  refine hc.mono ?_
  rintro e w' ⟨rfl, q, rfl⟩
  have hlen : (xs.take i ++ xs.drop j ++ List.replicate (j - i) 0).length = xs.length := by simp; omega
  have hrow := del_row (q := q) (xs := xs) (ys := xs.take i ++ xs.drop j ++ List.replicate (j - i) 0) (n := xs.length - (j - i)) e3 e6 e5 (by omega) (by omega)
  refine ⟨_, _, _, rfl, ?_, ?_, .inl (by simp [Loc.blk, e1])⟩
  · have : (xs.take i ++ xs.drop j ++ List.replicate (j - i) 0).take (xs.length - (j - i)) = xs.take i ++ xs.drop j := by
      rw [List.take_append_of_le_length (by simp; omega), List.take_of_length_le (by simp; omega)]
    rw [this] at hrow
    simpa using hrow
  · refine ⟨rfl, rfl, rfl, by simp [putRow, mapBlock, Sort.ahead], fun k hk hne => ?_⟩
    have hkg : g ≠ k := by
      rintro rfl
      exact hne (by simp [Loc.blk, e1])
    show ((w.heap.modify g (onCells (putCells (Value.int .i64) 0 _))))[k]? = _
    rw [Array.getElem?_modify, if_neg hkg]
end Go.Proofs.Ytpaemnambphldaa
