/-
  The plain machine, fifth part: calls of which only a relation is known (what a draw hands back).
-/
import Derived.Test.YtionljjdfgeggaaTy
namespace Go.Proofs.Ytionljjdfgeggaa
open Go.RowKit
set_option linter.unusedVariables false
set_option linter.unusedSimpArgs false

structure DRelF (P : Program) (f : FuncId) (g : List AD → Option (RD → Prop)) : Prop where
  ent : ∀ args w, (callFunc f args).run P w = .ok (.enter f args) w
  calls : ∀ (w : World) (ds : List AD) (args : List Value) (R : RD → Prop), All2 (ARel w) ds args → g ds = some R → Calls P f args.toArray w (fun e w' => ∃ y r, R r ∧ e = .returned y ∧ Below w.heap.size w w' ∧ RDRel w.heap.size w' r y)
theorem DRelF.ofC {P : Program} {f : FuncId} {fn : Func} {c : Code} {g : List AD → Option (RD → Prop)} (hf : P.funcs[f]? = some fn) (hb : fn.body = some c) (hname : (fn.name == "runtime.NumGoroutine") = false)
    (h : ∀ (w : World) (ds : List AD) (args : List Value) (R : RD → Prop), All2 (ARel w) ds args → g ds = some R → Calls P f args.toArray w (fun e w' => ∃ y r, R r ∧ e = .returned y ∧ Below w.heap.size w w' ∧ RDRel w.heap.size w' r y)) : DRelF P f g where
  ent args w := by
    have hn : ¬ fn.name = "runtime.NumGoroutine" := by simpa using hname
    simp [callFunc, hf, hb, hn]
  calls := h
/-- a function of which the plain machine shows, from every start, that it ends in a result of the relation -/
def PostR (τ : List (Nat × TK)) (rs : List ResultVar) (R : RD → Prop) : Exit → DT → DH → Prop
  | .ret, T, H => ∃ r, R r ∧ RetD τ rs r T H
  | .normal, T, H => ∃ r, R r ∧ RetD τ rs r T H
  | _, _, _ => False
theorem DRelF.of {P : Program} {τ : List (Nat × TK)} (hτ : TyOK P τ) {f : FuncId} {fn : Func} {c : Code} {rs : List ResultVar} {N : Nat} {g : List AD → Option (RD → Prop)} (hf : P.funcs[f]? = some fn) (hb : fn.body = some c) (hname : (fn.name == "runtime.NumGoroutine") = false) (hrs : fn.results = rs.toArray) (hN : fn.ntmps = N)
    (h : ∀ (C : Ctx) (ds : List AD) (R : RD → Prop), g ds = some R → lensOK ds → ds.length ≤ N ∧ DW P C N c (PostR τ rs R) (initT 0 ds) (initH 0 ds)) : DRelF P f g where
  ent args w := by
    have hn : ¬ fn.name = "runtime.NumGoroutine" := by simpa using hname
    simp [callFunc, hf, hb, hn]
  calls w ds args R ha hg := by
    obtain ⟨hl, ρ, h1, h2⟩ := init_rel ⟨w, []⟩ w (fr_self w) ds 0 args ha
    have hlen := ha.length
    have hds := (h ⟨w, []⟩ ds R hg hl).1
    refine calls_of_wp hf hb ?_
    refine wp_mono ((h ⟨w, []⟩ ds R hg hl).2 _ w ⟨ρ, h1, fun k v hk => ?_, rfl, ?_⟩) ?_
    · obtain ⟨y, hy, hv⟩ := h2 k v hk
      rw [getD_args args _ k y (by simpa using hy)]
      exact hv
    · simp; omega
    · rintro e a w' ⟨T, H, hq, ρ', hr⟩
      have key : (∃ r, R r ∧ RetD τ rs r T H) → a.defers = [] ∧ ∃ v, (results fn a.tmps).run P w' = .ok v w' ∧ ∃ y r, R r ∧ Ending.returned v = .returned y ∧ Below w.heap.size w w' ∧ RDRel w.heap.size w' r y := by
        rintro ⟨r, hR, hret⟩
        obtain ⟨y, h3, h4⟩ := results_ok hτ hr (fun id o g h1 h2 _ h3 => by simpa using hr.heap.old id o g h1 h2 h3) hrs hret
        exact ⟨hr.nd, y, h3, y, r, hR, rfl, hr.heap.fr.below rfl, h4⟩
      cases e with
      | normal => exact key hq
      | ret => exact key hq
      | exit i => exact hq.elim
      | goto l => exact hq.elim
      | panic ch => exact hq.elim
      | outgrown => exact hq.elim

section
variable {P : Program} {C : Ctx} {N : Nat} {QD : Exit → DT → DH → Prop} {T : DT} {H : DH} {ops : Array Oper} {l : List Oper}
theorem DL.rel {o : Oper} {f : FuncId} {xs : List Operand} {ts : Array TypeId} {g : List AD → Option (RD → Prop)} {ds : List AD} {R : RD → Prop} {d : Nat} (hf : DRelF P f g) (ho : o.op = .call { callee := .value (.func f), args := xs.toArray, argTypes := ts }) (hgd : o.guard = none) (hd : o.dst = some d) (hN : Nat.blt d N = true) (hfr : freshB d 4 T = true)
    (ha : All2 (ArgOf (ev T) (lk H)) xs ds) (hr : g ds = some R) (h : ∀ r, R r → (resN r).length ≤ 4 ∧ DL P C N ops QD l ((d, resV d r) :: T) (addL d (resN r) H)) : DL P C N ops QD (o :: l) T H := by
  intro a w ⟨ρ, hs⟩
  have hargs := args_rel (a := a) (ev := ev T) hs.heap xs ds ha (fun x hx dv hdv => hs.ev x dv (by rw [← ev_eq]; exact hdv))
  have hc := hf.calls w ds _ R hargs hr
  refine wpList_plain hgd fun K hK => ?_
  unfold Oper.wp
  have hrun : (execOp a.eval o).run P w = .ok (.enter f (xs.map a.eval).toArray) w := by
    unfold execOp
    simp [ho, resolve, Act.eval, Deferred.ofValue, invoke, hf.ent]
  rw [hrun]
  refine hc.mono ?_
  rintro e w' ⟨y, r, hR, rfl, hb, hrel⟩
  obtain ⟨hlen, hnext⟩ := h r hR
  have hH' := hs.heap.grow hb
  have hfresh : Fresh (lk T) d (resN r).length := fun x v hx hne k hk => fresh_of hfr x v hx hne k (by omega)
  have fin : ∀ (ρ' : Nat → Loc), HRel C (addN d (resN r) (lk H)) ρ' w' → VRel ρ' (addN d (resN r) (lk H)) (resV d r) y → (∀ id, (∀ k, k < (resN r).length → id ≠ d + 1000 * k) → ρ' id = ρ id ∧ addN d (resN r) (lk H) id = lk H id) → K (a.put o.dst y) w' := by
    intro ρ' h1 h2 h3
    rw [hd]
    refine hK _ _ (hnext _ _ ⟨ρ', ?_⟩)
    rw [lk_tup, lk_addL]
    exact hs.step (P := P) (Nat.le_of_ble_eq_true hN) hfresh h1 h2 h3
  cases r with
  | one c =>
    have hh := add_rows (C := C) (w := w') (base := w.heap.size) hs.heap.fr.size [c] [y] d (lk H) ρ hH' (fun id o g ho hg => .inl (hs.heap.inn id o g ho hg)) ⟨hrel, trivial⟩ (by simp [SepV])
    obtain ⟨ρ', h1, h2, h3⟩ := hh
    cases c with
    | v x => exact fin ρ' h1 h3.1 h2
    | row e sz n l => exact fin ρ' h1 h3.1 h2
  | tup l =>
    obtain ⟨vs, rfl, hl, hsep⟩ := hrel
    obtain ⟨ρ', h1, h2, h3⟩ := add_rows (C := C) (w := w') (base := w.heap.size) hs.heap.fr.size l vs d (lk H) ρ hH' (fun id o g ho hg => .inl (hs.heap.inn id o g ho hg)) hl hsep
    exact fin ρ' h1 ⟨vs, rfl, (All2.length h3).symm, tcs_get _ _ h3⟩ h2
end
end Go.Proofs.Ytionljjdfgeggaa
