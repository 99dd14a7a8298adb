/-
  The plain machine: one pair is inserted into a row of the call's own; operands that hold functions; steps whose value is known from the operands.
-/
import Derived.Test.YtionljjdfgeggaaDenC
namespace Go.Proofs.Ytionljjdfgeggaa
open Go.RowKit
set_option linter.unusedVariables false
set_option linter.unusedSimpArgs false
/-- what Insert hands back -/
def RetIns (w : World) (r : Loc) (e : TypeId) (xs : List Int) (en : Ending) (w' : World) : Prop := ∃ A' n' c', en = .returned (.slice A' n' c') ∧ w'.ownsRow 0 e 2 (.slice A' n' c') n' (xs.map (Value.int .i64)) ∧ w.grownBy w' r.blk ∧ (A'.map (·.block) = r.blk ∨ ∃ b, A'.map (·.block) = some b ∧ w.heap.size ≤ b)
structure DIns (P : Program) (f : FuncId) (e : TypeId) : Prop where
  ent : ∀ args w, (callFunc f args).run P w = .ok (.enter f args) w
  calls : ∀ (w : World) (r r2 : Loc) (n i : Nat) (xs : List Int) (y z : Int), xs.length = n * 2 → n ≤ 100000 → 0 < n → i ≤ n → ORel w r (.row e 2 xs) → ORel w r2 (.row e 2 [y, z]) → (∀ g, r.blk = some g → r2.blk ≠ some g) →
    Calls P f #[.slice r.a n r.cap, .int .i64 (i : Int), .slice r2.a 1 r2.cap] w (RetIns w r e (xs.take (i * 2) ++ [y, z] ++ xs.drop (i * 2)))
theorem flat_ins (c : List (Int × Int)) (i : Nat) (y z : Int) : (flat c).take (i * 2) ++ [y, z] ++ (flat c).drop (i * 2) = flat (c.take i ++ (y, z) :: c.drop i) := by
  have h : flat (c.take i) ++ flat (c.drop i) = flat c := by rw [← flat_app, List.take_append_drop]
  have h1 : (flat c).take (i * 2) = flat (c.take i) := flat_take c i
  have h2 : (flat c).drop (i * 2) = flat (c.drop i) := by
    have h3 := List.take_append_drop (i * 2) (flat c)
    rw [h1] at h3
    exact List.append_cancel_left (h3.trans h.symm)
  rw [h1, h2, flat_app, List.append_assoc]
  rfl
section
variable {P : Program} {C : Ctx} {N : Nat} {QD : Exit → DT → DH → Prop} {T : DT} {H : DH} {ops : Array Oper} {o : Oper} {l : List Oper} {d : Nat} {τ : List (Nat × TK)} {E : Env}
theorem DL.ins {s xi v : Operand} {ts : Array TypeId} {f : FuncId} {e : TypeId} {id id2 n i : Nat} {zi : Int} {c : List (Int × Int)} {y z : Int} {H' : DH} (hf : DIns P f e) (ho : o.op = .call { callee := .value (.func f), args := #[s, xi, v], argTypes := ts }) (hgd : o.guard = none) (hd : o.dst = some d) (hN : Nat.blt d N = true) (hfr : freshB d 1 T = true)
    (hx : ev T s = some (.sl id 0 n)) (hg : lk H id = some (.row e 2 (flat c))) (hxi : ev T xi = some (.val (.int .i64 zi))) (hxv : ev T v = some (.sl id2 0 1)) (hg2 : lk H id2 = some (.row e 2 (flat [(y, z)]))) (hne : Nat.beq id id2 = false) (hH : dropL id H = H')
    (hl : c.length = n) (hn0 : 0 < n) (hnb : n ≤ 100000) (hz : zi = (i : Int)) (hi : i ≤ n)
    (h : DL P C N ops QD l ((d, .sl d 0 (n + 1)) :: T) ((d, .row e 2 (flat (c.take i ++ (y, z) :: c.drop i))) :: H')) : DL P C N ops QD (o :: l) T H := by
  subst hH
  subst hz
  intro a w ⟨ρ, hs⟩
  obtain ⟨A, cc, e1, b1, b2, b3, b4, b5, b6⟩ := hs.ev s (.sl id 0 n) (by rw [← ev_eq]; exact hx) _ hg
  obtain ⟨rfl, rfl⟩ := b4 rfl rfl
  obtain ⟨A2, cc2, e2, _, _, _, d4, _, _⟩ := hs.ev v (.sl id2 0 1) (by rw [← ev_eq]; exact hxv) _ hg2
  obtain ⟨rfl, rfl⟩ := d4 rfl rfl
  have e3 : a.eval xi = .int .i64 (i : Int) := hs.ev xi (.val (.int .i64 (i : Int))) (by rw [← ev_eq]; exact hxi)
  have hneq : id ≠ id2 := fun e => by rw [e, Nat.beq_refl] at hne; cases hne
  have hO := hs.heap.obj id _ hg
  have hc := hf.calls w ⟨(ρ id).a, (ρ id).cap, none⟩ ⟨(ρ id2).a, (ρ id2).cap, none⟩ n i (flat c) y z (by rw [flat_len, hl]) hnb hn0 hi hO (hs.heap.obj id2 _ hg2) (fun g hgb hgb2 => hs.heap.sep id id2 _ _ g hneq hg hg2 rfl hgb (.inl hgb2))
  rw [flat_ins] at hc
  refine wpList_plain hgd fun K' hK => ?_
  unfold Oper.wp
  have hrun : (execOp a.eval o).run P w = .ok (.enter f #[.slice (ρ id).a n (ρ id).cap, .int .i64 (i : Int), .slice (ρ id2).a 1 (ρ id2).cap]) w := by
    unfold execOp
    simp [ho, resolve, show a.eval (.func f) = .func (.func f) #[] #[] from rfl, Deferred.ofValue, invoke, hf.ent, e1, e2, e3]
  rw [hrun]
  refine hc.mono ?_
  rintro en w' ⟨A', n2, c', rfl, hown, hgr, hblk⟩
  have hlen : (flat (c.take i ++ (y, z) :: c.drop i)).length = (n + 1) * 2 := by rw [flat_len]; simp; omega
  have hn2 : n2 = n + 1 := by
    have h1 : (flat (c.take i ++ (y, z) :: c.drop i)).length = n2 * 2 := by simpa using hown.1
    omega
  subst hn2
  obtain ⟨_, bd1, bd2, bd3, bd4⟩ := own_bounds hown
  rw [hd]
  have hR := hs.heap.rename (id := id) (nid := d) (o := .row e 2 (flat c)) (o' := .row e 2 (flat (c.take i ++ (y, z) :: c.drop i))) (r := ⟨A', c', none⟩) hg rfl hgr rfl ⟨n + 1, hown⟩ (fun g hg' => (bd4 g hg').2) (fun g hg' => by
    have hg'' : A'.map (·.block) = some g := hg'
    rcases hblk with h1 | ⟨b, h1, h2⟩
    · left; rw [h1] at hg''; exact hg''
    · right; rw [h1] at hg''; injection hg'' with hg''; omega)
  refine hK _ _ (h _ _ ⟨up ρ d ⟨A', c', none⟩, ?_⟩)
  rw [lk_tup, lk_hup, show lk (dropL id H) = updG (some (id, none)) (lk H) from lk_updL (some (id, none)) H]
  refine hs.stepM (u := some (id, none)) (news := [.row e 2 (flat (c.take i ++ (y, z) :: c.drop i))]) (v := .sl d 0 (n + 1)) (Nat.le_of_ble_eq_true hN) (fresh_of hfr) hR ?_ ?_
  · intro o' ho'
    have ho'' : hup (updG (some (id, none)) (lk H)) d (.row e 2 (flat (c.take i ++ (y, z) :: c.drop i))) d = some o' := ho'
    rw [hup_same] at ho''
    obtain rfl := Option.some.inj ho''
    rw [up_same]
    refine ⟨A', c', rfl, bd1, bd2, fun h0 => ?_, fun _ _ => ⟨rfl, rfl⟩, ?_, (by show 0 < 2; omega)⟩
    · obtain ⟨g, hA⟩ := bd3 h0
      exact ⟨g, 0, hA, by rw [hA]; simp⟩
    · simp only [DO.sz, DO.cells, hlen, Nat.zero_add]
      exact Nat.le_refl _
  · intro x y' hx hv
    refine hv.congr fun j hj => ?_
    have hjn : d ≠ j := fun e' => hx 0 (by simp) (by simpa [e'] using hj)
    have key : addN d [.row e 2 (flat (c.take i ++ (y, z) :: c.drop i))] (updG (some (id, none)) (lk H)) j = if id = j then none else lk H j := hup_ne _ _ hjn
    rw [key]
    by_cases e' : id = j
    · left; rw [if_pos e']
    · right; rw [if_neg e']
      exact ⟨rfl, up_ne _ _ (Ne.symm hjn)⟩
/-- an operation told otherwise -/
theorem DL.swap {op' : Op} (he : ∀ (a : Act), (∀ x v, ev T x = some (.val v) → a.eval x = v) → execOp a.eval o = execOp a.eval { o with op := op' }) (h : DL P C N ops QD ({ o with op := op' } :: l) T H) : DL P C N ops QD (o :: l) T H := by
  intro a w hs
  have h1 := h a w hs
  obtain ⟨ρ, hr⟩ := hs
  have h2 := he a fun x v hx => hr.ev x (.val v) (by rw [← ev_eq]; exact hx)
  unfold wpList at h1 ⊢
  have e1 : Region.wanted { o with op := op' } (yielded ops a.tmps) = Region.wanted o (yielded ops a.tmps) := rfl
  have e3 : Oper.wp P { o with op := op' } a w (wpList P ops (Lift C N QD) l) (Lift C N QD) = Oper.wp P o a w (wpList P ops (Lift C N QD) l) (Lift C N QD) := by
    unfold Oper.wp
    rw [← h2]
    rfl
  have e2 : Oper.asks P { o with op := op' } a w = Oper.asks P o a w := by
    unfold Oper.asks
    rw [← h2]
  rw [e1, e2, e3] at h1
  exact h1
/-- a step of which the value is known from the operands -/
theorem DL.raw {v : Value} (hw : wants ops (lk T) o = some true) (hd : o.dst = some d) (hN : Nat.blt d N = true)
    (hr : ∀ (a : Act) (w : World), (∀ x v, ev T x = some (.val v) → a.eval x = v) → (execOp a.eval o).run P w = .ok (.value v) w)
    (h : DL P C N ops QD l ((d, .val v) :: T) H) : DL P C N ops QD (o :: l) T H := by
  intro a w ⟨ρ, hs⟩
  have hwn := wants_ok (ops := ops) hs hw
  have h2 := hr a w fun x v hx => hs.ev x (.val v) (by rw [← ev_eq]; exact hx)
  unfold wpList
  rw [if_pos hwn]
  refine .inl ?_
  unfold Oper.wp
  rw [h2]
  show wpList P ops (Lift C N QD) l (a.put o.dst v) w
  rw [hd]
  refine h _ _ ⟨ρ, ?_⟩
  rw [lk_tup]
  exact hs.step (P := P) (v := .val v) (news := []) (Nat.le_of_ble_eq_true hN) (fun _ _ _ _ k hk => absurd hk (by simp)) hs.heap rfl (fun _ _ => ⟨rfl, rfl⟩)
theorem DL.swapF {t : Operand} {f : FuncId} {args : Array Operand} {ts : Array TypeId} (ho : o.op = .call { callee := .value t, args := args, argTypes := ts }) (ht : ev T t = some (.val (.func (.func f) #[] #[])))
    (h : DL P C N ops QD ({ o with op := .call { callee := .value (.func f), args := args, argTypes := ts } } :: l) T H) : DL P C N ops QD (o :: l) T H := by
  refine DL.swap (op' := .call { callee := .value (.func f), args := args, argTypes := ts }) (fun a hx => ?_) h
  have h1 := hx t _ ht
  unfold execOp
  rw [ho]
  simp only [resolve, h1, show a.eval (.func f) = .func (.func f) #[] #[] from rfl]
end
/-- conversions between int and uint, and a half -/
theorem conv_raw {P : Program} {o : Oper} {a : Act} {w : World} {s d : TypeId} {x : Operand} {ds : TypeDesc} {k k0 : IntKind} {n m : Int} (ho : o.op = .convert s d x) (hs : P.underlying s = some ds) (hd : P.underlying d = some (.int k)) (hx : a.eval x = .int k0 n) (hm : k.wrap n = m) : (execOp a.eval o).run P w = .ok (.value (.int k m)) w := by
  unfold execOp
  subst hm
  simp [ho, hx, convert, run_underlying' hs, run_underlying' hd, Conv.intToInt]
theorem half_raw {P : Program} {o : Oper} {a : Act} {w : World} {t t' : TypeId} {x y : Operand} {n : Int} (ho : o.op = .binOp .shr t x y t') (hx : a.eval x = .int .u64 n) (hy : a.eval y = .int .u64 1) (h0 : 0 ≤ n) (h1 : n < 18446744073709551616) : (execOp a.eval o).run P w = .ok (.value (.int .u64 (n / 2))) w := by
  unfold execOp
  have e : n.fdiv (2 ^ 1) = n / 2 := by rw [Int.fdiv_eq_ediv_of_nonneg _ (by omega)]; rfl
  have e2 : min 1 IntKind.u64.bits = 1 := by decide
  simp [ho, hx, hy, eqGuard, binOp, Op.shift, e2]
  exact e
end Go.Proofs.Ytionljjdfgeggaa
