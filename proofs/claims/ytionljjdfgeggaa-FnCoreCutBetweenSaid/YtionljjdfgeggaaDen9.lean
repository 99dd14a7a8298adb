/-
  The plain machine, ninth part: readers opened, functions that draw from a reader, functions that turn a row of the caller's, functions that use one up.
-/
import Derived.Test.YtionljjdfgeggaaDen8
namespace Go.Proofs.Ytionljjdfgeggaa
open Go.RowKit
set_option linter.unusedVariables false
set_option linter.unusedSimpArgs false

/-- a new object that may look into the block of another that is only read -/
theorem HRel.addR {C : Ctx} {G : DG} {ρ : Nat → Loc} {w : World} (h : HRel C G ρ w) (id : Nat) (o : DO) (r : Loc) (ho : ORel w r o) (hi : ∀ g, Foot r g → g < w.heap.size)
    (hs1 : ∀ id' o' g, id' ≠ id → G id' = some o' → r.blk = some g → ¬ Foot (ρ id') g) (hs2 : ∀ id' o' g, id' ≠ id → G id' = some o' → o'.own = true → (ρ id').blk = some g → ¬ Foot r g) (hold : ∀ g, r.blk = some g → C.w0.heap.size ≤ g ∨ g ∈ C.X) : HRel C (hup G id o) (up ρ id r) w where
  obj i o' h' := by
    unfold hup at h'
    by_cases e : id = i
    · subst e; rw [if_pos rfl] at h'; obtain rfl := Option.some.inj h'; rw [up_same]; exact ho
    · rw [if_neg e] at h'; rw [up_ne _ _ (Ne.symm e)]; exact h.obj i o' h'
  inn i o' g h' hg := by
    unfold hup at h'
    by_cases e : id = i
    · subst e; rw [up_same] at hg; exact hi g hg
    · rw [if_neg e] at h'; rw [up_ne _ _ (Ne.symm e)] at hg; exact h.inn i o' g h' hg
  sep i i' o1 o2 g hne h1 h2 hown hg hf := by
    unfold hup at h1 h2
    by_cases e : id = i
    · subst e
      rw [if_neg hne] at h2
      rw [up_same] at hg
      rw [up_ne _ _ (Ne.symm hne)] at hf
      exact hs1 i' o2 g (Ne.symm hne) h2 hg hf
    · rw [if_neg e] at h1
      rw [up_ne _ _ (Ne.symm e)] at hg
      by_cases e' : id = i'
      · subst e'
        rw [up_same] at hf
        exact hs2 i o1 g (Ne.symm e) h1 hown hg hf
      · rw [if_neg e'] at h2
        rw [up_ne _ _ (Ne.symm e')] at hf
        exact h.sep i i' o1 o2 g hne h1 h2 hown hg hf
  old i o' g h' hown hg := by
    unfold hup at h'
    by_cases e : id = i
    · subst e; rw [up_same] at hg; exact hold g hg
    · rw [if_neg e] at h'; rw [up_ne _ _ (Ne.symm e)] at hg; exact h.old i o' g h' hown hg
  fr := h.fr

structure DOpen (P : Program) (f : FuncId) : Prop where
  ent : ∀ args w, (callFunc f args).run P w = .ok (.enter f args) w
  calls : ∀ (w : World) (A : Option Addr) (n c : Nat), (0 < n → ∃ b off, A = some ⟨b, off, none⟩) → n ≤ c → c ≤ 9223372036854775807 →
    Calls P f #[.slice A n c] w (fun e w' => ∃ t c', e = .returned (.pointer (some ⟨w.heap.size, 0, none⟩)) ∧ w' = w.alloc (.cells #[.slice A (min n 2000) c', .int .i64 0] t))
/-- a function that draws from a reader: at most K picks, the result is one of R -/
structure DRd (P : Program) (f : FuncId) (K : Nat) (R : RD → Prop) : Prop where
  ent : ∀ args w, (callFunc f args).run P w = .ok (.enter f args) w
  calls : ∀ (w : World) (r : Loc) (gr : Nat) (A : Option Addr) (bs : List Int) (p : Nat), (∀ g, Foot r g → g < w.heap.size) → ORel w r (.rdr gr A bs p) → p ≤ 100000 →
    Calls P f #[.pointer (some ⟨gr, 0, none⟩)] w (fun e w' => ∃ y rd p', R rd ∧ p' ≤ p + K ∧ e = .returned y ∧ w.grownBy w' (some gr) ∧ ORel w' r (.rdr gr A bs p') ∧ RDRel w.heap.size w' rd y)
/-- a function that turns a row of the caller's in place -/
structure DMut (P : Program) (f : FuncId) (sz : Nat) (g : List Int → List Value → Option (Value × List Int)) : Prop where
  ent : ∀ args w, (callFunc f args).run P w = .ok (.enter f args) w
  calls : ∀ (w : World) (r : Loc) (e : TypeId) (n : Nat) (xs : List Int) (vs : List Value) (y : Value) (xs' : List Int), xs.length = n * sz → 0 < sz → (∀ b, Foot r b → b < w.heap.size) → r.b = none → ORel w r (.row e sz xs) → g xs vs = some (y, xs') →
    Calls P f (.slice r.a n r.cap :: vs).toArray w (fun en w' => en = .returned y ∧ ORel w' r (.row e sz xs') ∧ w.grownBy w' r.blk) ∧ xs'.length = xs.length
/-- a function that uses up a row of the caller's and hands it back turned -/
structure DCons (P : Program) (f : FuncId) (e : TypeId) (sz : Nat) (g : List Int → List Value → Option (List Int)) : Prop where
  ent : ∀ args w, (callFunc f args).run P w = .ok (.enter f args) w
  calls : ∀ (w : World) (r : Loc) (n : Nat) (xs : List Int) (vs : List Value) (xs' : List Int), xs.length = n * sz → (∀ b, Foot r b → b < w.heap.size) → ORel w r (.row e sz xs) → g xs vs = some xs' →
    Calls P f (.slice r.a n r.cap :: vs).toArray w (fun en w' => ∃ A' n' c', en = .returned (.slice A' n' c') ∧ w'.ownsRow 0 e sz (.slice A' n' c') n' (xs'.map (Value.int .i64)) ∧ w.grownBy w' r.blk ∧ (A'.map (·.block) = r.blk ∨ ∃ b, A'.map (·.block) = some b ∧ w.heap.size ≤ b))

def PostRd (τ : List (Nat × TK)) (rs : List ResultVar) (gr : Nat) (A : Option Addr) (bs : List Int) (p K : Nat) (R : RD → Prop) : Exit → DT → DH → Prop
  | .ret, T, H => ∃ r p', R r ∧ p' ≤ p + K ∧ lk H 0 = some (.rdr gr A bs p') ∧ RetD τ rs r T H
  | .normal, T, H => ∃ r p', R r ∧ p' ≤ p + K ∧ lk H 0 = some (.rdr gr A bs p') ∧ RetD τ rs r T H
  | _, _, _ => False
theorem FrC.grown {w w' : World} {b : Option Nat} (h : FrC ⟨w, b.toList⟩ w') : w.grownBy w' b :=
  ⟨h.os, h.tape, h.output, h.size, fun i hi hne => h.block i hi (by cases b with
    | none => simp
    | some g => simp; rintro rfl; exact hne rfl)⟩
theorem DRd.of {P : Program} {τ : List (Nat × TK)} (hτ : TyOK P τ) {f : FuncId} {fn : Func} {c : Code} {rs : List ResultVar} {N K : Nat} {R : RD → Prop} (hf : P.funcs[f]? = some fn) (hb : fn.body = some c) (hname : (fn.name == "runtime.NumGoroutine") = false) (hrs : fn.results = rs.toArray) (hN : fn.ntmps = N) (hN0 : Nat.blt 0 N = true)
    (h : ∀ (C : Ctx) (gr : Nat) (A : Option Addr) (bs : List Int) (p : Nat), p ≤ 100000 → DW P C N c (PostRd τ rs gr A bs p K R) [(0, .ptr 0 0)] [(0, .rdr gr A bs p)]) : DRd P f K R where
  ent args w := by
    have hn : ¬ fn.name = "runtime.NumGoroutine" := by simpa using hname
    simp [callFunc, hf, hb, hn]
  calls w r gr A bs p hfoot ho hp := by
    have hN0 : 0 < N := Nat.le_of_ble_eq_true hN0
    have ha : r.a = some ⟨gr, 0, none⟩ := by obtain ⟨t, c, e, _⟩ := ho; exact e
    have hblk : r.blk = some gr := by simp [Loc.blk, ha]
    refine calls_of_wp hf hb ?_
    refine wp_mono (h ⟨w, [gr]⟩ gr A bs p hp _ w ⟨fun _ => r, ⟨?_, ?_, ?_, ?_, ⟨rfl, rfl, rfl, Nat.le_refl _, fun _ _ _ => rfl⟩⟩, fun k v hk => ?_, rfl, ?_⟩) ?_
    · intro id o hid
      rw [lk_cons] at hid
      by_cases e : 0 = id
      · rw [if_pos e] at hid; cases hid; exact ho
      · rw [if_neg e] at hid; cases hid
    · intro id o g hid hg; exact hfoot g hg
    · intro id id' o o' g hne h1 h2
      exfalso
      rw [lk_cons] at h1 h2
      by_cases e : 0 = id
      · by_cases e' : 0 = id'
        · omega
        · rw [if_neg e'] at h2; cases h2
      · rw [if_neg e] at h1; cases h1
    · intro id o g hid _ hg
      right
      have hg : r.blk = some g := hg
      rw [hblk] at hg; injection hg with hg; simp [hg]
    · rw [lk_cons] at hk
      by_cases e : 0 = k
      · rw [if_pos e] at hk
        cases hk
        subst e
        intro o ho'
        rw [getD_args [Value.pointer (some ⟨gr, 0, none⟩)] _ 0 (.pointer (some ⟨gr, 0, none⟩)) rfl]
        exact ⟨gr, 0, ha, rfl⟩
      · rw [if_neg e] at hk; cases hk
    · simp; omega
    · rintro e a w' ⟨T, H, hq, ρ', hr⟩
      have key : (∃ rd p', R rd ∧ p' ≤ p + K ∧ lk H 0 = some (.rdr gr A bs p') ∧ RetD τ rs rd T H) → a.defers = [] ∧ ∃ v, (results fn a.tmps).run P w' = .ok v w' ∧ ∃ y rd p', R rd ∧ p' ≤ p + K ∧ Ending.returned v = .returned y ∧ w.grownBy w' (some gr) ∧ ORel w' r (.rdr gr A bs p') ∧ RDRel w.heap.size w' rd y := by
        rintro ⟨rd, p', hR, hp', hH, hret⟩
        obtain ⟨t2, c2, e2, q1, q2, q3, q4⟩ := hr.heap.obj 0 _ hH
        have hblk' : (ρ' 0).blk = some gr := by simp [Loc.blk, e2]
        obtain ⟨y, h3, h4⟩ := results_ok hτ hr (fun id o g h1 h2 h2' h3 => by
          rcases hr.heap.old id o g h1 h2 h3 with h5 | h5
          · exact h5
          · exfalso
            have hg : g = gr := by simpa using h5
            subst hg
            have hne : id ≠ 0 := by
              rintro rfl
              rw [hH] at h1; cases h1; cases h2'
            exact hr.heap.sep id 0 o _ g hne h1 hH h2 h3 (.inl hblk')) hrs hret
        refine ⟨hr.nd, y, h3, y, rd, p', hR, hp', rfl, FrC.grown (b := some gr) hr.heap.fr, ⟨t2, c2, ha, q1, q2, q3, fun h0 => ?_⟩, h4⟩
        obtain ⟨b, off, e3, e4, hc⟩ := q4 h0
        refine ⟨b, off, e3, ?_, hc⟩
        obtain ⟨t3, c3, _, _, _, _, q5⟩ := ho
        obtain ⟨b', off', e5, e6, _⟩ := q5 h0
        rw [e3] at e5; injection e5 with e5; injection e5 with e5 _
        rw [e6, e5]
      cases e with
      | normal => exact key hq
      | ret => exact key hq
      | exit i => exact hq.elim
      | goto l => exact hq.elim
      | panic ch => exact hq.elim
      | outgrown => exact hq.elim

/-! ## The state said anew -/
theorem sl_of {T : DT} {k id n n' : Nat} (h : lk T k = some (.sl id 0 n)) (e : n = n') : lk T k = some (.sl id 0 n') := by rw [h, e]
theorem int_of {T : DT} {k : Nat} {z z' : Int} (h : lk T k = some (.val (.int .i64 z))) (e : z = z') : lk T k = some (.val (.int .i64 z')) := by rw [h, e]
theorem row_of {H : DH} {id sz : Nat} {ty : TypeId} {l l' : List Int} (h : lk H id = some (.row ty sz l)) (e : l = l') : lk H id = some (.row ty sz l') := by rw [h, e]
theorem box_of {H : DH} {id : Nat} {ty : TypeId} {l l' : List Int} (h : lk H id = some (.box ty l)) (e : l = l') : lk H id = some (.box ty l') := by rw [h, e]
section
variable {P : Program} {C : Ctx} {N : Nat} {QD : Exit → DT → DH → Prop} {T : DT} {H : DH} {ops : Array Oper} {l : List Oper} {o : Oper} {d : Nat}
theorem DL.sp1 {τ : List (Nat × TK)} (hτ : TyOK P τ) {t e : TypeId} {x y : Operand} {id i cap : Nat} {A : Option Addr} {xs : List Int} {z : Int} (ho : o.op = .store t x y) (hgd : o.guard = none) (hd : o.dst = none) (ht : lk τ t = some .int)
    (hx : ev T x = some (.ptr id i)) (hy : ev T y = some (.val (.int .i64 z))) (hg : lk H id = some (.prow A cap e 1 xs)) (hi : i < xs.length)
    (h : DL P C N ops QD l T ((id, .prow A cap e 1 (xs.set i z)) :: H)) : DL P C N ops QD (o :: l) T H := .store1 hτ ho hgd hd ht hx hy hg rfl hi h
theorem DL.open {x : Operand} {ts : Array TypeId} {f : FuncId} {id n : Nat} {bs : List Int} (hf : DOpen P f) (ho : o.op = .call { callee := .value (.func f), args := #[x], argTypes := ts }) (hgd : o.guard = none) (hd : o.dst = some d) (hN : Nat.blt d N = true) (hfr : freshB d 1 T = true)
    (hx : ev T x = some (.sl id 0 n)) (hg : lk H id = some (.ro .u8 1 bs)) (hl : bs.length = n) (hne : Nat.beq d id = false) (hb : ∀ z ∈ bs, 0 ≤ z ∧ z ≤ 255)
    (h : ∀ gr A, DL P C N ops QD l ((d, .ptr d 0) :: T) ((d, .rdr gr A (bs.take 2000) 0) :: H)) : DL P C N ops QD (o :: l) T H := by
  intro a w ⟨ρ, hs⟩
  have hdi : d ≠ id := fun e => by rw [e, Nat.beq_refl] at hne; cases hne
  obtain ⟨A, c, e1, b1, b2, b3, _, b5, _⟩ := hs.ev x (.sl id 0 n) (by rw [← ev_eq]; exact hx) _ hg
  have hA : 0 < n → ∃ b off, A = some ⟨b, off, none⟩ ∧ (ρ id).a = some ⟨b, off, none⟩ := fun h0 => by
    obtain ⟨b, off, r1, r2⟩ := b3 h0
    exact ⟨b, off, by simpa using r2, r1⟩
  have hc := hf.calls w A n c (fun h0 => by obtain ⟨b, off, r1, _⟩ := hA h0; exact ⟨b, off, r1⟩) b1 b2
  refine wpList_plain hgd fun K hK => ?_
  unfold Oper.wp
  have hrun : (execOp a.eval o).run P w = .ok (.enter f #[.slice A n c]) w := by
    unfold execOp
    simp [ho, resolve, show a.eval (.func f) = .func (.func f) #[] #[] from rfl, Deferred.ofValue, invoke, hf.ent, e1]
  rw [hrun]
  refine hc.mono ?_
  rintro e w' ⟨t, c', rfl, rfl⟩
  have hbel : Below w.heap.size w (w.alloc (.cells #[.slice A (min n 2000) c', .int .i64 0] t)) := (Below.refl _ _).alloc (Nat.le_refl _) _
  have hH' := hs.heap.grow hbel
  rw [hd]
  refine hK _ _ (h w.heap.size A _ _ ⟨up ρ d ⟨some ⟨w.heap.size, 0, none⟩, 0, if 0 < n then A.map (·.block) else none⟩, ?_⟩)
  rw [lk_tup, lk_hup]
  have hsz : (w.alloc (.cells #[.slice A (min n 2000) c', .int .i64 0] t)).heap.size = w.heap.size + 1 := by simp
  have hfb : ∀ g, (if 0 < n then A.map (·.block) else none) = some g → (ρ id).blk = some g := by
    intro g hg'
    split at hg'
    · rename_i h0
      obtain ⟨b, off, r1, r2⟩ := hA h0
      rw [r1] at hg'
      simp [Loc.blk, r2] at hg' ⊢
      exact hg'
    · cases hg'
  have hread : ∀ j, j < bs.length → ∃ b off, A = some ⟨b, off, none⟩ ∧ b < w.heap.size ∧ w.cell? ⟨b, off + j, none⟩ = some (.int .u8 (bs.getD j 0)) := by
    intro j hj
    obtain ⟨b, off, r1, r2⟩ := hA (by omega)
    obtain ⟨b', off', r3, hcc⟩ := (hs.heap.obj id _ hg).cell j hj
    rw [r2] at r3; injection r3 with r3; injection r3 with r4 r5; subst r4 r5
    exact ⟨b, off, r1, hs.heap.inn id _ b hg (.inl (by simp [Loc.blk, r2])), hcc⟩
  have hR := hH'.addR d (.rdr w.heap.size A (bs.take 2000) 0) ⟨some ⟨w.heap.size, 0, none⟩, 0, if 0 < n then A.map (·.block) else none⟩ (by
      refine ⟨t, c', rfl, ?_, by simp; omega, fun z hz => hb z (List.mem_of_mem_take hz), fun h0 => ?_⟩
      · have : (bs.take 2000).length = min n 2000 := by simp; omega
        rw [this]
        show (w.heap.push _)[w.heap.size]? = _
        rw [Array.getElem?_push_size]
        rfl
      · have hb0 : 0 < bs.length := by simp at h0; omega
        obtain ⟨b, off, r1, r2⟩ := hA (by omega)
        refine ⟨b, off, r1, by rw [if_pos (by omega), r1]; rfl, fun j hj => ?_⟩
        have hj' : j < bs.length := by simp at hj; omega
        obtain ⟨b', off', r3, r4, r5⟩ := hread j hj'
        rw [r1] at r3; injection r3 with r3; injection r3 with r6 r7; subst r6 r7
        rw [hbel.cell (p := ⟨b, off + j, none⟩) r4, r5]
        have hj2 : j < 2000 := by simp at hj; omega
        simp [List.getD_eq_getElem?_getD, hj2]) (by
      intro g hg'
      rw [hsz]
      rcases hg' with hg' | hg'
      · simp [Loc.blk] at hg'; omega
      · have := hs.heap.inn id _ g hg (.inl (hfb g hg')); omega) (by
      intro id' o' g hne' hG hblk hf'
      have hg' : w.heap.size = g := by simpa [Loc.blk] using hblk
      have := hs.heap.inn id' o' g hG hf'; omega) (by
      intro id' o' g hne' hG hown hblk hf'
      rcases hf' with hf' | hf'
      · have hg' : w.heap.size = g := by simpa [Loc.blk] using hf'
        have := hs.heap.inn id' o' g hG (.inl hblk); omega
      · have hb' := hfb g hf'
        by_cases e : id' = id
        · subst e; rw [hg] at hG; cases hG; cases hown
        · exact hs.heap.sep id' id o' _ g e hG hg hown hblk (.inl hb')) (by
      intro g hblk
      have hg' : w.heap.size = g := by simpa [Loc.blk] using hblk
      left; rw [← hg']; exact hs.heap.fr.size)
  have := hs.step (P := P) (v := .ptr d 0) (news := [.rdr w.heap.size A (bs.take 2000) 0]) (v' := .pointer (some ⟨w.heap.size, 0, none⟩)) (Nat.le_of_ble_eq_true hN) (fresh_of hfr) hR (by
      intro o1 ho1
      have ho1' : hup (lk H) d (.rdr w.heap.size A (bs.take 2000) 0) d = some o1 := ho1
      rw [hup_same] at ho1'
      cases ho1'
      exact ⟨w.heap.size, 0, by rw [up_same], by simp⟩) (by
      intro j hj
      have hjd : j ≠ d := fun e => hj 0 (by simp) (by simpa using e)
      exact ⟨up_ne _ _ hjd, hup_ne _ _ (Ne.symm hjd)⟩)
  exact this

theorem DL.rd {x : Operand} {ts : Array TypeId} {f : FuncId} {K : Nat} {R : RD → Prop} {id gr p : Nat} {A : Option Addr} {bs : List Int} (hf : DRd P f K R) (ho : o.op = .call { callee := .value (.func f), args := #[x], argTypes := ts }) (hgd : o.guard = none) (hd : o.dst = some d) (hN : Nat.blt d N = true) (hfr : freshB d 4 T = true)
    (hx : ev T x = some (.ptr id 0)) (hg : lk H id = some (.rdr gr A bs p)) (hp : p ≤ 100000)
    (h : ∀ r p', R r → p' ≤ p + K → (resN r).length ≤ 4 ∧ DL P C N ops QD l ((d, resV d r) :: T) (addL d (resN r) ((id, .rdr gr A bs p') :: H))) : DL P C N ops QD (o :: l) T H := by
  intro a w ⟨ρ, hs⟩
  have ha : (ρ id).a = some ⟨gr, 0, none⟩ := by obtain ⟨t, c, e, _⟩ := hs.heap.obj id _ hg; exact e
  have hblk : (ρ id).blk = some gr := by simp [Loc.blk, ha]
  obtain ⟨b, f0, e1, e2⟩ := hs.ev x (.ptr id 0) (by rw [← ev_eq]; exact hx) _ hg
  rw [ha] at e1; injection e1 with e1; injection e1 with q1 q2; subst q1 q2
  have e2' : a.eval x = .pointer (some ⟨gr, 0, none⟩) := by simpa using e2
  have hc := hf.calls w (ρ id) gr A bs p (fun g hg' => hs.heap.inn id _ g hg hg') (hs.heap.obj id _ hg) hp
  refine wpList_plain hgd fun K' hK => ?_
  unfold Oper.wp
  have hrun : (execOp a.eval o).run P w = .ok (.enter f #[.pointer (some ⟨gr, 0, none⟩)]) w := by
    unfold execOp
    simp [ho, resolve, show a.eval (.func f) = .func (.func f) #[] #[] from rfl, Deferred.ofValue, invoke, hf.ent, e2']
  rw [hrun]
  refine hc.mono ?_
  rintro e w' ⟨y, r, p', hR, hp', rfl, hgr, hO, hrel⟩
  obtain ⟨hlen, hnext⟩ := h r p' hR hp'
  have hH' : HRel C (hup (lk H) id (.rdr gr A bs p')) ρ w' := hs.heap.turn hg rfl hblk hgr hO
  have hfresh : Fresh (lk T) d (resN r).length := fun x v hx hne k hk => fresh_of hfr x v hx hne k (by omega)
  have hinn : ∀ i o' g, hup (lk H) id (.rdr gr A bs p') i = some o' → Foot (ρ i) g → g < w.heap.size := by
    intro i o' g h' hg'
    unfold hup at h'
    by_cases e : id = i
    · subst e; exact hs.heap.inn id _ g hg hg'
    · rw [if_neg e] at h'; exact hs.heap.inn i o' g h' hg'
  have fin : ∀ (ρ' : Nat → Loc), HRel C (addN d (resN r) (hup (lk H) id (.rdr gr A bs p'))) ρ' w' → VRel ρ' (addN d (resN r) (hup (lk H) id (.rdr gr A bs p'))) (resV d r) y →
      (∀ i, (∀ k, k < (resN r).length → i ≠ d + 1000 * k) → ρ' i = ρ i ∧ addN d (resN r) (hup (lk H) id (.rdr gr A bs p')) i = hup (lk H) id (.rdr gr A bs p') i) → K' (a.put o.dst y) w' := by
    intro ρ' h1 h2 h3
    rw [hd]
    refine hK _ _ (hnext _ _ ⟨ρ', ?_⟩)
    rw [lk_tup, lk_addL, lk_hup]
    refine hs.stepM (u := some (id, some (.rdr gr A bs p'))) (Nat.le_of_ble_eq_true hN) hfresh h1 h2 ?_
    intro x y' hx' hv
    have hv2 : VRel ρ (hup (lk H) id (.rdr gr A bs p')) x y' := hv.turn (o' := .rdr gr A bs p') hg rfl rfl (Nat.le_refl _)
    refine hv2.congr fun i hi => .inr ?_
    have := h3 i (fun k hk e => hx' k hk (e ▸ hi))
    exact ⟨this.2, this.1⟩
  cases r with
  | one c =>
    have hh := add_rows (C := C) (w := w') (base := w.heap.size) hs.heap.fr.size [c] [y] d _ ρ hH' (fun i o' g ho' hg' => .inl (hinn i o' g ho' hg')) ⟨hrel, trivial⟩ (by simp [SepV])
    obtain ⟨ρ', h1, h2, h3⟩ := hh
    cases c with
    | v x => exact fin ρ' h1 h3.1 h2
    | row e sz n l => exact fin ρ' h1 h3.1 h2
  | tup l =>
    obtain ⟨vs, rfl, hl, hsep⟩ := hrel
    obtain ⟨ρ', h1, h2, h3⟩ := add_rows (C := C) (w := w') (base := w.heap.size) hs.heap.fr.size l vs d _ ρ hH' (fun i o' g ho' hg' => .inl (hinn i o' g ho' hg')) hl hsep
    exact fin ρ' h1 ⟨vs, rfl, (All2.length h3).symm, tcs_get _ _ h3⟩ h2

/-- plain operands -/
inductive ValsOf (T : DT) : List Operand → List Value → Prop
  | nil : ValsOf T [] []
  | cons {x : Operand} {v : Value} {xs : List Operand} {vs : List Value} (h : ev T x = some (.val v)) (hs : ValsOf T xs vs) : ValsOf T (x :: xs) (v :: vs)
theorem ValsOf.eval {a : Act} {w : World} {ρ : Nat → Loc} (hs : SimR C N (lk T) (lk H) ρ a w) : ∀ {xs : List Operand} {vs : List Value}, ValsOf T xs vs → xs.map a.eval = vs
  | [], [], .nil => rfl
  | x :: xs, v :: vs, .cons h hv => by
    have e : a.eval x = v := hs.ev x (.val v) (by rw [← ev_eq]; exact h)
    rw [List.map_cons, e, ValsOf.eval hs hv]
theorem DL.mut {s : Operand} {xs : List Operand} {ts : Array TypeId} {f : FuncId} {g : List Int → List Value → Option (Value × List Int)} {id n sz : Nat} {e : TypeId} {l0 l1 : List Int} {vs : List Value} {y : Value} (hf : DMut P f sz g) (ho : o.op = .call { callee := .value (.func f), args := (s :: xs).toArray, argTypes := ts }) (hgd : o.guard = none) (hd : o.dst = some d) (hN : Nat.blt d N = true)
    (hx : ev T s = some (.sl id 0 n)) (hg : lk H id = some (.row e sz l0)) (hl : l0.length = n * sz) (hv : ValsOf T xs vs) (hr : g l0 vs = some (y, l1))
    (h : l1.length = l0.length → DL P C N ops QD l ((d, .val y) :: T) ((id, .row e sz l1) :: H)) : DL P C N ops QD (o :: l) T H := by
  intro a w ⟨ρ, hs⟩
  obtain ⟨A, c, e1, b1, b2, b3, b4, b5, b6⟩ := hs.ev s (.sl id 0 n) (by rw [← ev_eq]; exact hx) _ hg
  obtain ⟨rfl, rfl⟩ := b4 rfl rfl
  have hO := hs.heap.obj id _ hg
  have hc := hf.calls w ⟨(ρ id).a, (ρ id).cap, none⟩ e n l0 vs y l1 hl b6 (fun b hb => hs.heap.inn id _ b hg (.inl (hb.resolve_right (by simp)))) rfl hO hr
  refine wpList_plain hgd fun K' hK => ?_
  unfold Oper.wp
  have hrun : (execOp a.eval o).run P w = .ok (.enter f (.slice (ρ id).a n (ρ id).cap :: vs).toArray) w := by
    unfold execOp
    have := ValsOf.eval hs hv
    simp [ho, resolve, show a.eval (.func f) = .func (.func f) #[] #[] from rfl, Deferred.ofValue, invoke, hf.ent, e1, this]
  rw [hrun]
  refine hc.1.mono ?_
  rintro en w' ⟨rfl, hO', hgr⟩
  rw [hd]
  have hR : HRel C (hup (lk H) id (.row e sz l1)) ρ w' := by
    cases hb : (ρ id).blk with
    | some g => 
      refine hs.heap.turn hg rfl hb ?_ hO'
      have : (⟨(ρ id).a, (ρ id).cap, none⟩ : Loc).blk = some g := hb
      rw [this] at hgr; exact hgr
    | none =>
      have hb' : (⟨(ρ id).a, (ρ id).cap, none⟩ : Loc).blk = none := hb
      rw [hb'] at hgr
      have hbel : Below w.heap.size w w' := ⟨hgr.os, hgr.tape, hgr.output, hgr.size, fun k hk => hgr.block k hk (by simp)⟩
      have := hs.heap.grow hbel
      constructor
      · intro i o1 h'
        unfold hup at h'
        by_cases e' : id = i
        · subst e'; rw [if_pos rfl] at h'; obtain rfl := Option.some.inj h'; exact hO'
        · rw [if_neg e'] at h'; exact this.obj i o1 h'
      · intro i o1 g' h' hg'
        unfold hup at h'
        by_cases e' : id = i
        · subst e'; exact this.inn id _ g' hg hg'
        · rw [if_neg e'] at h'; exact this.inn i o1 g' h' hg'
      · intro i i' o1 o2 g' hne h1 h2 ho1 hbb
        unfold hup at h1 h2
        by_cases e1 : id = i
        · subst e1; rw [hb] at hbb; cases hbb
        · rw [if_neg e1] at h1
          by_cases e2 : id = i'
          · subst e2; exact this.sep i id o1 _ g' hne h1 hg ho1 hbb
          · rw [if_neg e2] at h2; exact this.sep i i' o1 o2 g' hne h1 h2 ho1 hbb
      · intro i o1 g' h' ho' hbb
        unfold hup at h'
        by_cases e' : id = i
        · subst e'; rw [hb] at hbb; cases hbb
        · rw [if_neg e'] at h'; exact this.old i o1 g' h' ho' hbb
      · exact this.fr
  refine hK _ _ (h hc.2 _ _ ⟨ρ, ?_⟩)
  rw [lk_tup, lk_hup]
  exact hs.stepM (u := some (id, some (.row e sz l1))) (news := []) (v := .val y) (Nat.le_of_ble_eq_true hN) (fun _ _ _ _ k hk => absurd hk (by simp)) hR rfl (fun x y' _ hv => hv.turn (o' := .row e sz l1) hg rfl rfl (by simp [DO.cells, hc.2]))

theorem DL.cons {s : Operand} {xs : List Operand} {ts : Array TypeId} {f : FuncId} {e : TypeId} {sz : Nat} {g : List Int → List Value → Option (List Int)} {id n n' : Nat} {l0 l1 : List Int} {vs : List Value} {H' : DH} (hf : DCons P f e sz g) (ho : o.op = .call { callee := .value (.func f), args := (s :: xs).toArray, argTypes := ts }) (hgd : o.guard = none) (hd : o.dst = some d) (hN : Nat.blt d N = true) (hfr : freshB d 1 T = true)
    (hx : ev T s = some (.sl id 0 n)) (hg : lk H id = some (.row e sz l0)) (hl : l0.length = n * sz) (hv : ValsOf T xs vs) (hr : g l0 vs = some l1) (hn : l1.length = n' * sz) (hH : dropL id H = H')
    (h : DL P C N ops QD l ((d, .sl d 0 n') :: T) ((d, .row e sz l1) :: H')) : DL P C N ops QD (o :: l) T H := by
  subst hH
  intro a w ⟨ρ, hs⟩
  obtain ⟨A, c, e1, b1, b2, b3, b4, b5, b6⟩ := hs.ev s (.sl id 0 n) (by rw [← ev_eq]; exact hx) _ hg
  obtain ⟨rfl, rfl⟩ := b4 rfl rfl
  have b6 : 0 < sz := b6
  have hO := hs.heap.obj id _ hg
  have hc := hf.calls w ⟨(ρ id).a, (ρ id).cap, none⟩ n l0 vs l1 hl (fun b hb => hs.heap.inn id _ b hg (.inl (hb.resolve_right (by simp)))) hO hr
  refine wpList_plain hgd fun K' hK => ?_
  unfold Oper.wp
  have hrun : (execOp a.eval o).run P w = .ok (.enter f (.slice (ρ id).a n (ρ id).cap :: vs).toArray) w := by
    unfold execOp
    have := ValsOf.eval hs hv
    simp [ho, resolve, show a.eval (.func f) = .func (.func f) #[] #[] from rfl, Deferred.ofValue, invoke, hf.ent, e1, this]
  rw [hrun]
  refine hc.mono ?_
  rintro en w' ⟨A', n2, c', rfl, hown, hgr, hblk⟩
  have hn2 : n2 = n' := by
    have h1 : l1.length = n2 * sz := by simpa using hown.1
    rw [hn] at h1
    exact (Nat.eq_of_mul_eq_mul_right b6 h1).symm
  subst hn2
  obtain ⟨_, bd1, bd2, bd3, bd4⟩ := own_bounds hown
  rw [hd]
  have hR := hs.heap.rename (id := id) (nid := d) (o := .row e sz l0) (o' := .row e sz l1) (r := ⟨A', c', none⟩) hg rfl hgr rfl ⟨n2, hown⟩ (fun g hg' => (bd4 g hg').2) (fun g hg' => by
    have hg'' : A'.map (·.block) = some g := hg'
    rcases hblk with h1 | ⟨b, h1, h2⟩
    · left; rw [h1] at hg''; exact hg''
    · right; rw [h1] at hg''; injection hg'' with hg''; omega)
  refine hK _ _ (h _ _ ⟨up ρ d ⟨A', c', none⟩, ?_⟩)
  rw [lk_tup, lk_hup, show lk (dropL id H) = updG (some (id, none)) (lk H) from lk_updL (some (id, none)) H]
  refine hs.stepM (u := some (id, none)) (news := [.row e sz l1]) (v := .sl d 0 n2) (Nat.le_of_ble_eq_true hN) (fresh_of hfr) hR ?_ ?_
  · intro o' ho'
    have ho'' : hup (updG (some (id, none)) (lk H)) d (.row e sz l1) d = some o' := ho'
    rw [hup_same] at ho''
    obtain rfl := Option.some.inj ho''
    rw [up_same]
    refine ⟨A', c', rfl, bd1, bd2, fun h0 => ?_, fun _ _ => ⟨rfl, rfl⟩, ?_, b6⟩
    · obtain ⟨g, hA⟩ := bd3 h0
      exact ⟨g, 0, hA, by rw [hA]; simp⟩
    · simp only [DO.sz, DO.cells, hn, Nat.zero_add]
      exact Nat.le_refl _
  · intro x y hx hv
    refine hv.congr fun j hj => ?_
    have hjn : d ≠ j := fun e' => hx 0 (by simp) (by simpa [e'] using hj)
    have key : addN d [.row e sz l1] (updG (some (id, none)) (lk H)) j = if id = j then none else lk H j := hup_ne _ _ hjn
    rw [key]
    by_cases e' : id = j
    · left; rw [if_pos e']
    · right; rw [if_neg e']
      exact ⟨rfl, up_ne _ _ (Ne.symm hjn)⟩
end

/-! ## Functions that turn a row, walked -/
def initV : Nat → List Value → DT
  | _, [] => []
  | i, x :: r => (i, .val x) :: initV (i + 1) r
theorem initV_lk : ∀ (vs : List Value) (i k : Nat) (v : DV), lk (initV i vs) k = some v → i ≤ k ∧ ∃ x, v = .val x ∧ vs[k - i]? = some x
  | [], i, k, v, h => by cases h
  | x :: vs, i, k, v, h => by
    simp only [initV] at h
    rw [lk_cons] at h
    by_cases e : i = k
    · rw [if_pos e] at h; cases h; subst e; exact ⟨Nat.le_refl _, x, rfl, by simp⟩
    · rw [if_neg e] at h
      obtain ⟨h1, y, h2, h3⟩ := initV_lk vs (i + 1) k v h
      refine ⟨by omega, y, h2, ?_⟩
      rw [show k - i = (k - (i + 1)) + 1 from by omega]
      simpa using h3
def PostMut (τ : List (Nat × TK)) (rs : List ResultVar) (A : Option Addr) (cap : Nat) (e : TypeId) (sz : Nat) (y : Value) (xs' : List Int) : Exit → DT → DH → Prop
  | .ret, T, H => lk H 0 = some (.prow A cap e sz xs') ∧ RetD τ rs (.one (.v y)) T H
  | .normal, T, H => lk H 0 = some (.prow A cap e sz xs') ∧ RetD τ rs (.one (.v y)) T H
  | _, _, _ => False
theorem DMut.of {P : Program} {τ : List (Nat × TK)} (hτ : TyOK P τ) {f : FuncId} {fn : Func} {c : Code} {rs : List ResultVar} {N sz : Nat} {g : List Int → List Value → Option (Value × List Int)} (hf : P.funcs[f]? = some fn) (hb : fn.body = some c) (hname : (fn.name == "runtime.NumGoroutine") = false) (hrs : fn.results = rs.toArray) (hN : fn.ntmps = N)
    (h : ∀ (C : Ctx) (A : Option Addr) (cap n : Nat) (e : TypeId) (xs : List Int) (vs : List Value) (y : Value) (xs' : List Int), g xs vs = some (y, xs') → xs.length = n * sz → 0 < sz → n ≤ 9223372036854775807 →
      vs.length + 1 ≤ N ∧ xs'.length = xs.length ∧ DW P C N c (PostMut τ rs A cap e sz y xs') ((0, .sl 0 0 n) :: initV 1 vs) [(0, .prow A cap e sz xs)]) : DMut P f sz g where
  ent args w := by
    have hn : ¬ fn.name = "runtime.NumGoroutine" := by simpa using hname
    simp [callFunc, hf, hb, hn]
  calls w r e n xs vs y xs' hl hsz hfoot hrb hO hg := by
    obtain ⟨n0, hown⟩ := id hO
    have hn0 : n0 = n := by
      have h1 : xs.length = n0 * sz := by simpa using hown.1
      rw [hl] at h1
      exact (Nat.eq_of_mul_eq_mul_right hsz h1).symm
    subst hn0
    obtain ⟨_, bd1, bd2, bd3, bd4⟩ := own_bounds hown
    have hW := h ⟨w, r.blk.toList⟩ r.a r.cap n0 e xs vs y xs' hg hl hsz (by omega)
    refine ⟨?_, hW.2.1⟩
    refine calls_of_wp hf hb ?_
    refine wp_mono (hW.2.2 _ w ⟨fun _ => r, ⟨?_, ?_, ?_, ?_, ⟨rfl, rfl, rfl, Nat.le_refl _, fun _ _ _ => rfl⟩⟩, fun k v hk => ?_, rfl, ?_⟩) ?_
    · intro id o hid
      rw [lk_cons] at hid
      by_cases e' : 0 = id
      · rw [if_pos e'] at hid; cases hid; exact ⟨rfl, rfl, hO⟩
      · rw [if_neg e'] at hid; cases hid
    · intro id o g hid hg; exact hfoot g hg
    · intro id id' o o' g hne h1 h2
      exfalso
      rw [lk_cons] at h1 h2
      by_cases e' : 0 = id
      · by_cases e'' : 0 = id'
        · omega
        · rw [if_neg e''] at h2; cases h2
      · rw [if_neg e'] at h1; cases h1
    · intro id o g hid _ hg
      right
      have hg : r.blk = some g := hg
      show g ∈ r.blk.toList
      rw [hg]; simp
    · rw [lk_cons] at hk
      by_cases e' : 0 = k
      · rw [if_pos e'] at hk
        cases hk
        subst e'
        rw [getD_args _ _ 0 (.slice r.a n0 r.cap) (by simp)]
        intro o ho'
        rw [lk_cons, if_pos rfl] at ho'
        cases ho'
        refine ⟨r.a, r.cap, rfl, bd1, bd2, fun h0 => ?_, fun _ _ => ⟨rfl, rfl⟩, by simp [DO.sz, DO.cells, hl], hsz⟩
        obtain ⟨g, hA⟩ := bd3 h0
        exact ⟨g, 0, hA, by rw [hA]; simp⟩
      · rw [if_neg e'] at hk
        obtain ⟨h1, x, rfl, h2⟩ := initV_lk vs 1 k v hk
        rw [getD_args _ _ k x (by rw [show k = (k - 1) + 1 from by omega]; simpa using h2)]
        rfl
    · have := hW.1
      simp; omega
    · rintro en a w' ⟨T, H, hq, ρ', hr⟩
      have key : lk H 0 = some (.prow r.a r.cap e sz xs') ∧ RetD τ rs (.one (.v y)) T H → a.defers = [] ∧ ∃ v, (results fn a.tmps).run P w' = .ok v w' ∧ Ending.returned v = .returned y ∧ ORel w' r (.row e sz xs') ∧ w.grownBy w' r.blk := by
        rintro ⟨hH, hret⟩
        obtain ⟨q1, q2, q3⟩ := hr.heap.obj 0 _ hH
        obtain ⟨rv, e1, hv⟩ := hret
        cases hv with
        | @v t x h1 hx =>
          have e2 : a.tmps.getD t undef = y := hr.tm t _ h1
          refine ⟨hr.nd, y, res1 (r1 := .tmp t) (by simp [resOne, e2]) (by rw [hrs, e1]), rfl, ?_, hr.heap.fr.grown⟩
          rw [q1, q2] at q3
          exact q3
        | @cell t id ty ty' x' y' h1 h2 h3 =>
          have hX : ∀ id o g, lk H id = some o → o.own = true → o.isRow = true → (ρ' id).blk = some g → w.heap.size ≤ g := by
            intro id o g h1 h2 h2' h3
            rcases hr.heap.old id o g h1 h2 h3 with h5 | h5
            · exact h5
            · exfalso
              have hg : r.blk = some g := by simpa using h5
              have hne : id ≠ 0 := by
                rintro rfl
                rw [hH] at h1; cases h1; cases h2'
              exact hr.heap.sep id 0 o _ g hne h1 hH h2 h3 (.inl (by rw [Loc.blk, q1]; exact hg))
          obtain ⟨z, h4, h5, _⟩ := rv_ok hτ hr hX (RV.cell (t := t) (ty := ty) h1 h2 h3)
          have : z = .agg #[.int .i64 x', .int .i64 y'] := h5
          refine ⟨hr.nd, z, res1 h4 (by rw [hrs, e1]), by rw [this], ?_, hr.heap.fr.grown⟩
          rw [q1, q2] at q3
          exact q3
      cases en with
      | normal => exact key hq
      | ret => exact key hq
      | exit i => exact hq.elim
      | goto l => exact hq.elim
      | panic ch => exact hq.elim
      | outgrown => exact hq.elim
end Go.Proofs.Ytionljjdfgeggaa
