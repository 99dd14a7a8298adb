/-
  The plain machine, sixth part: regions that draw their order and whose operations turn objects (picks of a reader, appends that use up their row).
-/
import Derived.Test.YtionljjdfgeggaaDen5
namespace Go.Proofs.Ytionljjdfgeggaa
open Go.RowKit
set_option linter.unusedVariables false
set_option linter.unusedSimpArgs false

/-- what a pick gives -/
def pickV (bs : List Int) (p : Nat) (n : Int) : Int :=
  if n < 1 ∨ bs.length = 0 then 0
  else if p < bs.length then bs.getD p 0 % n
  else bits .xor .i64 (bs.getD (p % bs.length) 0 * 131 + bs.getD ((p * 7 + 3) % bs.length) 0 * 1117 + (p : Int) * 29 + ((p / bs.length : Nat) : Int) * 53)
    ((bs.getD (p % bs.length) 0 * 131 + bs.getD ((p * 7 + 3) % bs.length) 0 * 1117 + (p : Int) * 29 + ((p / bs.length : Nat) : Int) * 53) / 64) % n
theorem pickV_nn (bs : List Int) (p : Nat) (n : Int) : 0 ≤ pickV bs p n := by
  unfold pickV
  split
  · exact Int.le_refl _
  · split <;> exact Int.emod_nonneg _ (by omega)
theorem pickV_lt (bs : List Int) (p : Nat) {n : Int} (h : 1 ≤ n) : pickV bs p n < n := by
  unfold pickV
  split
  · omega
  · split <;> exact Int.emod_lt_of_pos _ (by omega)
structure DPick (P : Program) (f : FuncId) : Prop where
  ent : ∀ args w, (callFunc f args).run P w = .ok (.enter f args) w
  calls : ∀ (w : World) (r : Loc) (gr : Nat) (A : Option Addr) (bs : List Int) (p : Nat) (n : Int), gr < w.heap.size → ORel w r (.rdr gr A bs p) → p ≤ 1000000 → n ≤ 1000000 →
    Calls P f #[.pointer (some ⟨gr, 0, none⟩), .int .i64 n] w (fun e w' => e = .returned (.int .i64 (pickV bs p n)) ∧ ORel w' r (.rdr gr A bs (p + 1)) ∧ w.grownBy w' (some gr))

abbrev Up := Option (Nat × Option DO)
def updG : Up → DG → DG
  | none, G => G
  | some (i, o), G => fun j => if i = j then o else G j
def dropL (id : Nat) : DH → DH
  | [] => []
  | (k, o) :: H => bif Nat.beq k id then dropL id H else (k, o) :: dropL id H
def updL : Up → DH → DH
  | none, H => H
  | some (i, some o), H => (i, o) :: H
  | some (i, none), H => dropL i H
theorem lk_dropL (id : Nat) : ∀ (H : DH) (j : Nat), lk (dropL id H) j = if id = j then none else lk H j
  | [], j => by simp [dropL, lk]
  | (k, o) :: H, j => by
    have ih := lk_dropL id H j
    unfold dropL
    by_cases e : k = id
    · subst e
      rw [Nat.beq_refl]
      simp only [cond_true]
      rw [ih, lk_cons]
      by_cases e' : k = j
      · simp [e']
      · simp [e']
    · have : Nat.beq k id = false := by
        cases hb : Nat.beq k id
        · rfl
        · exact absurd (Nat.eq_of_beq_eq_true hb) e
      rw [this]
      simp only [cond_false]
      rw [lk_cons, ih, lk_cons]
      by_cases e' : k = j
      · subst e'; simp [Ne.symm e]
      · simp [e']
theorem lk_updL (u : Up) (H : DH) : lk (updL u H) = updG u (lk H) := by
  cases u with
  | none => rfl
  | some p =>
    obtain ⟨i, o⟩ := p
    cases o with
    | none => funext j; exact lk_dropL i H j
    | some o => funext j; exact lk_cons i o H j

/-- one step that may turn one object -/
inductive MStep (τ : List (Nat × TK)) (E : Env) (pk : FuncId) (ev : Operand → Option DV) (gt : DG) (nid : Nat) : Op → DV → List DO → Up → Prop
  | g {op : Op} {v : DV} {news : List DO} (h : GStep τ E ev gt nid op v news) : MStep τ E pk ev gt nid op v news none
  | pick {x y : Operand} {ts : Array TypeId} {id p : Nat} {gr : Nat} {A : Option Addr} {bs : List Int} {n : Int} (hx : ev x = some (.ptr id 0)) (hy : ev y = some (.val (.int .i64 n))) (hg : gt id = some (.rdr gr A bs p)) (hp : p ≤ 1000000) (hn : n ≤ 1000000) :
      MStep τ E pk ev gt nid (.call { callee := .value (.func pk), args := #[x, y], argTypes := ts }) (.val (.int .i64 (pickV bs p n))) [] (some (id, some (.rdr gr A bs (p + 1))))
  | app {s x : Operand} {ts e : TypeId} {k : TK} {id id2 off n m sz : Nat} {o2 : DO} {xs ys : List Int} (ht : lk τ ts = some (.sl e)) (he : lk τ e = some k) (hk : k.esz = some sz)
      (hs : ev s = some (.sl id 0 n)) (hg : gt id = some (.row e sz xs)) (hl : xs.length = n * sz) (hx : ev x = some (.sl id2 off m)) (hg2 : gt id2 = some o2) (hkd : o2.kind = .i64) (hsz : o2.sz = sz) (hne : id ≠ id2) (hn : n + m ≤ 1000000)
      (hys : (o2.cells.drop (off * sz)).take (m * sz) = ys) :
      MStep τ E pk ev gt nid (.call { callee := .builtin .append, args := #[s, x], argTypes := #[ts, ts] }) (.sl nid 0 (n + m)) [.row e sz (xs ++ ys)] (some (id, none))

def NextM (C : Ctx) (G : DG) (ρ : Nat → Loc) (nid : Nat) (v : DV) (news : List DO) (u : Up) (K : Value → World → Prop) : Prop :=
  ∀ ρ' v' w', HRel C (addN nid news (updG u G)) ρ' w' → VRel ρ' (addN nid news (updG u G)) v v' → (∀ x y, (∀ k, k < news.length → nid + 1000 * k ∉ DV.ids x) → VRel ρ G x y → VRel ρ' (addN nid news (updG u G)) x y) → K v' w'

/-- an object is turned in its own block -/
theorem HRel.turn {C : Ctx} {G : DG} {ρ : Nat → Loc} {w w' : World} (h : HRel C G ρ w) {id g : Nat} {o o' : DO} (hg : G id = some o) (ho : o.own = true) (hblk : (ρ id).blk = some g) (hgr : w.grownBy w' (some g)) (hn : ORel w' (ρ id) o') : HRel C (hup G id o') ρ w' := by
  constructor
  · intro i o1 h'
    unfold hup at h'
    by_cases e' : id = i
    · subst e'; rw [if_pos rfl] at h'; obtain rfl := Option.some.inj h'; exact hn
    · rw [if_neg e'] at h'
      refine (h.obj i o1 h').congr fun g' hg' => hgr.block g' (h.inn i o1 g' h' hg') ?_
      intro e''
      injection e'' with e''
      subst e''
      exact h.sep id i o o1 _ e' hg h' ho hblk hg'
  · intro i o1 g' h' hg'
    unfold hup at h'
    by_cases e' : id = i
    · subst e'; exact Nat.lt_of_lt_of_le (h.inn id o g' hg hg') hgr.size
    · rw [if_neg e'] at h'; exact Nat.lt_of_lt_of_le (h.inn i o1 g' h' hg') hgr.size
  · intro i i' o1 o2 g' hne h1 h2 ho1 hb
    unfold hup at h1 h2
    by_cases e1 : id = i
    · subst e1
      rw [if_neg hne] at h2
      exact h.sep id i' o o2 g' hne hg h2 ho hb
    · rw [if_neg e1] at h1
      by_cases e2 : id = i'
      · subst e2; exact h.sep i id o1 o g' hne h1 hg ho1 hb
      · rw [if_neg e2] at h2; exact h.sep i i' o1 o2 g' hne h1 h2 ho1 hb
  · intro i o1 g' h' ho' hb
    unfold hup at h'
    by_cases e' : id = i
    · subst e'; exact h.old id o g' hg ho hb
    · rw [if_neg e'] at h'; exact h.old i o1 g' h' ho' hb
  · refine ⟨hgr.os.trans h.fr.os, hgr.tape.trans h.fr.tape, hgr.output.trans h.fr.output, Nat.le_trans h.fr.size hgr.size, fun k hk hx => ?_⟩
    rw [hgr.block k (Nat.lt_of_lt_of_le hk h.fr.size) (by
      intro e'
      injection e' with e'
      subst e'
      rcases h.old id o _ hg ho hblk with h1 | h1
      · omega
      · exact hx h1)]
    exact h.fr.block k hk hx

/-- a row is put into another block, or grows in its own; it gets a new name -/
theorem HRel.rename {C : Ctx} {G : DG} {ρ : Nat → Loc} {w w' : World} (h : HRel C G ρ w) {id nid : Nat} {o o' : DO} {r : Loc} (hg : G id = some o) (ho : o.own = true) (hgr : w.grownBy w' (ρ id).blk) (hrb : r.b = none) (hn : ORel w' r o') (hlt : ∀ g, r.blk = some g → g < w'.heap.size)
    (hnew : ∀ g, r.blk = some g → (ρ id).blk = some g ∨ w.heap.size ≤ g) : HRel C (hup (updG (some (id, none)) G) nid o') (up ρ nid r) w' := by
  have hfootR : ∀ g, Foot r g → r.blk = some g := fun g hg => hg.resolve_right (by rw [hrb]; simp)
  have hdrop : ∀ i o1, i ≠ nid → hup (updG (some (id, none)) G) nid o' i = some o1 → i ≠ id ∧ G i = some o1 := by
    intro i o1 hi h'
    unfold hup at h'
    rw [if_neg (Ne.symm hi)] at h'
    simp only [updG] at h'
    by_cases e : id = i
    · rw [if_pos e] at h'; cases h'
    · rw [if_neg e] at h'; exact ⟨Ne.symm e, h'⟩
  have hkeep : ∀ i o1, i ≠ id → G i = some o1 → ∀ g, Foot (ρ i) g → w'.heap[g]? = w.heap[g]? := by
    intro i o1 hi ho1 g hgf
    refine hgr.block g (h.inn i o1 g ho1 hgf) ?_
    intro e'
    exact h.sep id i o o1 g (Ne.symm hi) hg ho1 ho e'.symm hgf
  constructor
  · intro i o1 h'
    by_cases e' : i = nid
    · subst e'; rw [hup_same] at h'; obtain rfl := Option.some.inj h'; rw [up_same]; exact hn
    · obtain ⟨h1, h2⟩ := hdrop i o1 e' h'
      rw [up_ne _ _ e']
      exact (h.obj i o1 h2).congr (hkeep i o1 h1 h2)
  · intro i o1 g h' hg'
    by_cases e' : i = nid
    · subst e'; rw [up_same] at hg'; exact hlt g (hfootR g hg')
    · obtain ⟨h1, h2⟩ := hdrop i o1 e' h'
      rw [up_ne _ _ e'] at hg'
      exact Nat.lt_of_lt_of_le (h.inn i o1 g h2 hg') hgr.size
  · intro i i' o1 o2 g hne h1 h2 ho1 hb hf
    by_cases e' : i = nid
    · subst e'
      obtain ⟨k1, k2⟩ := hdrop i' o2 (Ne.symm hne) h2
      rw [up_same] at hb
      rw [up_ne _ _ (Ne.symm hne)] at hf
      rcases hnew g hb with h3 | h3
      · exact h.sep id i' o o2 g (Ne.symm k1) hg k2 ho h3 hf
      · have := h.inn i' o2 g k2 hf; omega
    · obtain ⟨j1, j2⟩ := hdrop i o1 e' h1
      rw [up_ne _ _ e'] at hb
      by_cases e'' : i' = nid
      · subst e''
        rw [up_same] at hf
        rcases hnew g (hfootR g hf) with h3 | h3
        · exact h.sep id i o o1 g (Ne.symm j1) hg j2 ho h3 (.inl hb)
        · have := h.inn i o1 g j2 (.inl hb); omega
      · obtain ⟨k1, k2⟩ := hdrop i' o2 e'' h2
        rw [up_ne _ _ e''] at hf
        exact h.sep i i' o1 o2 g hne j2 k2 ho1 hb hf
  · intro i o1 g h' ho' hb
    by_cases e' : i = nid
    · subst e'
      rw [up_same] at hb
      rcases hnew g hb with h3 | h3
      · exact h.old id o g hg ho h3
      · exact .inl (Nat.le_trans h.fr.size h3)
    · obtain ⟨h1, h2⟩ := hdrop i o1 e' h'
      rw [up_ne _ _ e'] at hb
      exact h.old i o1 g h2 ho' hb
  · refine ⟨hgr.os.trans h.fr.os, hgr.tape.trans h.fr.tape, hgr.output.trans h.fr.output, Nat.le_trans h.fr.size hgr.size, fun k' hk' hx' => ?_⟩
    rw [hgr.block k' (Nat.lt_of_lt_of_le hk' h.fr.size) (by
      intro e'
      rcases h.old id o k' hg ho e'.symm with h1 | h1
      · omega
      · exact hx' h1)]
    exact h.fr.block k' hk' hx'

theorem SlRel.turn {r : Loc} {o o' : DO} {off len : Nat} {v : Value} (h : SlRel r o off len v) (e1 : o'.sz = o.sz) (e2 : o'.isRow = o.isRow) (e3 : o.cells.length ≤ o'.cells.length) : SlRel r o' off len v := by
  obtain ⟨A, c, h1, h2, h3, h4, h5, h6, h7⟩ := h
  exact ⟨A, c, h1, h2, h3, by rw [e1]; exact h4, by rw [e2]; exact h5, by rw [e1]; exact Nat.le_trans h6 e3, by rw [e1]; exact h7⟩
theorem TCRel.turn {ρ : Nat → Loc} {G : DG} {id : Nat} {o o' : DO} (hg : G id = some o) (e1 : o'.sz = o.sz) (e2 : o'.isRow = o.isRow) (e3 : o.cells.length ≤ o'.cells.length) {c : TC} {y : Value} (h : TCRel ρ G c y) : TCRel ρ (hup G id o') c y := by
  cases c with
  | v x => exact h
  | s i n =>
    intro o1 ho1
    unfold hup at ho1
    by_cases e : id = i
    · subst e; rw [if_pos rfl] at ho1; obtain rfl := Option.some.inj ho1; exact (h o hg).turn e1 e2 e3
    · rw [if_neg e] at ho1; exact h o1 ho1
theorem VRel.turn {ρ : Nat → Loc} {G : DG} {id : Nat} {o o' : DO} (hg : G id = some o) (e1 : o'.sz = o.sz) (e2 : o'.isRow = o.isRow) (e3 : o.cells.length ≤ o'.cells.length) {d : DV} {y : Value} (h : VRel ρ G d y) : VRel ρ (hup G id o') d y := by
  cases d with
  | val x => exact h
  | sl i off n =>
    intro o1 ho1
    unfold hup at ho1
    by_cases e : id = i
    · subst e; rw [if_pos rfl] at ho1; obtain rfl := Option.some.inj ho1; exact (h o hg).turn e1 e2 e3
    · rw [if_neg e] at ho1; exact h o1 ho1
  | ptr i off =>
    intro o1 ho1
    unfold hup at ho1
    by_cases e : id = i
    · subst e; exact h o hg
    · rw [if_neg e] at ho1; exact h o1 ho1
  | tup l =>
    obtain ⟨vs, e, hl', hv⟩ := h
    exact ⟨vs, e, hl', fun i c x hc hx => (hv i c x hc hx).turn hg e1 e2 e3⟩

section
variable {P : Program} {τ : List (Nat × TK)} {E : Env} {pk : FuncId} {C : Ctx} {ev : Operand → Option DV} {G : DG} {ρ : Nat → Loc} {a : Act} {w : World} {nid : Nat}
theorem M_sound (hτ : TyOK P τ) (hE : EnvOK P E) (hpk : DPick P pk) (hH : HRel C G ρ w) {o : Oper} {v : DV} {news : List DO} {u : Up} (hev : ∀ x ∈ o.op.operands.toList, ∀ d, ev x = some d → VRel ρ G d (a.eval x))
    (hg : MStep τ E pk ev G nid o.op v news u) {K : Act → World → Prop} {Q : Exit → Act → World → Prop} (hK : NextM C G ρ nid v news u (fun v' w' => K (a.put o.dst v') w')) : o.wp P a w K Q := by
  generalize hop : o.op = op at hg hev
  cases hg with
  | g h =>
    refine G_sound hτ hE hH (ev := ev) (nid := nid) (a := a) (by rw [hop]; exact hev) (by rw [hop]; exact h) ?_
    intro ρ' v' w' h1 h2 h3 _
    refine hK ρ' v' w' h1 h2 fun x y hx hv => hv.congr fun id hid => .inr ?_
    have := h3 id (fun k hk e => hx k hk (e ▸ hid))
    exact ⟨this.2, this.1⟩
  | @pick x y ts id p g A bs n hx hy hg hp hn =>
    obtain ⟨b, f, e1, e2⟩ := hev x (by simp [Op.operands, Call.operands]) _ hx _ hg
    have e3 : a.eval y = .int .i64 n := hev y (by simp [Op.operands, Call.operands]) _ hy
    obtain ⟨t, c, r1, r2, r3⟩ := hH.obj id _ hg
    have e4 := e1
    rw [r1] at e4; injection e4 with e4; injection e4 with q1 q2; subst q1 q2
    have hblk : (ρ id).blk = some g := by simp [Loc.blk, r1]
    have hlt : g < w.heap.size := hH.inn id _ g hg (.inl hblk)
    have hc := hpk.calls w (ρ id) g A bs p n hlt (hH.obj id _ hg) hp hn
    unfold Oper.wp
    have e2' : a.eval x = .pointer (some ⟨g, 0, none⟩) := by simpa using e2
    have hrun : (execOp a.eval o).run P w = .ok (.enter pk #[.pointer (some ⟨g, 0, none⟩), .int .i64 n]) w := by
      unfold execOp
      simp [hop, resolve, show a.eval (.func pk) = .func (.func pk) #[] #[] from rfl, Deferred.ofValue, invoke, hpk.ent, e2', e3]
    rw [hrun]
    refine hc.mono ?_
    rintro e w' ⟨rfl, hO, hgr⟩
    exact hK ρ _ w' (hH.turn hg rfl hblk hgr hO) rfl (fun x y _ hv => hv.turn (o' := .rdr g A bs (p + 1)) hg rfl rfl (Nat.le_refl _))
  | @app s x ts e k id id2 off n m sz o2 xs ys ht he hk hs hg hl hx hg2 hkd hsz hne hn hys =>
    have hel := ty_elem hτ he hk
    have hsz0 : 0 < sz := by rcases hel.szs with h | h <;> omega
    obtain ⟨A, c, e1, b1, b2, b3, b4, b5, _⟩ := hev s (by simp [Op.operands, Call.operands]) (.sl id 0 n) hs _ hg
    obtain ⟨A2, c2, e2, d1, d2, d3, d4, d5, _⟩ := hev x (by simp [Op.operands, Call.operands]) (.sl id2 off m) hx _ hg2
    obtain ⟨rfl, rfl⟩ := b4 rfl rfl
    obtain ⟨n', hown⟩ := hH.obj id _ hg
    have hn' : n' = n := by
      have h1 : xs.length = n' * sz := by simpa using hown.1
      rw [hl] at h1
      exact (Nat.eq_of_mul_eq_mul_right hsz0 h1).symm
    subst hn'
    have hylen : ys.length = m * sz := by
      rw [← hys, List.length_take, List.length_drop]
      rw [hsz, Nat.add_mul] at d5
      omega
    have hread : 0 < ys.length → ∃ b f, A2 = some ⟨b, f, none⟩ ∧ ∀ j, j < ys.length → w.cell? ⟨b, f + j, none⟩ = some (.int .i64 (ys.getD j 0)) := by
      intro h0
      have hm0 : 0 < m := by
        rcases Nat.eq_zero_or_pos m with e' | e'
        · rw [e'] at hylen; omega
        · exact e'
      obtain ⟨b, f, r1, r2⟩ := d3 hm0
      refine ⟨b, f + off * sz, by rw [r2, hsz], fun j hj => ?_⟩
      obtain ⟨b', f', r3, hc⟩ := (hH.obj id2 o2 hg2).cell (off * sz + j) (by rw [hsz, Nat.add_mul] at d5; omega)
      rw [r1] at r3; injection r3 with r3; injection r3 with r4 r5; subst r4 r5
      rw [Nat.add_assoc, hc, hkd, ← hys]
      congr 2
      rw [hylen] at hj
      simp [List.getD_eq_getElem?_getD, hj, List.getElem?_drop]
    obtain ⟨A', c', w', hrun, hown', hgr, hblk⟩ := run_app (P := P) (hτ ts _ ht) hel w o.type (ρ id).a n' (ρ id).cap xs hown A2 m c2 ys hylen hread (fun h0 => by rw [hylen]; exact Nat.mul_pos h0 hsz0) hn
    obtain ⟨_, bd1, bd2, bd3, bd4⟩ := own_bounds hown'
    have hrun' : (execOp a.eval o).run P w = .ok (.value (.slice A' (n' + m) c')) w' := by
      unfold execOp
      simp only [hop, resolve, invoke, builtin, Sem.run_bind, Sem.run_pure, Result.andThen_ok, List.map_toArray, List.map_cons, List.map_nil, e1, e2, hrun]
    refine wp_value hrun' ?_
    have hR := hH.rename (id := id) (nid := nid) (o := .row e sz xs) (o' := .row e sz (xs ++ ys)) (r := ⟨A', c', none⟩) hg rfl hgr rfl ⟨n' + m, hown'⟩ (fun g hg' => (bd4 g hg').2) (fun g hg' => by
      rcases hblk with h1 | h1
      · left; rw [Loc.blk, ← h1]; exact hg'
      · right
        have hg'' : A'.map (·.block) = some g := hg'
        rw [h1] at hg''; injection hg'' with hg''; omega)
    refine hK _ _ w' hR ?_ ?_
    · intro o' ho'
      have ho'' : hup (updG (some (id, none)) G) nid (.row e sz (xs ++ ys)) nid = some o' := ho'
      rw [hup_same] at ho''
      obtain rfl := Option.some.inj ho''
      rw [up_same]
      refine ⟨A', c', rfl, bd1, bd2, fun h0 => ?_, fun _ _ => ⟨rfl, rfl⟩, ?_, hsz0⟩
      · obtain ⟨g, hA⟩ := bd3 h0
        exact ⟨g, 0, hA, by rw [hA]; simp⟩
      · simp only [DO.sz, DO.cells, List.length_append, hl, hylen, Nat.zero_add, Nat.add_mul]
        exact Nat.le_refl _
    · intro x y hx hv
      refine hv.congr fun j hj => ?_
      have hjn : nid ≠ j := fun e' => hx 0 (by simp) (by simpa [e'] using hj)
      have key : addN nid [.row e sz (xs ++ ys)] (updG (some (id, none)) G) j = if id = j then none else G j := hup_ne _ _ hjn
      rw [key]
      by_cases e' : id = j
      · left; rw [if_pos e']
      · right; rw [if_neg e']
        exact ⟨rfl, up_ne _ _ (Ne.symm hjn)⟩
end
end Go.Proofs.Ytionljjdfgeggaa
