/-
  The plain machine, second part: code in the order of the text, stores, appends, whole functions.
-/
import Derived.Test.YtionljjdfgeggaaDen1
namespace Go.Proofs.Ytionljjdfgeggaa
open Go.RowKit
set_option linter.unusedVariables false
set_option linter.unusedSimpArgs false
abbrev DF := Nat → Option DV
def evf (t : DF) : Operand → Option DV
  | .tmp x => t x
  | .const v => some (.val v)
  | _ => none
theorem ev_eq (T : DT) : ev T = evf (lk T) := by
  funext x
  cases x <;> rfl

structure SimR (C : Ctx) (N : Nat) (t : DF) (G : DG) (ρ : Nat → Loc) (a : Act) (w : World) : Prop where
  heap : HRel C G ρ w
  tm : ∀ x v, t x = some v → VRel ρ G v (a.tmps.getD x undef)
  nd : a.defers = []
  sz : a.tmps.size = N
def Sim (C : Ctx) (N : Nat) (T : DT) (H : DH) (a : Act) (w : World) : Prop := ∃ ρ, SimR C N (lk T) (lk H) ρ a w

def tup (t : DF) (d : Nat) (v : DV) : DF := fun x => if d = x then some v else t x
theorem lk_tup (T : DT) (d : Nat) (v : DV) : lk ((d, v) :: T) = tup (lk T) d v := by funext x; rw [lk_cons]; rfl
theorem lk_hup (H : DH) (d : Nat) (o : DO) : lk ((d, o) :: H) = hup (lk H) d o := by funext x; rw [lk_cons]; rfl
def addL : Nat → List DO → DH → DH
  | _, [], H => H
  | k, o :: os, H => addL (k + 1000) os ((k, o) :: H)
theorem lk_addL : ∀ (os : List DO) (k : Nat) (H : DH), lk (addL k os H) = addN k os (lk H)
  | [], _, _ => rfl
  | o :: os, k, H => by rw [addL, lk_addL os, lk_hup]; rfl

theorem SimR.ev {C : Ctx} {N : Nat} {t : DF} {G : DG} {ρ : Nat → Loc} {a : Act} {w : World} (h : SimR C N t G ρ a w) (x : Operand) (d : DV) (hx : evf t x = some d) : VRel ρ G d (a.eval x) := by
  cases x with
  | tmp y => exact h.tm y d hx
  | const v => simp [evf] at hx; subst hx; rfl
  | global g => cases hx
  | func f => cases hx

theorem put_get {a : Act} {N d x : Nat} {v : Value} (hs : a.tmps.size = N) (hd : d < N) : (a.put (some d) v).tmps.getD x undef = if d = x then v else a.tmps.getD x undef := by
  simp only [Act.put, Array.getD_eq_getD_getElem?]
  by_cases e : d = x
  · subst e; rw [if_pos rfl, Array.getElem?_setIfInBounds_self_of_lt (by omega)]; rfl
  · rw [if_neg e, Array.getElem?_setIfInBounds_ne e]

/-- no slot but d knows an object of the names d, d + 1000, .. -/
def Fresh (t : DF) (d n : Nat) : Prop := ∀ x v, t x = some v → x ≠ d → ∀ k, k < n → d + 1000 * k ∉ v.ids
def freshB (d : Nat) : Nat → DT → Bool
  | 0, _ => true
  | n + 1, T => T.all fun p => Nat.beq p.1 d || p.2.ids.all fun i => (List.range (n + 1)).all fun k => !Nat.beq i (d + 1000 * k)
theorem lk_mem {α : Type} {k : Nat} {v : α} : ∀ {T : List (Nat × α)}, lk T k = some v → (k, v) ∈ T
  | [], h => by cases h
  | (j, u) :: T, h => by
    rw [lk_cons] at h
    by_cases e : j = k
    · rw [if_pos e] at h; cases h; subst e; exact List.mem_cons_self ..
    · rw [if_neg e] at h; exact List.mem_cons_of_mem _ (lk_mem h)
theorem fresh_of {T : DT} {d n : Nat} (h : freshB d n T = true) : Fresh (lk T) d n := by
  intro x v hx hne k hk hid
  cases n with
  | zero => omega
  | succ n =>
    simp only [freshB, List.all_eq_true] at h
    have h1 := h (x, v) (lk_mem hx)
    simp only [Bool.or_eq_true, List.all_eq_true] at h1
    rcases h1 with h1 | h1
    · exact hne (Nat.eq_of_beq_eq_true h1)
    · have h2 := h1 _ hid k (by simpa using hk)
      have h3 : Nat.beq (d + 1000 * k) (d + 1000 * k) = true := Nat.beq_refl _
      rw [h3] at h2
      cases h2

/-- behind a step that turns nothing old -/
theorem SimR.step {P : Program} {C : Ctx} {N : Nat} {t : DF} {G : DG} {ρ : Nat → Loc} {a : Act} {w : World} (h : SimR C N t G ρ a w) {d : Nat} (hd : d < N) {v : DV} {news : List DO} (hf : Fresh t d news.length)
    {ρ' : Nat → Loc} {v' : Value} {w' : World} (h1 : HRel C (addN d news G) ρ' w') (h2 : VRel ρ' (addN d news G) v v') (h3 : ∀ id, (∀ k, k < news.length → id ≠ d + 1000 * k) → ρ' id = ρ id ∧ addN d news G id = G id) :
    SimR C N (tup t d v) (addN d news G) ρ' (a.put (some d) v') w' := by
  refine ⟨h1, fun x u hx => ?_, h.nd, by simp [Act.put, h.sz]⟩
  rw [put_get h.sz hd]
  unfold tup at hx
  by_cases e : d = x
  · rw [if_pos e] at hx ⊢
    obtain rfl := Option.some.inj hx
    exact h2
  · rw [if_neg e] at hx ⊢
    refine (h.tm x u hx).congr fun id hid => .inr ?_
    have := h3 id (fun k hk e' => hf x u hx (Ne.symm e) k hk (e' ▸ hid))
    exact ⟨this.2, this.1⟩

/-! ## The plain machine's judgements -/
def Lift (C : Ctx) (N : Nat) (QD : Exit → DT → DH → Prop) : Exit → Act → World → Prop := fun e a w => ∃ T H, QD e T H ∧ Sim C N T H a w
def DW (P : Program) (C : Ctx) (N : Nat) (c : Code) (QD : Exit → DT → DH → Prop) (T : DT) (H : DH) : Prop := ∀ a w, Sim C N T H a w → c.wp P (Lift C N QD) a w
def DL (P : Program) (C : Ctx) (N : Nat) (ops : Array Oper) (QD : Exit → DT → DH → Prop) (l : List Oper) (T : DT) (H : DH) : Prop := ∀ a w, Sim C N T H a w → wpList P ops (Lift C N QD) l a w
def Then (K : DT → DH → Prop) (QD : Exit → DT → DH → Prop) : Exit → DT → DH → Prop
  | .normal, T, H => K T H
  | e, T, H => QD e T H
def InBlock (id : Nat) (QD : Exit → DT → DH → Prop) : Exit → DT → DH → Prop
  | .exit id', T, H => if id' = id then QD .normal T H else QD (.exit id') T H
  | e, T, H => QD e T H

section
variable {P : Program} {C : Ctx} {N : Nat} {QD : Exit → DT → DH → Prop} {T : DT} {H : DH} {ops : Array Oper} {l : List Oper}
theorem DW.seq {x y : Code} (h : DW P C N x (Then (DW P C N y QD) QD) T H) : DW P C N (.seq x y) QD T H := by
  intro a w hs
  refine wp_seq (wp_mono (h a w hs) ?_)
  rintro e a' w' ⟨T', H', hq, hs'⟩
  cases e with
  | normal => exact hq a' w' hs'
  | _ => exact ⟨T', H', hq, hs'⟩
theorem DW.skip (h : QD .normal T H) : DW P C N .skip QD T H := fun a w hs => wp_skip ⟨T, H, h, hs⟩
theorem DW.ret (h : QD .ret T H) : DW P C N .ret QD T H := fun a w hs => wp_ret ⟨T, H, h, hs⟩
theorem DW.exit {id : Nat} (h : QD (.exit id) T H) : DW P C N (.exit id) QD T H := fun a w hs => wp_exit ⟨T, H, h, hs⟩
theorem DW.cond {c : Operand} {x y : Code} {b : Bool} (hc : ev T c = some (.val (.bool b))) (ht : b = true → DW P C N x QD T H) (hf : b = false → DW P C N y QD T H) : DW P C N (.cond c x y) QD T H := by
  intro a w hs
  obtain ⟨ρ, hr⟩ := id hs
  have e : a.eval c = .bool b := hr.ev c (.val (.bool b)) (by rw [← ev_eq]; exact hc)
  exact wp_cond_split e (fun h => ht h a w hs) (fun h => hf h a w hs)
theorem DW.block {i : Nat} {c : Code} (h : DW P C N c (InBlock i QD) T H) : DW P C N (.block i c) QD T H := by
  intro a w hs
  refine wp_block (wp_mono (h a w hs) ?_)
  rintro e a' w' ⟨T', H', hq, hs'⟩
  cases e with
  | exit id' =>
    simp only [InBlock] at hq
    simp only [Exit.inBlock]
    split
    · rw [if_pos ‹_›] at hq; exact ⟨T', H', hq, hs'⟩
    · rw [if_neg ‹_›] at hq; exact ⟨T', H', hq, hs'⟩
  | _ => exact ⟨T', H', hq, hs'⟩

def Sub {α : Type} (A B : List (Nat × α)) : Prop := ∀ t v, lk A t = some v → lk B t = some v
theorem Sub.nil {α : Type} {B : List (Nat × α)} : Sub [] B := fun _ _ h => by cases h
theorem Sub.cons {α : Type} {A B : List (Nat × α)} {k : Nat} {v : α} (h : lk B k = some v) (hs : Sub A B) : Sub ((k, v) :: A) B := by
  intro t u hu
  rw [lk_cons] at hu
  by_cases e : k = t
  · rw [if_pos e] at hu; cases hu; subst e; exact h
  · rw [if_neg e] at hu; exact hs t u hu
theorem Sub.refl {α : Type} (A : List (Nat × α)) : Sub A A := fun _ _ h => h
theorem Sim.sub {T' : DT} {H' : DH} {a : Act} {w : World} (h : Sim C N T H a w) (ht : Sub T' T) (hh : Sub H' H) : Sim C N T' H' a w := by
  obtain ⟨ρ, hr⟩ := h
  refine ⟨ρ, hr.heap.sub hh, fun x v hx => (hr.tm x v (ht x v hx)).congr fun id _ => ?_, hr.nd, hr.sz⟩
  cases e : lk H' id with
  | none => exact .inl rfl
  | some o => exact .inr ⟨(hh id o e).symm ▸ rfl, rfl⟩
/-- slots and objects are forgotten -/
theorem DW.sub {c : Code} {T' : DT} {H' : DH} (ht : Sub T' T) (hh : Sub H' H) (h : DW P C N c QD T' H') : DW P C N c QD T H := fun a w hs => h a w (hs.sub ht hh)
theorem DL.sub {T' : DT} {H' : DH} (ht : Sub T' T) (hh : Sub H' H) (h : DL P C N ops QD l T' H') : DL P C N ops QD l T H := fun a w hs => h a w (hs.sub ht hh)

theorem DW.loop {α : Type} (TT : α → DT) (HH : α → DH) (I : α → Prop) (μ : α → Nat) {c : Code} (x0 : α) (h0 : I x0) (hT : Sub (TT x0) T) (hH : Sub (HH x0) H)
    (round : ∀ x, I x → DW P C N c (Then (fun T' H' => ∃ y, I y ∧ μ y < μ x ∧ Sub (TT y) T' ∧ Sub (HH y) H') QD) (TT x) (HH x)) : DW P C N (.loop c) QD T H := by
  intro a w hs
  have key : ∀ n x a w, μ x = n → I x → Sim C N (TT x) (HH x) a w → (Code.loop c).wp P (Lift C N QD) a w := by
    intro n x a w hn hI hsim b k cs
    have key2 : ∀ n x a w, μ x = n → I x → Sim C N (TT x) (HH x) a w →
        ∃ e a' w', Lift C N QD e a' w' ∧ Arrives P (lone (b.at a (.code c :: .inLoop c :: k)) cs w) b k cs e a' w' := by
      intro n
      induction n using Nat.strongRecOn with
      | _ n ih =>
        intro x a w hn hI hsim
        obtain ⟨e, a₁, w₁, ⟨T1, H1, hq, hs1⟩, harr⟩ := round x hI a w hsim b (.inLoop c :: k) cs
        cases e with
        | normal =>
          obtain ⟨y, hy, hlt, ht, hh⟩ := hq
          obtain ⟨e₂, a₂, w₂, hq₂, harr₂⟩ := ih (μ y) (hn ▸ hlt) y a₁ w₁ rfl hy (hs1.sub ht hh)
          exact ⟨e₂, a₂, w₂, hq₂, .of_steps (Steps.trans harr (.one step_inLoop)) harr₂⟩
        | exit id => exact ⟨_, a₁, w₁, ⟨T1, H1, hq, hs1⟩, .pass (x := .inLoop c) rfl (fun _ _ => .inl (by simp)) harr⟩
        | goto l => exact ⟨_, a₁, w₁, ⟨T1, H1, hq, hs1⟩, .pass (x := .inLoop c) rfl (fun _ _ => .inl (by simp)) harr⟩
        | ret => exact ⟨_, a₁, w₁, ⟨T1, H1, hq, hs1⟩, .pass (x := .inLoop c) rfl (fun _ _ => .inl (by simp)) harr⟩
        | panic ch => exact ⟨_, a₁, w₁, ⟨T1, H1, hq, hs1⟩, .pass (x := .inLoop c) rfl (fun _ _ => .inl (by simp)) harr⟩
        | outgrown => exact ⟨_, a₁, w₁, ⟨T1, H1, hq, hs1⟩, .pass (x := .inLoop c) rfl (fun _ _ => .inl (by simp)) harr⟩
    obtain ⟨e, a', w', hq, harr⟩ := key2 n x a w hn hI hsim
    exact ⟨e, a', w', hq, .of_steps (.one step_loop) harr⟩
  exact key _ x0 a w rfl h0 (hs.sub hT hH)

/-! ### Regions in the order of the text -/
theorem DW.region {id : Nat} {ops : List Oper} (h : DL P C N ops.toArray QD ops T H) : DW P C N (.region id ops.toArray false) QD T H := fun a w hs => wp_region_lit (h a w hs)
theorem DL.nil (h : QD .normal T H) : DL P C N ops QD [] T H := fun a w hs => wpList_nil ⟨T, H, h, hs⟩

/-- is the operation wanted? -/
def wants (ops : Array Oper) (t : DF) (o : Oper) : Option Bool :=
  match o.guard with
  | none => some true
  | some (g, want) =>
    match (ops[g]?).bind (·.dst) with
    | none => none
    | some d => match t d with
      | some (.val (.bool b)) => some (b == want)
      | some (.val (.tuple _)) => some false
      | _ => none
theorem wants_ok {t : DF} {G : DG} {ρ : Nat → Loc} {a : Act} {w : World} (h : SimR C N t G ρ a w) {o : Oper} {b : Bool} (hw : wants ops t o = some b) : Region.wanted o (yielded ops a.tmps) = b := by
  unfold wants at hw
  unfold Region.wanted
  cases hg : o.guard with
  | none => rw [hg] at hw; exact Option.some.inj hw
  | some p =>
    obtain ⟨g, want⟩ := p
    rw [hg] at hw
    simp only at hw ⊢
    unfold yielded
    cases hd : (ops[g]?).bind (·.dst) with
    | none => rw [hd] at hw; cases hw
    | some d =>
      rw [hd] at hw
      simp only at hw
      split at hw
      · rename_i c hc
        have hv : a.tmps.getD d undef = .bool c := h.tm d _ hc
        have : a.tmps[d]? = some (.bool c) := by
          rw [Array.getD_eq_getD_getElem?] at hv
          cases e : a.tmps[d]? with
          | none => rw [e] at hv; cases hv
          | some u => rw [e] at hv; simp at hv; rw [hv]
        simp only [Option.bind_some, this]
        simpa using Option.some.inj hw
      · rename_i vs hc
        have hv : a.tmps.getD d undef = .tuple vs := h.tm d _ hc
        rw [Array.getD_eq_getD_getElem?] at hv
        rw [← Option.some.inj hw]
        cases e : a.tmps[d]? with
        | none => simp [e]
        | some u => rw [e] at hv; simp at hv; subst hv; simp [e]
      · cases hw

variable {τ : List (Nat × TK)} {E : Env}
theorem DL.step (hτ : TyOK P τ) (hE : EnvOK P E) {o : Oper} {d : Nat} {v : DV} {news : List DO} (hw : wants ops (lk T) o = some true) (hd : o.dst = some d) (hN : Nat.blt d N = true) (hf : freshB d news.length T = true)
    (hg : GStep τ E (ev T) (lk H) d o.op v news) (h : DL P C N ops QD l ((d, v) :: T) (addL d news H)) : DL P C N ops QD (o :: l) T H := by
  intro a w ⟨ρ, hr⟩
  have hwn := wants_ok (ops := ops) hr hw
  unfold wpList
  rw [if_pos hwn]
  refine .inl (G_sound hτ hE hr.heap (ev := ev T) (nid := d) (a := a) (fun x _ dv hx => hr.ev x dv (by rw [← ev_eq]; exact hx)) hg ?_)
  intro ρ' v' w' h1 h2 h3 _
  rw [hd]
  refine h _ _ ⟨ρ', ?_⟩
  rw [lk_tup, lk_addL]
  exact hr.step (P := P) (Nat.le_of_ble_eq_true hN) (fresh_of hf) h1 h2 h3
theorem DL.skip {o : Oper} {d : Nat} (hw : wants ops (lk T) o = some false) (hd : o.dst = some d) (hN : Nat.blt d N = true) (h : DL P C N ops QD l ((d, .val undef) :: T) H) : DL P C N ops QD (o :: l) T H := by
  intro a w ⟨ρ, hr⟩
  have hwn := wants_ok (ops := ops) hr hw
  unfold wpList
  rw [if_neg (by rw [hwn]; simp), hd]
  refine h _ _ ⟨ρ, ?_⟩
  rw [lk_tup]
  have := hr.step (P := P) (d := d) (v := .val undef) (news := []) (Nat.le_of_ble_eq_true hN) (fun _ _ _ _ k hk => absurd hk (by simp)) (ρ' := ρ) (v' := undef) (w' := w) hr.heap rfl (fun id _ => ⟨rfl, rfl⟩)
  exact this
end
/-! ## Steps that turn objects of the call's own -/
def DO.put : DO → List Int → DO
  | .ro k s _, l => .ro k s l
  | .row e s _, l => .row e s l
  | .box t _, l => .box t l
  | .rdr g A b p, _ => .rdr g A b p
  | .prow A c e s _, l => .prow A c e s l

theorem own_set {w : World} {r : Loc} {o : DO} (h : ORel w r o) (ho : o.own = true) {off : Nat} (hoff : off < o.cells.length) (z : Int) :
    ∃ g, r.a = some ⟨g, 0, none⟩ ∧ (∃ v, w.cell? ⟨g, off, none⟩ = some v) ∧ w.frozen? ⟨g, off, none⟩ = false ∧ ORel (w.setCell ⟨g, off, none⟩ (.int .i64 z)) r (o.put (o.cells.set off z)) := by
  have row : ∀ (e : TypeId) (sz : Nat) (l : List Int), (∃ n, w.ownsRow 0 e sz (.slice r.a n r.cap) n (l.map (Value.int .i64))) → off < l.length → ∃ g, r.a = some ⟨g, 0, none⟩ ∧ (∃ v, w.cell? ⟨g, off, none⟩ = some v) ∧ w.frozen? ⟨g, off, none⟩ = false ∧
      ∃ n, (w.setCell ⟨g, off, none⟩ (.int .i64 z)).ownsRow 0 e sz (.slice r.a n r.cap) n ((l.set off z).map (Value.int .i64)) := by
    rintro e sz l ⟨n, hown⟩ hoff
    have hlen : l.length = n * sz := by simpa using hown.1
    rcases hown.2 with ⟨_, h0⟩ | ⟨g, cap, cur, e1, e2, e3, e4, e5, e6, e7⟩
    · rw [h0] at hlen; omega
    · injection e1 with e1 _ ec
      have hown' := hown
      rw [e1] at hown'
      have hs := World.ownsRow.stored hown' off (.int .i64 z)
      refine ⟨g, e1, ?_, World.ownsRow.frozenAt hown' off, n, ?_⟩
      · rw [World.ownsRow.cellAt hown' off (by omega)]
        simp only [List.getElem?_map]
        rw [List.getElem?_eq_getElem hoff]
        exact ⟨_, rfl⟩
      · rw [e1]
        have := hs.1
        rw [← List.map_set] at this
        exact this
  cases o with
  | ro k sz l => cases ho
  | rdr g A bs p => simp [DO.cells] at hoff
  | box t l =>
    obtain ⟨g, e, hg⟩ := h
    simp only [DO.cells] at hoff
    refine ⟨g, e, ⟨.int .i64 l[off], by simp [World.cell?, hg, List.getElem?_eq_getElem hoff]⟩, by simp [World.frozen?, hg], g, e, ?_⟩
    simp [World.setCell, DO.cells, List.map_set, Array.getElem?_modify, hg]
  | row e sz l => exact row e sz l h hoff
  | prow A cap e sz l =>
    obtain ⟨g, h1, h2, h3, h4⟩ := row e sz l h.2.2 hoff
    exact ⟨g, h1, h2, h3, h.1, h.2.1, h4⟩

theorem setc_block (w : World) (a : Addr) (v : Value) (k : Nat) (h : k ≠ a.block) : (w.setCell a v).heap[k]? = w.heap[k]? := Below.heap_setCell w a v k h
theorem setc_size (w : World) (a : Addr) (v : Value) : (w.setCell a v).heap.size = w.heap.size := by simp [World.setCell]

theorem put_sz (o : DO) (l : List Int) : (o.put l).sz = o.sz ∧ (o.put l).isRow = o.isRow ∧ (o.put l).own = o.own := by cases o <;> exact ⟨rfl, rfl, rfl⟩
theorem put_cells {o : DO} {l : List Int} (h : 0 < o.cells.length) : (o.put l).cells = l := by
  cases o with
  | rdr g A bs p => simp [DO.cells] at h
  | _ => rfl

theorem HRel.set {C : Ctx} {G : DG} {ρ : Nat → Loc} {w : World} (h : HRel C G ρ w) {id : Nat} {o : DO} (hg : G id = some o) (ho : o.own = true) {off : Nat} (hoff : off < o.cells.length) (z : Int) :
    ∃ g, (ρ id).a = some ⟨g, 0, none⟩ ∧ (∃ v, w.cell? ⟨g, off, none⟩ = some v) ∧ w.frozen? ⟨g, off, none⟩ = false ∧ HRel C (hup G id (o.put (o.cells.set off z))) ρ (w.setCell ⟨g, off, none⟩ (.int .i64 z)) := by
  obtain ⟨g, e, hc, hf, hn⟩ := own_set (h.obj id o hg) ho hoff z
  have hblk : (ρ id).blk = some g := by simp [Loc.blk, e]
  refine ⟨g, e, hc, hf, ?_⟩
  constructor
  · intro i o' h'
    unfold hup at h'
    by_cases e' : id = i
    · subst e'; rw [if_pos rfl] at h'; obtain rfl := Option.some.inj h'; exact hn
    · rw [if_neg e'] at h'
      refine (h.obj i o' h').congr fun g' hg' => setc_block _ _ _ _ ?_
      rintro rfl
      exact h.sep id i o o' _ e' hg h' ho hblk hg'
  · intro i o' g' h' hg'
    rw [setc_size]
    unfold hup at h'
    by_cases e' : id = i
    · subst e'; exact h.inn id o g' hg hg'
    · rw [if_neg e'] at h'; exact h.inn i o' g' h' hg'
  · intro i i' o1 o2 g' hne h1 h2 ho1 hb
    unfold hup at h1 h2
    by_cases e1 : id = i
    · subst e1
      rw [if_neg hne] at h2
      exact h.sep id i' o o2 g' hne hg h2 ho hb
    · rw [if_neg e1] at h1
      by_cases e2 : id = i'
      · subst e2; exact h.sep i id o1 o g' hne h1 hg ho1 hb
      · rw [if_neg e2] at h2; exact h.sep i i' o1 o2 g' hne h1 h2 ho1 hb
  · intro i o' g' h' ho' hb
    unfold hup at h'
    by_cases e' : id = i
    · subst e'; exact h.old id o g' hg ho hb
    · rw [if_neg e'] at h'; exact h.old i o' g' h' ho' hb
  · refine ⟨h.fr.os, h.fr.tape, h.fr.output, by rw [setc_size]; exact h.fr.size, fun k hk hx => ?_⟩
    have hne : k ≠ g := by
      rintro rfl
      rcases h.old id o k hg ho hblk with h1 | h1
      · omega
      · exact hx h1
    rw [setc_block _ _ _ _ hne]
    exact h.fr.block k hk hx

theorem SlRel.put {r : Loc} {o : DO} {off len : Nat} {v : Value} (h : SlRel r o off len v) {l : List Int} (hl : l.length = o.cells.length) : SlRel r (o.put l) off len v := by
  obtain ⟨A, c, h1, h2, h3, h4, h5, h6, h7⟩ := h
  obtain ⟨e1, e2, _⟩ := put_sz o l
  refine ⟨A, c, h1, h2, h3, by rw [e1]; exact h4, by rw [e2]; exact h5, ?_, by rw [e1]; exact h7⟩
  rw [e1]
  cases o with
  | rdr g A bs p => exact h6
  | _ => exact Nat.le_trans h6 (Nat.le_of_eq hl.symm)
theorem TCRel.put {ρ : Nat → Loc} {G : DG} {id : Nat} {o : DO} {l : List Int} (hg : G id = some o) (hl : l.length = o.cells.length) {c : TC} {y : Value} (h : TCRel ρ G c y) : TCRel ρ (hup G id (o.put l)) c y := by
  cases c with
  | v x => exact h
  | s i n =>
    intro o' ho'
    unfold hup at ho'
    by_cases e : id = i
    · subst e; rw [if_pos rfl] at ho'; obtain rfl := Option.some.inj ho'; exact (h o hg).put hl
    · rw [if_neg e] at ho'; exact h o' ho'
theorem VRel.put {ρ : Nat → Loc} {G : DG} {id : Nat} {o : DO} {l : List Int} (hg : G id = some o) (hl : l.length = o.cells.length) {d : DV} {y : Value} (h : VRel ρ G d y) : VRel ρ (hup G id (o.put l)) d y := by
  cases d with
  | val x => exact h
  | sl i off n =>
    intro o' ho'
    unfold hup at ho'
    by_cases e : id = i
    · subst e; rw [if_pos rfl] at ho'; obtain rfl := Option.some.inj ho'; exact (h o hg).put hl
    · rw [if_neg e] at ho'; exact h o' ho'
  | ptr i off =>
    intro o' ho'
    unfold hup at ho'
    by_cases e : id = i
    · subst e; exact h o hg
    · rw [if_neg e] at ho'; exact h o' ho'
  | tup l =>
    obtain ⟨vs, e, hl', hv⟩ := h
    exact ⟨vs, e, hl', fun i c x hc hx => (hv i c x hc hx).put hg hl⟩

section
variable {P : Program} {C : Ctx} {N : Nat} {QD : Exit → DT → DH → Prop} {T : DT} {H : DH} {ops : Array Oper} {l : List Oper} {τ : List (Nat × TK)} {E : Env}

theorem Oper.wp_skip' {o : Oper} {a : Act} {w w' : World} {K : Act → World → Prop} {Q : Exit → Act → World → Prop} (h : (execOp a.eval o).run P w = .ok .skip w') (hd : o.dst = none) (hk : K a w') : o.wp P a w K Q := by
  unfold Oper.wp
  rw [h]
  simp only [Oper.upon, hd, Act.put]
  exact hk

theorem DL.store1 (hτ : TyOK P τ) {o : Oper} {t : TypeId} {x y : Operand} {id off : Nat} {ob : DO} {z : Int} (ho : o.op = .store t x y) (hgd : o.guard = none) (hd : o.dst = none) (ht : lk τ t = some .int)
    (hx : ev T x = some (.ptr id off)) (hy : ev T y = some (.val (.int .i64 z))) (hg : lk H id = some ob) (hown : ob.own = true) (hoff : off < ob.cells.length)
    (h : DL P C N ops QD l T ((id, ob.put (ob.cells.set off z)) :: H)) : DL P C N ops QD (o :: l) T H := by
  intro a w ⟨ρ, hr⟩
  obtain ⟨g, e, ⟨v, hc⟩, hf, hn⟩ := hr.heap.set hg hown hoff z
  obtain ⟨b, f, e1, e2⟩ := hr.ev x (.ptr id off) (by rw [← ev_eq]; exact hx) ob hg
  have e3 : a.eval y = .int .i64 z := hr.ev y (.val (.int .i64 z)) (by rw [← ev_eq]; exact hy)
  rw [e] at e1; injection e1 with e1; injection e1 with e4 e5; subst e4 e5
  rw [Nat.zero_add] at e2
  have hrun := run_store1 (P := P) (w := w) (hτ t _ ht : TInt P t) (z := z) hc hf
  refine wpList_plain hgd fun K hK => Oper.wp_skip' (w' := w.setCell ⟨g, off, none⟩ (.int .i64 z)) (by simp [execOp, ho, e2, e3, hrun]) hd (hK _ _ (h _ _ ⟨ρ, ?_⟩))
  rw [lk_hup]
  exact ⟨hn, fun i u hu => (hr.tm i u hu).put hg (by simp), hr.nd, hr.sz⟩

theorem DL.store2 (hτ : TyOK P τ) {o : Oper} {t : TypeId} {x y : Operand} {id off : Nat} {ob : DO} {z z' : Int} (ho : o.op = .store t x y) (hgd : o.guard = none) (hd : o.dst = none) (ht : lk τ t = some .pair)
    (hx : ev T x = some (.ptr id off)) (hy : ev T y = some (.val (.agg #[.int .i64 z, .int .i64 z']))) (hg : lk H id = some ob) (hown : ob.own = true) (hoff : off + 1 < ob.cells.length)
    (h : DL P C N ops QD l T ((id, ob.put ((ob.cells.set off z).set (off + 1) z')) :: H)) : DL P C N ops QD (o :: l) T H := by
  intro a w ⟨ρ, hr⟩
  obtain ⟨g, e, ⟨v, hc⟩, hf, hn⟩ := hr.heap.set hg hown (off := off) (by omega) z
  have hcl : (ob.put (ob.cells.set off z)).cells = ob.cells.set off z := put_cells (by omega)
  obtain ⟨g', e', ⟨v', hc'⟩, hf', hn'⟩ := hn.set (id := id) (o := ob.put (ob.cells.set off z)) (hup_same ..) (by rw [(put_sz ..).2.2]; exact hown) (off := off + 1) (by rw [hcl]; simpa using hoff) z'
  obtain ⟨b, f, e1, e2⟩ := hr.ev x (.ptr id off) (by rw [← ev_eq]; exact hx) ob hg
  have e3 : a.eval y = .agg #[.int .i64 z, .int .i64 z'] := hr.ev y (.val _) (by rw [← ev_eq]; exact hy)
  rw [e] at e1 e'; injection e1 with e1; injection e1 with e4 e5; subst e4 e5
  injection e' with e'; injection e' with e4 _; subst e4
  rw [Nat.zero_add] at e2
  have hc2 : ∃ u, w.cell? ⟨g, off + 1, none⟩ = some u := by
    refine ⟨v', ?_⟩
    rw [← hc']
    exact (World.cell?_setCell_other w ⟨g, off, none⟩ ⟨g, off + 1, none⟩ _ (by simp)).symm
  obtain ⟨u, hu⟩ := hc2
  have hf2 : w.frozen? ⟨g, off + 1, none⟩ = false := by
    rw [← hf']
    simp [go_sem]
  have hrun := run_store2 (P := P) (w := w) (hτ t _ ht : TPair P t) (x := z) (y := z') hc hu hf hf2
  refine wpList_plain hgd fun K hK => Oper.wp_skip' (w' := (w.setCell ⟨g, off, none⟩ (.int .i64 z)).setCell ⟨g, off + 1, none⟩ (.int .i64 z')) (by simp [execOp, ho, e2, e3, hrun]) hd (hK _ _ (h _ _ ⟨ρ, ?_⟩))
  rw [hcl] at hn'
  have hpp : (ob.put (ob.cells.set off z)).put ((ob.cells.set off z).set (off + 1) z') = ob.put ((ob.cells.set off z).set (off + 1) z') := by cases ob <;> rfl
  have hup2 : ∀ o1 o2 : DO, hup (hup (lk H) id o1) id o2 = hup (lk H) id o2 := by
    intro o1 o2; funext i; unfold hup; split <;> simp_all
  rw [hpp, hup2] at hn'
  rw [lk_hup]
  exact ⟨hn', fun i u hu => (hr.tm i u hu).put hg (by simp), hr.nd, hr.sz⟩
end
def killK (id : Nat) (T : DT) (k : Nat) : Bool := match lk T k with
  | some v => !v.ids.elem id
  | none => true
def kill (id : Nat) (T : DT) : DT := T.filter fun p => killK id T p.1
theorem lk_filter {α : Type} (f : Nat → Bool) (x : Nat) : ∀ (T : List (Nat × α)), lk (T.filter fun p => f p.1) x = if f x = true then lk T x else none
  | [] => by simp [lk]
  | (k, v) :: T => by
    have ih := lk_filter f x T
    rw [List.filter_cons]
    by_cases hk : f k = true
    · rw [if_pos hk, lk_cons, ih, lk_cons]
      by_cases e : k = x
      · subst e; simp [hk]
      · simp [e]
    · rw [if_neg hk, ih, lk_cons]
      by_cases e : k = x
      · subst e; simp [hk]
      · simp [e]
theorem lk_kill {id : Nat} {T : DT} {x : Nat} {v : DV} (h : lk (kill id T) x = some v) : lk T x = some v ∧ id ∉ v.ids := by
  unfold kill at h
  rw [lk_filter] at h
  by_cases hk : killK id T x = true
  · rw [if_pos hk] at h
    refine ⟨h, fun hid => ?_⟩
    unfold killK at hk
    rw [h] at hk
    simp [hid] at hk
  · rw [if_neg hk] at h; cases h

section
variable {P : Program}
theorem run_app_nil0 {t e : TypeId} {i : TypeInfo} (hu : P.underlying t = some (.slice e)) (hi : P.info? e = some i) (w : World) (sz : Nat) (ty : TypeId) (A : Option Addr) (n c : Nat) (xs : List Value) (hown : w.ownsRow 0 e sz (.slice A n c) n xs) (d : Nat) :
    (Builtin.append_ #[t, t] ty #[.slice A n c, .slice none 0 d]).run P w = .ok (.slice A n c) w := by
  rcases hown.2 with ⟨e1, h0⟩ | ⟨g, cap, cur, e1, _, _, hnc, _⟩
  · rw [e1]
    simp [Builtin.append_, run_underlying hu, sizeOf, typeInfo, hi, Builtin.lenOf, Builtin.firstCells]
  · rw [e1]
    simp [Builtin.append_, run_underlying hu, sizeOf, typeInfo, hi, Builtin.lenOf, Builtin.firstCells, hnc, storeCells]

theorem run_app {t e : TypeId} {sz : Nat} (hu : P.underlying t = some (.slice e)) (he : TElem P e sz) (w : World) (ty : TypeId) (A : Option Addr) (n c : Nat) (xs : List Int) (hown : w.ownsRow 0 e sz (.slice A n c) n (xs.map (Value.int .i64)))
    (B : Option Addr) (m d : Nat) (ys : List Int) (hm : ys.length = m * sz) (hr : 0 < ys.length → ∃ b off, B = some ⟨b, off, none⟩ ∧ ∀ j, j < ys.length → w.cell? ⟨b, off + j, none⟩ = some (.int .i64 (ys.getD j 0))) (hB : 0 < m → 0 < ys.length) (hn : n + m ≤ 1000000) :
    ∃ A' c' w', (Builtin.append_ #[t, t] ty #[.slice A n c, .slice B m d]).run P w = .ok (.slice A' (n + m) c') w' ∧ w'.ownsRow 0 e sz (.slice A' (n + m) c') (n + m) ((xs ++ ys).map (Value.int .i64)) ∧ w.grownBy w' (A.map (·.block)) ∧ (A'.map (·.block) = A.map (·.block) ∨ A'.map (·.block) = some w.heap.size) := by
  obtain ⟨i, z, hi, hz, hs, hby, hzs, _⟩ := he.info
  have hsz : 0 < sz := by rcases he.szs with h | h <;> omega
  cases B with
  | none =>
    have hm0 : m = 0 := by
      rcases Nat.eq_zero_or_pos m with h0 | h0
      · exact h0
      · obtain ⟨b, off, e', _⟩ := hr (hB h0)
        cases e'
    subst hm0
    have hy : ys = [] := List.eq_nil_of_length_eq_zero (by omega)
    subst hy
    exact ⟨A, c, w, run_app_nil0 hu hi w sz ty A n c _ hown d, by simpa using hown, World.grownBy.refl w _, .inl rfl⟩
  | some ad =>
    have hcells : ∀ j u, (ys.map (Value.int .i64))[j]? = some u → w.cell? (ad.add j) = some u := by
      intro j u hj
      have hlt : j < ys.length := by simpa using (List.getElem?_eq_some_iff.1 hj).1
      obtain ⟨b, off, e', hc⟩ := hr (by omega)
      injection e' with e'
      subst e'
      rw [Go.WideShapes.add_plain, hc j hlt, ← hj, List.getElem?_map, List.getElem?_eq_getElem hlt]
      simp [List.getD_eq_getElem?_getD, List.getElem?_eq_getElem hlt]
    obtain ⟨v', w', hrun, h1, h2, _, h4⟩ := run_append_own_at (P := P) w 0 t ty e i z sz (8 * sz) hu hi hz hs hby hzs hsz _ n _ hown ad m d (ys.map (Value.int .i64)) (by simp [hm]) hcells
      (by intro u hu; obtain ⟨z, _, rfl⟩ := List.mem_map.1 hu; rfl) (by unfold maxLen; omega) (by rcases he.szs with rfl | rfl <;> omega) (Nat.zero_le _)
    have hshape : ∃ A' c', v' = .slice A' (n + m) c' := by
      rcases h1.2 with ⟨rfl, h0⟩ | ⟨g, cap, cur, rfl, _⟩
      · exact ⟨none, 0, by rw [h0]⟩
      · exact ⟨_, _, rfl⟩
    obtain ⟨A', c', rfl⟩ := hshape
    have ob : ∀ (A : Option Addr) (n c : Nat), (Value.slice A n c).ownBlock = A.map (·.block) := by intro A n c; cases A <;> rfl
    rw [ob] at h2
    rw [ob, ob] at h4
    exact ⟨A', c', w', hrun, by rw [List.map_append]; exact h1, h2, h4⟩
end

theorem own_bounds {w : World} {base : Nat} {e : TypeId} {sz n n' c : Nat} {A : Option Addr} {xs : List Value} (h : w.ownsRow base e sz (.slice A n c) n' xs) : n = n' ∧ n ≤ c ∧ c ≤ 9223372036854775807 ∧ (0 < n → ∃ g, A = some ⟨g, 0, none⟩) ∧ (∀ g, A.map (·.block) = some g → base ≤ g ∧ g < w.heap.size) := by
  rcases h.2 with ⟨e1, h0⟩ | ⟨g, cap, cur, e1, e2, e3, e4, e5, _⟩
  · injection e1 with e1 e2 e3
    subst e1
    exact ⟨by omega, by omega, by omega, fun h => by omega, fun g hg => by cases hg⟩
  · injection e1 with e1 e2' e3'
    subst e1
    unfold maxLen at e5
    refine ⟨by omega, by omega, by omega, fun _ => ⟨g, rfl⟩, fun g' hg' => ?_⟩
    simp at hg'; subst hg'
    exact ⟨e2, (Array.getElem?_eq_some_iff.1 e3).1⟩

section
variable {P : Program} {C : Ctx} {N : Nat} {QD : Exit → DT → DH → Prop} {T : DT} {H : DH} {ops : Array Oper} {l : List Oper} {τ : List (Nat × TK)} {E : Env}
theorem ty_elem (hτ : TyOK P τ) {e : TypeId} {k : TK} {sz : Nat} (he : lk τ e = some k) (hk : k.esz = some sz) : TElem P e sz := by
  cases k with
  | int => simp [TK.esz] at hk; subst hk; exact (hτ e _ he : TInt P e).elem
  | pair => simp [TK.esz] at hk; subst hk; exact (hτ e _ he : TPair P e).elem
  | bool => cases hk
  | sl e' => cases hk

theorem DL.append (hτ : TyOK P τ) {o : Oper} {s x : Operand} {ts e : TypeId} {k : TK} {d id id2 off n m sz : Nat} {o2 : DO} {xs ys : List Int}
    (ho : o.op = .call { callee := .builtin .append, args := #[s, x], argTypes := #[ts, ts] }) (hgd : o.guard = none) (hd : o.dst = some d) (hN : Nat.blt d N = true) (ht : lk τ ts = some (.sl e)) (he : lk τ e = some k) (hk : k.esz = some sz)
    (hs : ev T s = some (.sl id 0 n)) (hg : lk H id = some (.row e sz xs)) (hl : xs.length = n * sz) (hx : ev T x = some (.sl id2 off m)) (hg2 : lk H id2 = some o2) (hkd : o2.kind = .i64) (hsz : o2.sz = sz) (hne : id ≠ id2) (hn : n + m ≤ 1000000)
    (hys : (o2.cells.drop (off * sz)).take (m * sz) = ys)
    (h : DL P C N ops QD l ((d, .sl id 0 (n + m)) :: kill id T) ((id, .row e sz (xs ++ ys)) :: H)) : DL P C N ops QD (o :: l) T H := by
  intro a w ⟨ρ, hr⟩
  have hel := ty_elem hτ he hk
  have hsz0 : 0 < sz := by rcases hel.szs with h | h <;> omega
  obtain ⟨A, c, e1, b1, b2, b3, b4, b5, _⟩ := hr.ev s (.sl id 0 n) (by rw [← ev_eq]; exact hs) _ hg
  obtain ⟨A2, c2, e2, d1, d2, d3, d4, d5, _⟩ := hr.ev x (.sl id2 off m) (by rw [← ev_eq]; exact hx) _ hg2
  obtain ⟨rfl, rfl⟩ := b4 rfl rfl
  obtain ⟨n', hown⟩ := hr.heap.obj id _ hg
  have hn' : n' = n := by
    have h1 : xs.length = n' * sz := by simpa using hown.1
    rw [hl] at h1
    exact (Nat.eq_of_mul_eq_mul_right hsz0 h1).symm
  subst hn'
  have hylen : ys.length = m * sz := by
    rw [← hys, List.length_take, List.length_drop]
    rw [hsz, Nat.add_mul] at d5
    omega
  have hread : 0 < ys.length → ∃ b f, A2 = some ⟨b, f, none⟩ ∧ ∀ j, j < ys.length → w.cell? ⟨b, f + j, none⟩ = some (.int .i64 (ys.getD j 0)) := by
    intro h0
    have hm0 : 0 < m := by
      rcases Nat.eq_zero_or_pos m with e' | e'
      · rw [e'] at hylen; omega
      · exact e'
    obtain ⟨b, f, r1, r2⟩ := d3 hm0
    refine ⟨b, f + off * sz, by rw [r2, hsz], fun j hj => ?_⟩
    obtain ⟨b', f', r3, hc⟩ := (hr.heap.obj id2 o2 hg2).cell (off * sz + j) (by rw [hsz, Nat.add_mul] at d5; omega)
    rw [r1] at r3; injection r3 with r3; injection r3 with r4 r5; subst r4 r5
    rw [Nat.add_assoc, hc, hkd, ← hys]
    congr 2
    rw [hylen] at hj
    simp [List.getD_eq_getElem?_getD, hj, List.getElem?_drop]
  obtain ⟨A', c', w', hrun, hown', hgr, hblk⟩ := run_app (P := P) (hτ ts _ ht) hel w o.type (ρ id).a n' (ρ id).cap xs hown A2 m c2 ys hylen hread (fun h0 => by rw [hylen]; exact Nat.mul_pos h0 hsz0) hn
  obtain ⟨_, bd1, bd2, bd3, bd4⟩ := own_bounds hown'
  obtain ⟨_, _, _, _, od4⟩ := own_bounds hown
  have hrun' : (execOp a.eval o).run P w = .ok (.value (.slice A' (n' + m) c')) w' := by
    unfold execOp
    simp only [ho, resolve, invoke, builtin, Sem.run_bind, Sem.run_pure, Result.andThen_ok, List.map_toArray, List.map_cons, List.map_nil, e1, e2, hrun]
  refine wpList_plain hgd fun K hK => wp_value hrun' (hK _ _ ?_)
  rw [hd]
  have hfootR : ∀ g, Foot ⟨A', c', none⟩ g → A'.map (·.block) = some g := fun g hg => hg.resolve_right (by simp)
  have hkeep : ∀ i o', i ≠ id → lk H i = some o' → ∀ g, Foot (ρ i) g → w'.heap[g]? = w.heap[g]? := by
    intro i o' hi ho' g hgf
    refine hgr.block g (hr.heap.inn i o' g ho' hgf) ?_
    intro e'
    exact hr.heap.sep id i (.row e sz xs) o' g (Ne.symm hi) hg ho' rfl (by rw [Loc.blk]; exact e'.symm) hgf
  have hnewblk : ∀ g, A'.map (·.block) = some g → (ρ id).blk = some g ∨ g = w.heap.size := by
    intro g hg'
    rcases hblk with h1 | h1
    · left; rw [Loc.blk, ← h1]; exact hg'
    · right; rw [h1] at hg'; injection hg' with hg'; exact hg'.symm
  refine h _ _ ⟨up ρ id ⟨A', c', none⟩, ?_⟩
  rw [lk_tup, lk_hup]
  have HR : HRel C (hup (lk H) id (.row e sz (xs ++ ys))) (up ρ id ⟨A', c', none⟩) w' := by
    constructor
    · intro i o' h'
      unfold hup at h'
      by_cases e' : id = i
      · subst e'; rw [if_pos rfl] at h'; obtain rfl := Option.some.inj h'; rw [up_same]; exact ⟨n' + m, hown'⟩
      · rw [if_neg e'] at h'; rw [up_ne _ _ (Ne.symm e')]
        exact (hr.heap.obj i o' h').congr (hkeep i o' (Ne.symm e') h')
    · intro i o' g h' hg'
      unfold hup at h'
      by_cases e' : id = i
      · subst e'; rw [up_same] at hg'; exact (bd4 g (hfootR g hg')).2
      · rw [if_neg e'] at h'; rw [up_ne _ _ (Ne.symm e')] at hg'
        exact Nat.lt_of_lt_of_le (hr.heap.inn i o' g h' hg') hgr.size
    · intro i i' o1 o2' g hne' h1 h2 ho1 hb hf
      unfold hup at h1 h2
      by_cases e' : id = i
      · subst e'
        rw [if_neg hne'] at h2
        rw [up_same] at hb
        rw [up_ne _ _ (Ne.symm hne')] at hf
        rcases hnewblk g hb with h3 | h3
        · exact hr.heap.sep id i' _ o2' g hne' hg h2 rfl h3 hf
        · have := hr.heap.inn i' o2' g h2 hf; omega
      · rw [if_neg e'] at h1
        rw [up_ne _ _ (Ne.symm e')] at hb
        by_cases e'' : id = i'
        · subst e''
          rw [up_same] at hf
          rcases hnewblk g (hfootR g hf) with h3 | h3
          · exact hr.heap.sep id i _ o1 g e' hg h1 rfl h3 (.inl hb)
          · have := hr.heap.inn i o1 g h1 (.inl hb); omega
        · rw [if_neg e''] at h2
          rw [up_ne _ _ (Ne.symm e'')] at hf
          exact hr.heap.sep i i' o1 o2' g hne' h1 h2 ho1 hb hf
    · intro i o' g h' ho' hb
      unfold hup at h'
      by_cases e' : id = i
      · subst e'
        rw [up_same] at hb
        rcases hnewblk g hb with h3 | h3
        · exact hr.heap.old id _ g hg rfl h3
        · subst h3; exact .inl hr.heap.fr.size
      · rw [if_neg e'] at h'; rw [up_ne _ _ (Ne.symm e')] at hb
        exact hr.heap.old i o' g h' ho' hb
    · refine ⟨hgr.os.trans hr.heap.fr.os, hgr.tape.trans hr.heap.fr.tape, hgr.output.trans hr.heap.fr.output, Nat.le_trans hr.heap.fr.size hgr.size, fun k' hk' hx' => ?_⟩
      rw [hgr.block k' (Nat.lt_of_lt_of_le hk' hr.heap.fr.size) (by
        intro e'
        rcases hr.heap.old id _ k' hg rfl (by rw [Loc.blk]; exact e'.symm) with h1 | h1
        · omega
        · exact hx' h1)]
      exact hr.heap.fr.block k' hk' hx'
  refine ⟨HR, fun i u hu => ?_, hr.nd, by simp [Act.put, hr.sz]⟩
  rw [put_get hr.sz (Nat.le_of_ble_eq_true hN)]
  unfold tup at hu
  by_cases e' : d = i
  · rw [if_pos e'] at hu ⊢
    obtain rfl := Option.some.inj hu
    intro o' ho'
    rw [hup_same] at ho'
    obtain rfl := Option.some.inj ho'
    rw [up_same]
    refine ⟨A', c', rfl, bd1, bd2, fun h0 => ?_, fun _ _ => ⟨rfl, rfl⟩, ?_, hsz0⟩
    · obtain ⟨g, hA⟩ := bd3 h0
      exact ⟨g, 0, hA, by rw [hA]; simp⟩
    · simp only [DO.sz, DO.cells, List.length_append, hl, hylen, Nat.zero_add, Nat.add_mul]
      exact Nat.le_refl _
  · rw [if_neg e'] at hu ⊢
    obtain ⟨h1, h2⟩ := lk_kill hu
    refine (hr.tm i u h1).congr fun j hj => .inr ?_
    have hji : id ≠ j := fun e'' => h2 (e'' ▸ hj)
    exact ⟨hup_ne _ _ hji, up_ne _ _ (Ne.symm hji)⟩

/-- a nil slice is a row of the call's own without elements -/
theorem Sim.nil {a : Act} {w : World} (t id : Nat) (e : TypeId) (sz : Nat) (hsz : 0 < sz) (h : Sim C N T H a w) (ht : lk T t = some (.val (.slice none 0 0))) (hf : T.all (fun p => !p.2.ids.elem id) = true) :
    Sim C N ((t, .sl id 0 0) :: T) ((id, .row e sz []) :: H) a w := by
  obtain ⟨ρ, hr⟩ := h
  have hadd := hr.heap.add id (.row e sz []) ⟨none, 0, none⟩ ⟨0, by simp, .inl ⟨rfl, rfl⟩⟩ (fun g hg => by rcases hg with hg | hg <;> cases hg) (fun id' o' g _ _ hg => by rcases hg with hg | hg <;> cases hg) (fun g hg => by cases hg)
  refine ⟨_, by rw [lk_hup]; exact hadd, fun x u hu => ?_, hr.nd, hr.sz⟩
  rw [lk_hup]
  rw [lk_cons] at hu
  by_cases e' : t = x
  · rw [if_pos e'] at hu
    obtain rfl := Option.some.inj hu
    have hv : a.tmps.getD x undef = .slice none 0 0 := by rw [← e']; exact hr.tm t _ ht
    intro o' ho'
    rw [hup_same] at ho'
    obtain rfl := Option.some.inj ho'
    rw [up_same, hv]
    exact ⟨none, 0, rfl, Nat.le_refl _, by omega, fun h => by omega, fun _ _ => ⟨rfl, rfl⟩, by simp, hsz⟩
  · rw [if_neg e'] at hu
    refine (hr.tm x u hu).congr fun j hj => .inr ?_
    have hji : id ≠ j := by
      rintro rfl
      have := List.all_eq_true.1 hf _ (lk_mem hu)
      simp [hj] at this
    exact ⟨hup_ne _ _ hji, up_ne _ _ (Ne.symm hji)⟩
theorem DW.nil {c : Code} (t id : Nat) (e : TypeId) (sz : Nat) (hsz : 0 < sz) (ht : lk T t = some (.val (.slice none 0 0))) (hf : T.all (fun p => !p.2.ids.elem id) = true) (h : DW P C N c QD ((t, .sl id 0 0) :: T) ((id, .row e sz []) :: H)) : DW P C N c QD T H :=
  fun a w hs => h a w (hs.nil t id e sz hsz ht hf)
end
/-! ## Whole functions -/
inductive RV (τ : List (Nat × TK)) (T : DT) (H : DH) : ResultVar → RC → Prop
  | v {t : Nat} {x : Value} (h : lk T t = some (.val x)) (hx : x.ownBlock = none) : RV τ T H (.tmp t) (.v x)
  | row {t id n : Nat} {e : TypeId} {sz : Nat} {l : List Int} (h : lk T t = some (.sl id 0 n)) (hg : lk H id = some (.row e sz l)) (hl : l.length = n * sz) (hs : 0 < sz) : RV τ T H (.tmp t) (.row e sz n l)
  | nil {t : Nat} {e : TypeId} {sz : Nat} (h : lk T t = some (.val (.slice none 0 0))) (hs : 0 < sz) : RV τ T H (.tmp t) (.row e sz 0 [])
  | cell {t id : Nat} {ty ty' : TypeId} {x y : Int} (h : lk T t = some (.ptr id 0)) (hg : lk H id = some (.box ty' [x, y])) (ht : lk τ ty = some .pair) : RV τ T H (.cell t ty) (.v (.agg #[.int .i64 x, .int .i64 y]))
def rvIds (T : DT) : ResultVar → List Nat
  | .tmp t => match lk T t with
    | some (.sl id _ _) => [id]
    | _ => []
  | _ => []
def RetD (τ : List (Nat × TK)) (rs : List ResultVar) (r : RD) (T : DT) (H : DH) : Prop :=
  match r with
  | .one c => ∃ rv, rs = [rv] ∧ RV τ T H rv c
  | .tup l => 2 ≤ l.length ∧ l.length ≤ 4 ∧ All2 (RV τ T H) rs l ∧ (rs.flatMap (rvIds T)).Nodup
def Post (τ : List (Nat × TK)) (rs : List ResultVar) (r : RD) : Exit → DT → DH → Prop
  | .ret, T, H => RetD τ rs r T H
  | .normal, T, H => RetD τ rs r T H
  | _, _, _ => False

def resOne (tmps : Array Value) : ResultVar → Sem Value
  | .tmp t => pure (tmps.getD t undef)
  | .cell a t => do loadVar t (← asAddr (tmps.getD a undef))

section
variable {P : Program} {C : Ctx} {N : Nat} {T : DT} {H : DH} {τ : List (Nat × TK)} {ρ : Nat → Loc} {a : Act} {w : World}
theorem rv_ok (hτ : TyOK P τ) (hr : SimR C N (lk T) (lk H) ρ a w) (hX : ∀ id o g, lk H id = some o → o.own = true → o.isRow = true → (ρ id).blk = some g → C.w0.heap.size ≤ g) {rv : ResultVar} {rc : RC} (h : RV τ T H rv rc) :
    ∃ y, (resOne a.tmps rv).run P w = .ok y w ∧ RCRel C.w0.heap.size w rc y ∧ ∀ g, y.ownBlock = some g → ∃ id o, id ∈ rvIds T rv ∧ lk H id = some o ∧ o.own = true ∧ (ρ id).blk = some g := by
  cases h with
  | @v t x h hx =>
    have e : a.tmps.getD t undef = x := hr.tm t _ h
    exact ⟨x, by simp [resOne, e], rfl, fun g hg => by rw [hx] at hg; cases hg⟩
  | @row t id n e sz l h hg hl hs =>
    obtain ⟨A, c, e1, b1, b2, b3, b4, b5, _⟩ := hr.tm t _ h _ hg
    obtain ⟨rfl, rfl⟩ := b4 rfl rfl
    obtain ⟨n', hown⟩ := hr.heap.obj id _ hg
    have hn' : n' = n := by
      have h1 : l.length = n' * sz := by simpa using hown.1
      rw [hl] at h1
      exact (Nat.eq_of_mul_eq_mul_right hs h1).symm
    subst hn'
    refine ⟨.slice (ρ id).a n' (ρ id).cap, by simp [resOne, e1], ⟨_, _, rfl, ⟨hown.1, ?_⟩, hs⟩, fun g hg' => ⟨id, _, by simp [rvIds, h], hg, rfl, ?_⟩⟩
    · rcases hown.2 with h' | ⟨g, cap, cur, r1, r2, r3⟩
      · exact .inl h'
      · refine .inr ⟨g, cap, cur, r1, ?_, r3⟩
        exact hX id _ g hg rfl rfl (by injection r1 with r1; simp [Loc.blk, r1])
    · cases ha : (ρ id).a with
      | none => rw [ha] at hg'; cases hg'
      | some ad => rw [ha] at hg'; simp only [Loc.blk, ha]; exact hg'
  | @nil t e sz h hs =>
    have e1 : a.tmps.getD t undef = .slice none 0 0 := hr.tm t _ h
    exact ⟨.slice none 0 0, by simp [resOne, e1], ⟨none, 0, rfl, ⟨by simp, .inl ⟨rfl, rfl⟩⟩, hs⟩, fun g hg => by cases hg⟩
  | @cell t id ty ty' x y h hg ht =>
    obtain ⟨b, f, e1, e2⟩ := hr.tm t _ h _ hg
    obtain ⟨b1, f1, r1, c1⟩ := (hr.heap.obj id _ hg).cell 0 (by simp [DO.cells])
    obtain ⟨b2, f2, r2, c2⟩ := (hr.heap.obj id _ hg).cell 1 (by simp [DO.cells])
    rw [e1] at r1 r2
    injection r1 with r1; injection r1 with q1 q2; subst q1 q2
    injection r2 with r2; injection r2 with q1 q2; subst q1 q2
    have hrun := run_load2 (P := P) (w := w) (hτ ty _ ht : TPair P ty) (b := b) (f := f) (by simpa using c1) c2
    refine ⟨.agg #[.int .i64 x, .int .i64 y], ?_, rfl, fun g hg => by cases hg⟩
    have e3 : a.tmps.getD t undef = .pointer (some ⟨b, f, none⟩) := by rw [e2]; simp
    simp only [resOne, e3, asAddr]
    simpa [Instr.loadAt, Instr.sureAddr, DO.kind, DO.cells] using hrun

theorem sep_ok (hr : SimR C N (lk T) (lk H) ρ a w) {rv rv' : ResultVar} {y y' : Value} (h : ∀ g, y.ownBlock = some g → ∃ id o, id ∈ rvIds T rv ∧ lk H id = some o ∧ o.own = true ∧ (ρ id).blk = some g)
    (h' : ∀ g, y'.ownBlock = some g → ∃ id o, id ∈ rvIds T rv' ∧ lk H id = some o ∧ o.own = true ∧ (ρ id).blk = some g) (hd : ∀ i ∈ rvIds T rv, i ∉ rvIds T rv') : y.ownBlock = none ∨ y.ownBlock ≠ y'.ownBlock := by
  cases e : y.ownBlock with
  | none => exact .inl rfl
  | some g =>
    refine .inr fun e' => ?_
    obtain ⟨id, o, h1, h2, h3, h4⟩ := h g e
    obtain ⟨id', o', k1, k2, k3, k4⟩ := h' g e'.symm
    exact hr.heap.sep id id' o o' g (fun e'' => hd id h1 (e'' ▸ k1)) h2 k2 h3 h4 (.inl k4)

theorem nd_app {l m : List Nat} (h : (l ++ m).Nodup) : (∀ i ∈ l, i ∉ m) ∧ m.Nodup := by
  rw [List.nodup_append] at h
  exact ⟨fun i hi hi' => h.2.2 i hi i hi' rfl, h.2.1⟩
theorem res1 {r1 : ResultVar} {y1 : Value} (h1 : (resOne a.tmps r1).run P w = .ok y1 w) {fn : Func} (hrs : fn.results = #[r1]) : (results fn a.tmps).run P w = .ok y1 w := by
  have : results fn a.tmps = ((#[r1] : Array ResultVar).mapM (resOne a.tmps) >>= fun vs => pure (if h : vs.size = 1 then vs[0] else .tuple vs)) := by
    unfold results; rw [hrs]; rfl
  rw [this]; simp [h1]
theorem res2 {r1 r2 : ResultVar} {y1 y2 : Value} (h1 : (resOne a.tmps r1).run P w = .ok y1 w) (h2 : (resOne a.tmps r2).run P w = .ok y2 w) {fn : Func} (hrs : fn.results = #[r1, r2]) : (results fn a.tmps).run P w = .ok (.tuple #[y1, y2]) w := by
  have : results fn a.tmps = ((#[r1, r2] : Array ResultVar).mapM (resOne a.tmps) >>= fun vs => pure (if h : vs.size = 1 then vs[0] else .tuple vs)) := by
    unfold results; rw [hrs]; rfl
  rw [this]; simp [h1, h2]
theorem res3 {r1 r2 r3 : ResultVar} {y1 y2 y3 : Value} (h1 : (resOne a.tmps r1).run P w = .ok y1 w) (h2 : (resOne a.tmps r2).run P w = .ok y2 w) (h3 : (resOne a.tmps r3).run P w = .ok y3 w) {fn : Func} (hrs : fn.results = #[r1, r2, r3]) : (results fn a.tmps).run P w = .ok (.tuple #[y1, y2, y3]) w := by
  have : results fn a.tmps = ((#[r1, r2, r3] : Array ResultVar).mapM (resOne a.tmps) >>= fun vs => pure (if h : vs.size = 1 then vs[0] else .tuple vs)) := by
    unfold results; rw [hrs]; rfl
  rw [this]; simp [h1, h2, h3]
theorem res4 {r1 r2 r3 r4 : ResultVar} {y1 y2 y3 y4 : Value} (h1 : (resOne a.tmps r1).run P w = .ok y1 w) (h2 : (resOne a.tmps r2).run P w = .ok y2 w) (h3 : (resOne a.tmps r3).run P w = .ok y3 w) (h4 : (resOne a.tmps r4).run P w = .ok y4 w) {fn : Func} (hrs : fn.results = #[r1, r2, r3, r4]) : (results fn a.tmps).run P w = .ok (.tuple #[y1, y2, y3, y4]) w := by
  have : results fn a.tmps = ((#[r1, r2, r3, r4] : Array ResultVar).mapM (resOne a.tmps) >>= fun vs => pure (if h : vs.size = 1 then vs[0] else .tuple vs)) := by
    unfold results; rw [hrs]; rfl
  rw [this]; simp [h1, h2, h3, h4]

theorem results_ok (hτ : TyOK P τ) (hr : SimR C N (lk T) (lk H) ρ a w) (hX : ∀ id o g, lk H id = some o → o.own = true → o.isRow = true → (ρ id).blk = some g → C.w0.heap.size ≤ g) {fn : Func} {rs : List ResultVar} (hrs : fn.results = rs.toArray) {r : RD} (h : RetD τ rs r T H) :
    ∃ y, (results fn a.tmps).run P w = .ok y w ∧ RDRel C.w0.heap.size w r y := by
  cases r with
  | one c =>
    obtain ⟨rv, rfl, hv⟩ := h
    obtain ⟨y, h1, h2, _⟩ := rv_ok hτ hr hX hv
    exact ⟨y, res1 h1 hrs, h2⟩
  | tup l =>
    obtain ⟨hl1, hl2, hall, hnd⟩ := h
    have hlen := hall.length
    rcases rs with _ | ⟨r1, _ | ⟨r2, rs⟩⟩
    · simp at hlen; omega
    · simp at hlen; omega
    rcases l with _ | ⟨c1, _ | ⟨c2, l⟩⟩
    · simp at hl1
    · simp at hl1
    obtain ⟨q1, q2, hall⟩ := hall
    obtain ⟨y1, a1, b1, d1⟩ := rv_ok hτ hr hX q1
    obtain ⟨y2, a2, b2, d2⟩ := rv_ok hτ hr hX q2
    rw [List.flatMap_cons] at hnd
    obtain ⟨n1, hnd⟩ := nd_app hnd
    rw [List.flatMap_cons] at hnd
    obtain ⟨n2, hnd⟩ := nd_app hnd
    have s12 := sep_ok hr d1 d2 (fun i hi hi' => n1 i hi (by rw [List.flatMap_cons]; exact List.mem_append_left _ hi'))
    rcases rs with _ | ⟨r3, rs⟩
    · rcases l with _ | ⟨c3, l⟩
      · refine ⟨_, res2 a1 a2 hrs, [y1, y2], rfl, ⟨b1, b2, trivial⟩, ?_⟩
        simp only [SepV, List.pairwise_cons, List.mem_cons, List.not_mem_nil, or_false, forall_eq]
        exact ⟨s12, fun _ h => h.elim, List.Pairwise.nil⟩
      · exact hall.elim
    · rcases l with _ | ⟨c3, l⟩
      · exact hall.elim
      obtain ⟨q3, hall⟩ := hall
      obtain ⟨y3, a3, b3, d3⟩ := rv_ok hτ hr hX q3
      rw [List.flatMap_cons] at hnd
      obtain ⟨n3, hnd⟩ := nd_app hnd
      have s13 := sep_ok hr d1 d3 (fun i hi hi' => n1 i hi (by rw [List.flatMap_cons, List.flatMap_cons]; exact List.mem_append_right _ (List.mem_append_left _ hi')))
      have s23 := sep_ok hr d2 d3 (fun i hi hi' => n2 i hi (by rw [List.flatMap_cons]; exact List.mem_append_left _ hi'))
      rcases rs with _ | ⟨r4, rs⟩
      · rcases l with _ | ⟨c4, l⟩
        · refine ⟨_, res3 a1 a2 a3 hrs, [y1, y2, y3], rfl, ⟨b1, b2, b3, trivial⟩, ?_⟩
          simp only [SepV, List.pairwise_cons, List.mem_cons, List.not_mem_nil, or_false, forall_eq_or_imp, forall_eq]
          exact ⟨⟨s12, s13⟩, s23, fun _ h => h.elim, List.Pairwise.nil⟩
        · exact hall.elim
      · rcases l with _ | ⟨c4, l⟩
        · exact hall.elim
        obtain ⟨q4, hall⟩ := hall
        obtain ⟨y4, a4, b4, d4⟩ := rv_ok hτ hr hX q4
        have s14 := sep_ok hr d1 d4 (fun i hi hi' => n1 i hi (by rw [List.flatMap_cons, List.flatMap_cons, List.flatMap_cons]; exact List.mem_append_right _ (List.mem_append_right _ (List.mem_append_left _ hi'))))
        have s24 := sep_ok hr d2 d4 (fun i hi hi' => n2 i hi (by rw [List.flatMap_cons, List.flatMap_cons]; exact List.mem_append_right _ (List.mem_append_left _ hi')))
        have s34 := sep_ok hr d3 d4 (fun i hi hi' => n3 i hi (by rw [List.flatMap_cons]; exact List.mem_append_left _ hi'))
        rcases rs with _ | ⟨r5, rs⟩
        · rcases l with _ | ⟨c5, l⟩
          · refine ⟨_, res4 a1 a2 a3 a4 hrs, [y1, y2, y3, y4], rfl, ⟨b1, b2, b3, b4, trivial⟩, ?_⟩
            simp only [SepV, List.pairwise_cons, List.mem_cons, List.not_mem_nil, or_false, forall_eq_or_imp, forall_eq]
            exact ⟨⟨s12, s13, s14⟩, ⟨s23, s24⟩, s34, fun _ h => h.elim, List.Pairwise.nil⟩
          · exact hall.elim
        · rcases l with _ | ⟨c5, l⟩
          · exact hall.elim
          · simp at hl2
end

/-! ### The state in which a function begins -/
def initT : Nat → List AD → DT
  | _, [] => []
  | i, .v x :: r => (i, .val x) :: initT (i + 1) r
  | i, .sl _ _ n _ :: r => (i, .sl i 0 n) :: initT (i + 1) r
def initH : Nat → List AD → DH
  | _, [] => []
  | i, .v _ :: r => initH (i + 1) r
  | i, .sl k sz _ l :: r => (i, .ro k sz l) :: initH (i + 1) r
def lensOK : List AD → Prop
  | [] => True
  | .v _ :: r => lensOK r
  | .sl _ sz n l :: r => l.length = n * sz ∧ n ≤ 9223372036854775807 ∧ lensOK r

theorem init_lt : ∀ (ds : List AD) (i k : Nat) (o : DO), lk (initH i ds) k = some o → i ≤ k
  | [], i, k, o, h => by cases h
  | .v x :: ds, i, k, o, h => Nat.le_of_succ_le (init_lt ds (i + 1) k o h)
  | .sl _ _ n l :: ds, i, k, o, h => by
    simp only [initH] at h
    rw [lk_cons] at h
    by_cases e : i = k
    · omega
    · rw [if_neg e] at h; exact Nat.le_of_succ_le (init_lt ds (i + 1) k o h)
theorem initT_lt : ∀ (ds : List AD) (i k : Nat) (v : DV), lk (initT i ds) k = some v → i ≤ k
  | [], i, k, o, h => by cases h
  | .v x :: ds, i, k, o, h => by
    simp only [initT] at h
    rw [lk_cons] at h
    by_cases e : i = k
    · omega
    · rw [if_neg e] at h; exact Nat.le_of_succ_le (initT_lt ds (i + 1) k o h)
  | .sl _ _ n l :: ds, i, k, o, h => by
    simp only [initT] at h
    rw [lk_cons] at h
    by_cases e : i = k
    · omega
    · rw [if_neg e] at h; exact Nat.le_of_succ_le (initT_lt ds (i + 1) k o h)
theorem initT_ids : ∀ (ds : List AD) (i k : Nat) (v : DV), lk (initT i ds) k = some v → ∀ j ∈ v.ids, i ≤ j
  | [], i, k, o, h => by cases h
  | .v x :: ds, i, k, o, h => by
    simp only [initT] at h
    rw [lk_cons] at h
    by_cases e : i = k
    · rw [if_pos e] at h; cases h; intro j hj; cases hj
    · rw [if_neg e] at h; exact fun j hj => Nat.le_of_succ_le (initT_ids ds (i + 1) k o h j hj)
  | .sl _ _ n l :: ds, i, k, o, h => by
    simp only [initT] at h
    rw [lk_cons] at h
    by_cases e : i = k
    · rw [if_pos e] at h; cases h; intro j hj; simp [DV.ids] at hj; omega
    · rw [if_neg e] at h; exact fun j hj => Nat.le_of_succ_le (initT_ids ds (i + 1) k o h j hj)

theorem init_rel (C : Ctx) (w : World) (hC : FrC C w) : ∀ (ds : List AD) (i : Nat) (args : List Value), All2 (ARel w) ds args → lensOK ds ∧
    ∃ ρ, HRel C (lk (initH i ds)) ρ w ∧ ∀ k v, lk (initT i ds) k = some v → ∃ y, args[k - i]? = some y ∧ VRel ρ (lk (initH i ds)) v y
  | [], i, args, h => ⟨trivial, fun _ => ⟨none, 0, none⟩, ⟨fun _ _ h => (by cases h), fun _ _ _ h => (by cases h), fun _ _ _ _ _ _ h => (by cases h), fun _ _ _ h => (by cases h), hC⟩, fun _ _ h => (by cases h)⟩
  | .v x :: ds, i, y :: args, h => by
    obtain ⟨hl, ρ, h1, h2⟩ := init_rel C w hC ds (i + 1) args h.2
    refine ⟨hl, ρ, h1, fun k v hk => ?_⟩
    simp only [initT] at hk
    rw [lk_cons] at hk
    by_cases e : i = k
    · subst e; rw [if_pos rfl] at hk; cases hk; exact ⟨y, by simp, h.1⟩
    · rw [if_neg e] at hk
      obtain ⟨z, hz, hv⟩ := h2 k v hk
      have := initT_lt _ _ _ _ hk
      refine ⟨z, ?_, hv⟩
      rw [show k - i = (k - (i + 1)) + 1 from by omega]
      simpa using hz
  | .sl kd sz n l :: ds, i, y :: args, h => by
    obtain ⟨hl, ρ, h1, h2⟩ := init_rel C w hC ds (i + 1) args h.2
    obtain ⟨A, c, e1, b1, b2, b3, bs, b4⟩ := h.1
    refine ⟨⟨b3, by omega, hl⟩, ?_⟩
    let r : Loc := ⟨if 0 < l.length then A else none, c, none⟩
    have hfoot : ∀ g, Foot r g → g < w.heap.size := by
      intro g hg
      rcases hg with hg | hg
      · by_cases h0 : 0 < l.length
        · obtain ⟨b, off, rfl, hb, _⟩ := b4 h0
          simp only [r, Loc.blk, if_pos h0, Option.map_some, Option.some.injEq] at hg
          omega
        · simp [r, Loc.blk, h0] at hg
      · cases hg
    have hobj : ORel w r (.ro kd sz l) := by
      intro h0
      obtain ⟨b, off, rfl, hb, hc⟩ := b4 h0
      exact ⟨b, off, by simp [r, h0], hc⟩
    have hro : ∀ k o, lk (initH (i + 1) ds) k = some o → o.own = false := by
      have : ∀ (ds : List AD) (i k : Nat) (o : DO), lk (initH i ds) k = some o → o.own = false := by
        intro ds
        induction ds with
        | nil => intro i k o h; cases h
        | cons d ds ih =>
          intro i k o h
          cases d with
          | v x => exact ih (i + 1) k o h
          | sl kd sz n l =>
            simp only [initH] at h
            rw [lk_cons] at h
            by_cases e : i = k
            · rw [if_pos e] at h; cases h; rfl
            · rw [if_neg e] at h; exact ih (i + 1) k o h
      exact this ds (i + 1)
    have HR : HRel C (lk (initH i (.sl kd sz n l :: ds))) (up ρ i r) w := by
      simp only [initH]
      rw [lk_hup]
      constructor
      · intro k o h'
        unfold hup at h'
        by_cases e : i = k
        · subst e; rw [if_pos rfl] at h'; cases h'; rw [up_same]; exact hobj
        · rw [if_neg e] at h'; rw [up_ne _ _ (Ne.symm e)]; exact h1.obj k o h'
      · intro k o g h' hg
        unfold hup at h'
        by_cases e : i = k
        · subst e; rw [up_same] at hg; exact hfoot g hg
        · rw [if_neg e] at h'; rw [up_ne _ _ (Ne.symm e)] at hg; exact h1.inn k o g h' hg
      · intro k k' o o' g _ h' _ hown
        exfalso
        unfold hup at h'
        by_cases e : i = k
        · rw [if_pos e] at h'; cases h'; cases hown
        · rw [if_neg e] at h'; rw [hro k o h'] at hown; cases hown
      · intro k o g h' hown
        exfalso
        unfold hup at h'
        by_cases e : i = k
        · rw [if_pos e] at h'; cases h'; cases hown
        · rw [if_neg e] at h'; rw [hro k o h'] at hown; cases hown
      · exact hC
    refine ⟨up ρ i r, HR, fun k v hk => ?_⟩
    simp only [initT] at hk
    rw [lk_cons] at hk
    by_cases e : i = k
    · subst e; rw [if_pos rfl] at hk; cases hk
      refine ⟨y, by simp, ?_⟩
      intro o ho
      simp only [initH] at ho
      rw [lk_same] at ho
      obtain rfl := Option.some.inj ho
      rw [up_same]
      refine ⟨A, c, e1, b1, b2, fun h0 => ?_, (fun h' => by cases h'), by simp [DO.sz, DO.cells, b3], bs⟩
      by_cases hl0 : 0 < l.length
      · obtain ⟨b, off, rfl, _⟩ := b4 hl0
        exact ⟨b, off, by simp [r, hl0], by simp⟩
      · exfalso
        apply hl0
        rw [b3]
        exact Nat.mul_pos h0 bs
    · rw [if_neg e] at hk
      obtain ⟨z, hz, hv⟩ := h2 k v hk
      have := initT_lt _ _ _ _ hk
      refine ⟨z, ?_, ?_⟩
      · rw [show k - i = (k - (i + 1)) + 1 from by omega]
        simpa using hz
      · refine hv.congr fun j hj => .inr ?_
        have hj' := initT_ids _ _ _ _ hk j hj
        simp only [initH]
        exact ⟨lk_ne _ _ (by omega), up_ne _ _ (by omega)⟩
  | .v _ :: _, _, [], h => h.elim
  | .sl _ _ _ _ :: _, _, [], h => h.elim

theorem fr_self (w : World) : FrC ⟨w, []⟩ w := ⟨rfl, rfl, rfl, Nat.le_refl _, fun _ _ _ => rfl⟩
theorem FrC.below {C : Ctx} {w : World} (h : FrC C w) (hX : C.X = []) : Below C.w0.heap.size C.w0 w := ⟨h.os, h.tape, h.output, h.size, fun k hk => h.block k hk (by rw [hX]; simp)⟩

theorem getD_args (args : List Value) (n k : Nat) (y : Value) (h : args[k]? = some y) : (args.toArray ++ Array.replicate (n - args.toArray.size) undef).getD k undef = y := by
  have hlt : k < args.length := (List.getElem?_eq_some_iff.1 h).1
  rw [Array.getD_eq_getD_getElem?, Array.getElem?_append_left (by simpa using hlt)]
  simp [h]

/-- from the plain machine's walk of a body to the contract of the function -/
theorem DFun.of {P : Program} {τ : List (Nat × TK)} (hτ : TyOK P τ) {f : FuncId} {fn : Func} {c : Code} {rs : List ResultVar} {N : Nat} {g : List AD → Option RD} (hf : P.funcs[f]? = some fn) (hb : fn.body = some c) (hname : (fn.name == "runtime.NumGoroutine") = false) (hrs : fn.results = rs.toArray) (hN : fn.ntmps = N)
    (h : ∀ (C : Ctx) (ds : List AD) (r : RD), g ds = some r → lensOK ds → ds.length ≤ N ∧ DW P C N c (Post τ rs r) (initT 0 ds) (initH 0 ds)) : DFun P f g where
  ent args w := by
    have hn : ¬ fn.name = "runtime.NumGoroutine" := by simpa using hname
    simp [callFunc, hf, hb, hn]
  calls w ds args r ha hg := by
    obtain ⟨hl, ρ, h1, h2⟩ := init_rel ⟨w, []⟩ w (fr_self w) ds 0 args ha
    have hlen := ha.length
    have hds := (h ⟨w, []⟩ ds r hg hl).1
    refine calls_of_wp hf hb ?_
    refine wp_mono ((h ⟨w, []⟩ ds r hg hl).2 _ w ⟨ρ, h1, fun k v hk => ?_, rfl, ?_⟩) ?_
    · obtain ⟨y, hy, hv⟩ := h2 k v hk
      rw [getD_args args _ k y (by simpa using hy)]
      exact hv
    · simp; omega
    · rintro e a w' ⟨T, H, hq, ρ', hr⟩
      have key : RetD τ rs r T H → a.defers = [] ∧ ∃ v, (results fn a.tmps).run P w' = .ok v w' ∧ ∃ y, Ending.returned v = .returned y ∧ Below w.heap.size w w' ∧ RDRel w.heap.size w' r y := by
        intro hret
        obtain ⟨y, h3, h4⟩ := results_ok hτ hr (fun id o g h1 h2 _ h3 => by simpa using hr.heap.old id o g h1 h2 h3) hrs hret
        exact ⟨hr.nd, y, h3, y, rfl, hr.heap.fr.below rfl, h4⟩
      cases e with
      | normal => exact key hq
      | ret => exact key hq
      | exit i => exact hq.elim
      | goto l => exact hq.elim
      | panic ch => exact hq.elim
      | outgrown => exact hq.elim

/-- a contract that was proved otherwise -/
theorem DFun.ofC {P : Program} {f : FuncId} {fn : Func} {c : Code} {g : List AD → Option RD} (hf : P.funcs[f]? = some fn) (hb : fn.body = some c) (hname : (fn.name == "runtime.NumGoroutine") = false)
    (h : ∀ (w : World) (ds : List AD) (args : List Value) (r : RD), All2 (ARel w) ds args → g ds = some r → Calls P f args.toArray w (fun e w' => ∃ y, e = .returned y ∧ Below w.heap.size w w' ∧ RDRel w.heap.size w' r y)) : DFun P f g where
  ent args w := by
    have hn : ¬ fn.name = "runtime.NumGoroutine" := by simpa using hname
    simp [callFunc, hf, hb, hn]
  calls := h
theorem args1 {w : World} {a : Value} {args : List Value} (h : All2 (ARel w) [.v a] args) : args = [a] := by
  rcases args with _ | ⟨x, _ | ⟨y, args⟩⟩
  · exact h.elim
  · have h1 : x = a := h.1
    rw [h1]
  · exact h.2.elim
theorem args2 {w : World} {a b : Value} {args : List Value} (h : All2 (ARel w) [.v a, .v b] args) : args = [a, b] := by
  rcases args with _ | ⟨x, _ | ⟨y, _ | ⟨z, args⟩⟩⟩
  · exact h.elim
  · exact h.2.elim
  · have h1 : x = a := h.1
    have h2 : y = b := h.2.1
    rw [h1, h2]
  · exact h.2.2.elim
theorem rd_vv {base : Nat} {w : World} {a b : Value} (ha : a.ownBlock = none) : RDRel base w (.tup [.v a, .v b]) (.tuple #[a, b]) :=
  ⟨[a, b], rfl, ⟨rfl, rfl, trivial⟩, by simp [SepV, ha]⟩
end Go.Proofs.Ytionljjdfgeggaa
