/-
  The plain machine, seventh part: the rule for regions that draw their order and whose operations turn objects.
-/
import Derived.Test.YtionljjdfgeggaaDen6
namespace Go.Proofs.Ytionljjdfgeggaa
open Go.RowKit
set_option linter.unusedVariables false
set_option linter.unusedSimpArgs false

section
variable {τ : List (Nat × TK)} {E : Env} {pk : FuncId} {ev ev' : Operand → Option DV} {G G' : DG} {nid : Nat}
theorem GStep.locPure {op : Op} {v : DV} {news : List DO} (h : GStep τ E ev G nid op v news) (hp : pureB op = true) (he : ∀ x ∈ op.operands.toList, ev x = ev' x) : GStep τ E ev' G' nid op v news := by
  have tr : ∀ {x : Operand} {d : DV}, ev x = some d → x ∈ op.operands.toList → ev' x = some d := fun h hx => (he _ hx) ▸ h
  cases h with
  | move h => exact .move (tr h (by simp [Op.operands]))
  | assign h => exact .assign (tr h (by simp [Op.operands]))
  | extr hx hc => exact .extr (tr hx (by simp [Op.operands])) hc
  | _ => simp [pureB] at hp
theorem MStep.loc {op : Op} {v : DV} {news : List DO} {u : Up} (h : MStep τ E pk ev G nid op v news u) (he : ∀ x ∈ op.operands.toList, ev x = ev' x)
    (hg : pureB op = false → ∀ x ∈ op.operands.toList, ∀ d, ev x = some d → ∀ id ∈ d.ids, G id = G' id) : MStep τ E pk ev' G' nid op v news u := by
  cases h with
  | g h =>
    cases hp : pureB op with
    | true => exact .g (h.locPure hp he)
    | false => exact .g (h.loc he (hg hp))
  | @pick x y ts id p gr A bs n hx hy hgt hp hn =>
    have hg := hg rfl
    have mx : x ∈ (Op.call { callee := .value (.func pk), args := #[x, y], argTypes := ts }).operands.toList := by simp [Op.operands, Call.operands]
    have my : y ∈ (Op.call { callee := .value (.func pk), args := #[x, y], argTypes := ts }).operands.toList := by simp [Op.operands, Call.operands]
    exact .pick ((he x mx) ▸ hx) ((he y my) ▸ hy) ((hg x mx _ hx _ (by simp [DV.ids])).symm.trans hgt) hp hn
  | @app s x ts e k id id2 off n m sz o2 xs ys ht he' hk hs hg1 hl hx hg2 hkd hsz hne hn hys =>
    have hg := hg rfl
    have ms : s ∈ (Op.call { callee := .builtin .append, args := #[s, x], argTypes := #[ts, ts] }).operands.toList := by simp [Op.operands, Call.operands]
    have mx : x ∈ (Op.call { callee := .builtin .append, args := #[s, x], argTypes := #[ts, ts] }).operands.toList := by simp [Op.operands, Call.operands]
    exact .app ht he' hk ((he s ms) ▸ hs) ((hg s ms _ hs _ (by simp [DV.ids])).symm.trans hg1) hl ((he x mx) ▸ hx) ((hg x mx _ hx _ (by simp [DV.ids])).symm.trans hg2) hkd hsz hne hn hys
theorem MStep.idsOf {op : Op} {v : DV} {news : List DO} {u : Up} (h : MStep τ E pk ev G nid op v news u) (id : Nat) (hid : id ∈ v.ids) : (∃ x ∈ op.operands.toList, ∃ d, ev x = some d ∧ id ∈ d.ids) ∨ ∃ k, k < news.length ∧ id = nid + 1000 * k := by
  cases h with
  | g h => exact h.idsOf id hid
  | pick hx hy hgt hp hn => simp [DV.ids] at hid
  | app ht he' hk hs hg1 hl hx hg2 hkd hsz hne hn hys => simp [DV.ids] at hid; exact .inr ⟨0, by simp, by simpa using hid⟩
theorem MStep.touch {op : Op} {v : DV} {news : List DO} {id : Nat} {o : Option DO} (h : MStep τ E pk ev G nid op v news (some (id, o))) : pureB op = false ∧ ∃ x ∈ op.operands.toList, ∃ d, ev x = some d ∧ id ∈ d.ids := by
  cases h with
  | @pick x y ts _ p gr A bs n hx hy hgt hp hn => exact ⟨rfl, x, by simp [Op.operands, Call.operands], _, hx, by simp [DV.ids]⟩
  | @app s x ts e k _ id2 off n m sz o2 xs ys ht he' hk hs hg1 hl hx hg2 hkd hsz hne hn hys => exact ⟨rfl, s, by simp [Op.operands, Call.operands], _, hs, by simp [DV.ids]⟩
end

structure Tr1M (τ : List (Nat × TK)) (E : Env) (pk : FuncId) (ops : Array Oper) (N : Nat) (t : DF) (G : DG) (o : Oper) (d : Nat) (v : DV) (news : List DO) (u : Up) : Prop where
  dst : o.dst = some d
  lt : d < N
  fresh : Fresh t d news.length
  step : (wants ops t o = some true ∧ MStep τ E pk (evf t) G d o.op v news u) ∨ (wants ops t o = some false ∧ v = .val undef ∧ news = [] ∧ u = none)
/-- the objects that an operation reads or turns -/
def touchL (ev : Operand → Option DV) (op : Op) : List Nat :=
  bif pureB op then [] else op.operands.toList.flatMap fun x => match ev x with
    | some d => d.ids
    | none => []
theorem touch_mem {ev : Operand → Option DV} {op : Op} {id : Nat} : id ∈ touchL ev op ↔ pureB op = false ∧ ∃ x ∈ op.operands.toList, ∃ d, ev x = some d ∧ id ∈ d.ids := by
  unfold touchL
  cases hp : pureB op with
  | true => simp
  | false =>
    simp only [cond_false, List.mem_flatMap, true_and]
    constructor
    · rintro ⟨x, hx, h⟩
      cases e : ev x with
      | none => rw [e] at h; cases h
      | some d => rw [e] at h; exact ⟨x, hx, d, e, h⟩
    · rintro ⟨x, hx, d, e, h⟩
      exact ⟨x, hx, by rw [e]; exact h⟩

/-- whoever touches a turned object is ordered with the one that turns it -/
def okTr (ops : Array Oper) (tr : List (List Nat × Option Nat)) : Bool :=
  (List.range tr.length).all fun j => match (tr.getD j ([], none)).2 with
    | none => true
    | some id => (List.range tr.length).all fun i => Nat.beq i j || (!((tr.getD i ([], none)).1.any (Nat.beq id)) || (bif Nat.blt j i then ancB ops 6 i j else ancB ops 6 j i))

section
variable {P : Program} {τ : List (Nat × TK)} {E : Env} {pk : FuncId} {ops : Array Oper} {N n1 : Nat} {C : Ctx}
variable (t0 : DF) (g0 : DG) (d : Nat → Nat) (v : Nat → DV) (nn : Nat → List DO) (uu : Nat → Up)
def ggM : Nat → DG
  | 0 => g0
  | k + 1 => addN (d k) (nn k) (updG (uu k) (ggM k))
def Aff (j id : Nat) : Prop := NewId d nn j id ∨ ∃ o, uu j = some (id, o)
variable {t0 g0 d v nn uu}
theorem stepG_other {G : DG} {j id : Nat} (h : ¬ Aff d nn uu j id) : addN (d j) (nn j) (updG (uu j) G) id = G id := by
  rw [addN_out _ _ _ _ (fun p hp e => h (.inl ⟨p, hp, e⟩))]
  cases hu : uu j with
  | none => rfl
  | some q =>
    obtain ⟨i, o⟩ := q
    simp only [updG]
    rw [if_neg]
    rintro rfl
    exact h (.inr ⟨o, hu⟩)
theorem stepG_cong {G G2 : DG} {j id : Nat} (h : G id = G2 id) : addN (d j) (nn j) (updG (uu j) G) id = addN (d j) (nn j) (updG (uu j) G2) id := by
  by_cases hn : ∃ p, p < (nn j).length ∧ id = d j + 1000 * p
  · obtain ⟨p, hp, rfl⟩ := hn
    rw [addN_in _ _ _ _ hp, addN_in _ _ _ _ hp]
  · have ho : ∀ p, p < (nn j).length → id ≠ d j + 1000 * p := fun p hp e => hn ⟨p, hp, e⟩
    rw [addN_out _ _ _ _ ho, addN_out _ _ _ _ ho]
    cases uu j with
    | none => exact h
    | some q =>
      obtain ⟨i, o⟩ := q
      simp only [updG]
      split
      · rfl
      · exact h
theorem ggM_same {id k k' : Nat} (hk : k ≤ k') (h : ∀ j, k ≤ j → j < k' → ¬ Aff d nn uu j id) : ggM g0 d nn uu k' id = ggM g0 d nn uu k id := by
  induction k' with
  | zero => obtain rfl : k = 0 := by omega
            rfl
  | succ k' ih =>
    by_cases e : k = k' + 1
    · rw [e]
    · rw [ggM, stepG_other (h k' (by omega) (by omega))]
      exact ih (by omega) (fun j h1 h2 => h j h1 (by omega))

structure TrM (P : Program) (τ : List (Nat × TK)) (E : Env) (pk : FuncId) (ops : Array Oper) (N n1 : Nat) (t0 : DF) (g0 : DG) (o : Nat → Oper) (d : Nat → Nat) (v : Nat → DV) (nn : Nat → List DO) (uu : Nat → Up) : Prop where
  op : ∀ i, i < n1 → ops[i]? = some (o i)
  one : ∀ i, i < n1 → Tr1M τ E pk ops N (tt t0 d v i) (ggM g0 d nn uu i) (o i) (d i) (v i) (nn i) (uu i)
  ok : ∀ i j id x, i < n1 → j < n1 → i ≠ j → uu j = some (id, x) → wants ops (tt t0 d v i) (o i) = some true → id ∈ touchL (evf (tt t0 d v i)) (o i).op → (j < i ∧ AncD ops (o i) j) ∨ (i < j ∧ AncD ops (o j) i)

variable {o : Nat → Oper}
theorem TrM.inj (hT : TrM P τ E pk ops N n1 t0 g0 o d v nn uu) (hC : Chk ops n1) : ∀ i j, i < n1 → j < n1 → d i = d j → i = j := by
  intro i j hi hj he
  by_cases e : i = j
  · exact e
  · exfalso
    refine hC.apart i j _ _ (d j) e (hT.op i hi) (hT.op j hj) (hT.one j hj).dst ?_
    rw [(hT.one i hi).dst, he]
theorem TrM.small (hT : TrM P τ E pk ops N n1 t0 g0 o d v nn uu) (hC : Chk ops n1) : ∀ i, i < n1 → d i < 1000 := by
  intro i hi
  obtain ⟨d', h1, h2, _⟩ := hC.dst i _ (hT.op i hi) hi
  rw [(hT.one i hi).dst] at h1
  cases h1
  exact h2
theorem TrM.slot (hT : TrM P τ E pk ops N n1 t0 g0 o d v nn uu) (hC : Chk ops n1) {i x : Nat} (hi : i < n1) (hx : x ∈ (o i).looksAt ops) : (∀ j, j < n1 → d j ≠ x) ∨ ∃ j, j < i ∧ d j = x ∧ dependB (o i) j = true := by
  by_cases h : ∃ j, j < n1 ∧ d j = x
  · obtain ⟨j, hj, rfl⟩ := h
    by_cases e : i = j
    · subst e
      exfalso
      obtain ⟨d', h1, _, h3⟩ := hC.dst i _ (hT.op i hi) hi
      rw [(hT.one i hi).dst] at h1
      cases h1
      exact h3 hx
    · rcases hC.look i j _ _ (d j) e (hT.op i hi) (hT.op j hj) (hT.one j hj).dst hx with h1 | ⟨h1, _⟩
      · obtain ⟨ed, he, hb, ho⟩ := dependB_spec h1
        have := hC.back i _ ed (hT.op i hi) he hb
        exact .inr ⟨j, by omega, rfl, h1⟩
      · omega
  · left
    intro j hj e
    exact h ⟨j, hj, e⟩
theorem TrM.out_ids (hT : TrM P τ E pk ops N n1 t0 g0 o d v nn uu) {x : Nat} {u : DV} {id m : Nat} (hx : ∀ j, j < n1 → d j ≠ x) (hu : t0 x = some u) (hid : id ∈ u.ids) (hm : m < n1) : ¬ NewId d nn m id := by
  rintro ⟨p, hp, rfl⟩
  have hf := (hT.one m hm).fresh
  exact hf x u (by rw [tt_out (fun j hj => hx j (by omega))]; exact hu) (Ne.symm (hx m hm)) p hp hid
theorem TrM.reach (hT : TrM P τ E pk ops N n1 t0 g0 o d v nn uu) (hC : Chk ops n1) {L : Nat → Bool} (hL : Closed ops L) : ∀ (j : Nat), j < n1 → ∀ id, id ∈ (v j).ids → ∀ m, m < n1 → NewId d nn m id → m ≤ j ∧ (L j = true → L m = true) := by
  intro j
  induction j using Nat.strongRecOn with
  | _ j ih =>
    intro hj id hid m hm hn
    have h1 := hT.one j hj
    rcases h1.step with ⟨_, hg⟩ | ⟨_, hv, _⟩
    · rcases hg.idsOf id hid with ⟨x, hx, u, hu, hidu⟩ | ⟨k, hk, e⟩
      · cases x with
        | tmp y =>
          rcases hT.slot hC hj (mem_looks hx) with h2 | ⟨j', hj', rfl, hdep⟩
          · exfalso
            have hu' : tt t0 d v j y = some u := hu
            rw [tt_out (fun i hi => h2 i (by omega))] at hu'
            exact hT.out_ids h2 hu' hidu hm hn
          · have hu' : tt t0 d v j (d j') = some u := hu
            rw [tt_in (hT.inj hC) (by omega) hj'] at hu'
            cases hu'
            obtain ⟨r1, r2⟩ := ih j' hj' (by omega) id hidu m hm hn
            refine ⟨by omega, fun hLj => r2 ?_⟩
            obtain ⟨e, he, hb, ho⟩ := dependB_spec hdep
            rw [← ho]
            exact hL j _ e (hT.op j hj) hLj he hb
        | const c => simp [evf] at hu; subst hu; simp [DV.ids] at hidu
        | global g => cases hu
        | func f => cases hu
      · have := NewId.inj (hT.inj hC) (hT.small hC) hm hj hn ⟨k, hk, e⟩
        subst this
        exact ⟨Nat.le_refl _, fun h => h⟩
    · rw [hv] at hid; simp [DV.ids] at hid
/-- a touched object's maker comes before -/
theorem TrM.maker (hT : TrM P τ E pk ops N n1 t0 g0 o d v nn uu) (hC : Chk ops n1) {L : Nat → Bool} (hL : Closed ops L) {i id m : Nat} (hi : i < n1) (hm : m < n1) (ht : id ∈ touchL (evf (tt t0 d v i)) (o i).op) (hn : NewId d nn m id) :
    m < i ∧ ((∀ e ∈ (o i).after, Region.binds .any e = true → L e.on = true) → L m = true) := by
  obtain ⟨_, x, hx, u, hu, hid⟩ := touch_mem.1 ht
  cases x with
  | tmp y =>
    rcases hT.slot hC hi (mem_looks hx) with h2 | ⟨j', hj', rfl, hdep⟩
    · exfalso
      have hu' : tt t0 d v i y = some u := hu
      rw [tt_out (fun i hi => h2 i (by omega))] at hu'
      exact hT.out_ids h2 hu' hid hm hn
    · have hu' : tt t0 d v i (d j') = some u := hu
      rw [tt_in (hT.inj hC) (by omega) hj'] at hu'
      cases hu'
      obtain ⟨r1, r2⟩ := hT.reach hC hL j' (by omega) id hid m hm hn
      refine ⟨by omega, fun hd => r2 ?_⟩
      obtain ⟨e, he, hb, ho⟩ := dependB_spec hdep
      rw [← ho]
      exact hd e he hb
  | const c => simp [evf] at hu; subst hu; simp [DV.ids] at hid
  | global g => cases hu
  | func f => cases hu
theorem TrM.upd (hT : TrM P τ E pk ops N n1 t0 g0 o d v nn uu) {j id : Nat} {x : Option DO} (hj : j < n1) (h : uu j = some (id, x)) : wants ops (tt t0 d v j) (o j) = some true ∧ id ∈ touchL (evf (tt t0 d v j)) (o j).op := by
  rcases (hT.one j hj).step with ⟨h1, h2⟩ | ⟨_, _, _, h4⟩
  · rw [h] at h2
    exact ⟨h1, touch_mem.2 h2.touch⟩
  · rw [h] at h4; cases h4

/-- for an operation that is about to be done: of the operations that make or turn what it touches, the earlier ones are done, the later ones not -/
theorem TrM.ord (hT : TrM P τ E pk ops N n1 t0 g0 o d v nn uu) (hC : Chk ops n1) {L : Nat → Bool} (hL : Closed ops L) {i : Nat} (hi : i < n1) (hLi : L i = false) (hdeps : ∀ e ∈ (o i).after, Region.binds .any e = true → L e.on = true) (hw : wants ops (tt t0 d v i) (o i) = some true)
    {id : Nat} (ht : id ∈ touchL (evf (tt t0 d v i)) (o i).op) : ∀ j, j < n1 → Aff d nn uu j id → (L j = true ↔ j < i) := by
  intro j hj ha
  by_cases e : j = i
  · subst e; rw [hLi]; simp
  rcases ha with ha | ⟨x, ha⟩
  · obtain ⟨h1, h2⟩ := hT.maker hC hL hi hj ht ha
    exact ⟨fun _ => h1, fun _ => h2 hdeps⟩
  · rcases hT.ok i j id x hi hj (Ne.symm e) ha hw ht with ⟨h1, h2⟩ | ⟨h1, h2⟩
    · exact ⟨fun _ => h1, fun _ => h2 L hL hdeps⟩
    · refine ⟨fun hLj => ?_, fun h => by omega⟩
      have := h2 L hL (fun e' he' hb' => hL j _ e' (hT.op j hj) hLj he' hb')
      rw [hLi] at this; cases this
theorem TrM.ordNew (hT : TrM P τ E pk ops N n1 t0 g0 o d v nn uu) (hC : Chk ops n1) {L : Nat → Bool} (hL : Closed ops L) {i : Nat} (hi : i < n1) (hLi : L i = false) {id : Nat} (hn : NewId d nn i id) : ∀ j, j < n1 → Aff d nn uu j id → (L j = true ↔ j < i) := by
  intro j hj ha
  by_cases e : j = i
  · subst e; rw [hLi]; simp
  rcases ha with ha | ⟨x, ha⟩
  · exact absurd (NewId.inj (hT.inj hC) (hT.small hC) hj hi ha hn) e
  · obtain ⟨h1, h2⟩ := hT.maker hC hL hj hi (hT.upd hj ha).2 hn
    refine ⟨fun hLj => ?_, fun h => by omega⟩
    have := h2 (fun e' he' hb' => hL j _ e' (hT.op j hj) hLj he' hb')
    rw [hLi] at this; cases this

structure CharM (n1 : Nat) (t0 : DF) (g0 : DG) (d : Nat → Nat) (v : Nat → DV) (nn : Nat → List DO) (uu : Nat → Up) (t : DF) (G : DG) (L : Nat → Bool) : Prop where
  c1 : ∀ j, j < n1 → L j = true → t (d j) = some (v j)
  c2 : ∀ j, j < n1 → L j = false → t (d j) = none
  c3 : ∀ x, (∀ j, j < n1 → d j ≠ x) → t x = t0 x
  c4 : ∀ id k, k ≤ n1 → (∀ j, j < n1 → Aff d nn uu j id → (L j = true ↔ j < k)) → G id = ggM g0 d nn uu k id

theorem TrM.charStep (hT : TrM P τ E pk ops N n1 t0 g0 o d v nn uu) (hC : Chk ops n1) {L : Nat → Bool} (hL : Closed ops L) {t : DF} {G : DG} (h : CharM n1 t0 g0 d v nn uu t G L) {i : Nat} (hi : i < n1) (hLi : L i = false)
    (hdeps : ∀ e ∈ (o i).after, Region.binds .any e = true → L e.on = true) : CharM n1 t0 g0 d v nn uu (tup t (d i) (v i)) (addN (d i) (nn i) (updG (uu i) G)) (Lp L i) := by
  have hd := hT.inj hC
  constructor
  · intro j hj hLj
    unfold tup
    by_cases e : j = i
    · subst e; simp
    · rw [if_neg (fun e' => e (hd i j hi hj e').symm)]
      exact h.c1 j hj (by simpa [Lp, e] using hLj)
  · intro j hj hLj
    unfold tup
    by_cases e : j = i
    · subst e; simp [Lp] at hLj
    · rw [if_neg (fun e' => e (hd i j hi hj e').symm)]
      exact h.c2 j hj (by simpa [Lp, e] using hLj)
  · intro x hx
    unfold tup
    rw [if_neg (hx i hi)]
    exact h.c3 x hx
  · intro id k hk hord
    by_cases ha : Aff d nn uu i id
    · have ho : ∀ j, j < n1 → Aff d nn uu j id → (L j = true ↔ j < i) := by
        rcases ha with hn | ⟨x, hx⟩
        · exact hT.ordNew hC hL hi hLi hn
        · exact hT.ord hC hL hi hLi hdeps (hT.upd hi hx).1 (hT.upd hi hx).2
      have hik : i < k := (hord i hi ha).1 (by simp [Lp])
      have e1 := h.c4 id i (by omega) ho
      have e2 : ggM g0 d nn uu k id = ggM g0 d nn uu (i + 1) id := by
        refine ggM_same (by omega) fun j hj1 hj2 hj3 => ?_
        have h1 := (hord j (by omega) hj3).2 hj2
        have h2 : L j = true := by simpa [Lp, show j ≠ i by omega] using h1
        have := (ho j (by omega) hj3).1 h2
        omega
      rw [e2]
      exact stepG_cong e1
    · rw [stepG_other ha]
      refine h.c4 id k hk fun j hj hja => ?_
      have hne : j ≠ i := fun e => ha (e ▸ hja)
      have := hord j hj hja
      simpa [Lp, hne] using this

theorem TrM.agree (hT : TrM P τ E pk ops N n1 t0 g0 o d v nn uu) (hC : Chk ops n1) {L : Nat → Bool} {t : DF} {G : DG} (hc : CharM n1 t0 g0 d v nn uu t G L) {i : Nat} (hi : i < n1)
    (hdeps : ∀ e ∈ (o i).after, Region.binds .any e = true → L e.on = true) : ∀ y ∈ (o i).looksAt ops, t y = tt t0 d v i y := by
  have hdep : ∀ j, dependB (o i) j = true → L j = true := fun j h => by
    obtain ⟨e, he, hb, ho⟩ := dependB_spec h
    rw [← ho]; exact hdeps e he hb
  intro y hy
  rcases hT.slot hC hi hy with h2 | ⟨j, hj, rfl, hd'⟩
  · rw [hc.c3 y h2, tt_out (fun j hj => h2 j (by omega))]
  · rw [hc.c1 j (by omega) (hdep j hd'), tt_in (hT.inj hC) (by omega) hj]

theorem TrM.fresh' (hT : TrM P τ E pk ops N n1 t0 g0 o d v nn uu) (hC : Chk ops n1) {L : Nat → Bool} (hL : Closed ops L) {t : DF} {G : DG} (hc : CharM n1 t0 g0 d v nn uu t G L) {i : Nat} (hi : i < n1) (hLi : L i = false) : Fresh t (d i) (nn i).length := by
  intro x u hu hne k hk hid
  by_cases h : ∃ j, j < n1 ∧ d j = x
  · obtain ⟨j, hj, rfl⟩ := h
    cases hLj : L j with
    | false => rw [hc.c2 j hj hLj] at hu; cases hu
    | true =>
      rw [hc.c1 j hj hLj] at hu
      cases hu
      have := (hT.reach hC hL j hj _ hid i hi ⟨k, hk, rfl⟩).2 hLj
      rw [hLi] at this; cases this
  · have hx : ∀ j, j < n1 → d j ≠ x := fun j hj e => h ⟨j, hj, e⟩
    rw [hc.c3 x hx] at hu
    exact hT.out_ids hx hu hid hi ⟨k, hk, rfl⟩

theorem SimR.stepM {t : DF} {G : DG} {ρ : Nat → Loc} {a : Act} {w : World} (h : SimR C N t G ρ a w) {d : Nat} (hd : d < N) {v : DV} {news : List DO} {u : Up} (hf : Fresh t d news.length)
    {ρ' : Nat → Loc} {v' : Value} {w' : World} (h1 : HRel C (addN d news (updG u G)) ρ' w') (h2 : VRel ρ' (addN d news (updG u G)) v v')
    (h3 : ∀ x y, (∀ k, k < news.length → d + 1000 * k ∉ DV.ids x) → VRel ρ G x y → VRel ρ' (addN d news (updG u G)) x y) :
    SimR C N (tup t d v) (addN d news (updG u G)) ρ' (a.put (some d) v') w' := by
  refine ⟨h1, fun x y hx => ?_, h.nd, by simp [Act.put, h.sz]⟩
  rw [put_get h.sz hd]
  unfold tup at hx
  by_cases e : d = x
  · rw [if_pos e] at hx ⊢
    obtain rfl := Option.some.inj hx
    exact h2
  · rw [if_neg e] at hx ⊢
    exact h3 _ _ (fun k hk => hf x y hx (Ne.symm e) k hk) (h.tm x y hx)

theorem TrM.go (hτ : TyOK P τ) (hE : EnvOK P E) (hpk : DPick P pk) (hT : TrM P τ E pk ops N n1 t0 g0 o d v nn uu) (hC : Chk ops n1) {L : Nat → Bool} (hL : Closed ops L) {t : DF} {G : DG} {ρ : Nat → Loc} {a : Act} {w : World} (hr : SimR C N t G ρ a w)
    (hc : CharM n1 t0 g0 d v nn uu t G L) {i : Nat} (hi : i < n1) (hLi : L i = false) (hdeps : ∀ e ∈ (o i).after, Region.binds .any e = true → L e.on = true) {K : Act → World → Prop} {Q : Exit → Act → World → Prop}
    (hK : ∀ t' G' ρ' a' w', SimR C N t' G' ρ' a' w' → CharM n1 t0 g0 d v nn uu t' G' (Lp L i) → K a' w') : wpOp P ops Q i K a w := by
  have ag1 := hT.agree hC hc hi hdeps
  have h1 := hT.one i hi
  have hw : wants ops t (o i) = wants ops (tt t0 d v i) (o i) := wants_congr ag1
  have hcs := hT.charStep hC hL hc hi hLi hdeps
  have hfr := hT.fresh' hC hL hc hi hLi
  unfold wpOp
  rw [hT.op i hi]
  simp only
  rcases h1.step with ⟨hwt, hg⟩ | ⟨hwf, hv, hn, hu⟩
  · rw [if_pos (wants_ok (ops := ops) hr (hw.trans hwt))]
    have hev : ∀ x ∈ (o i).op.operands.toList, evf (tt t0 d v i) x = evf t x := by
      intro x hx
      cases x with
      | tmp y => exact (ag1 y (mem_looks hx)).symm
      | _ => rfl
    have hg' : MStep τ E pk (evf t) G (d i) (o i).op (v i) (nn i) (uu i) := by
      refine hg.loc hev ?_
      intro hp x hx u hu id hid
      exact (hc.c4 id i (by omega) (hT.ord hC hL hi hLi hdeps hwt (touch_mem.2 ⟨hp, x, hx, u, hu, hid⟩))).symm
    refine .inl (M_sound hτ hE hpk hr.heap (ev := evf t) (nid := d i) (a := a) (fun x _ dv hx => hr.ev x dv hx) hg' ?_)
    intro ρ' v' w' k1 k2 k3
    rw [h1.dst]
    exact hK _ _ ρ' _ w' (hr.stepM h1.lt hfr k1 k2 k3) hcs
  · rw [if_neg (by rw [wants_ok (ops := ops) hr (hw.trans hwf)]; simp), h1.dst]
    rw [hv, hn, hu] at hcs
    have := hr.step (P := P) (d := d i) (v := .val undef) (news := []) h1.lt (fun _ _ _ _ k hk => absurd hk (by simp)) (ρ' := ρ) (v' := undef) (w' := w) hr.heap rfl (fun id _ => ⟨rfl, rfl⟩)
    exact hK _ _ ρ _ w this hcs

theorem any_okM (hτ : TyOK P τ) (hE : EnvOK P E) (hpk : DPick P pk) {l : List Oper} (hT : TrM P τ E pk l.toArray N n1 t0 g0 o d v nn uu) (hC : Chk l.toArray n1) (hS : ∀ i j oi, l.toArray[i]? = some oi → n1 ≤ i → j < n1 → AncD l.toArray oi j) {Q : Exit → Act → World → Prop}
    (htail : ∀ a w, (∃ t G ρ, SimR C N t G ρ a w ∧ CharM n1 t0 g0 d v nn uu t G (fun _ => true)) → wpList P l.toArray Q (l.drop n1) a w) :
    ∀ (fuel : Nat) (listed : Array Bool) (a : Act) (w : World), listed.size = l.length → cntL listed.toList = fuel → Closed l.toArray (fun j => listed.getD j false) → (∀ j, n1 ≤ j → j < l.length → listed.getD j true = false) →
      (∃ t G ρ, SimR C N t G ρ a w ∧ CharM n1 t0 g0 d v nn uu t G (fun j => listed.getD j false)) → wpAny P .any l.toArray Q fuel listed a w := by
  have hn : n1 ≤ l.length := by simpa using hC.le
  have whole : ∀ (listed : Array Bool) (t : DF) (G : DG), (∀ j, j < n1 → listed.getD j false = true) → CharM n1 t0 g0 d v nn uu t G (fun j => listed.getD j false) → CharM n1 t0 g0 d v nn uu t G (fun _ => true) := by
    intro listed t G hall hc
    refine ⟨fun j hj _ => hc.c1 j hj (hall j hj), fun j _ h => (by cases h), hc.c3, fun id k hk ho => hc.c4 id k hk fun j hj ha => ?_⟩
    have := ho j hj ha
    simp only [true_iff] at this
    simp only [hall j hj, true_iff]
    exact this
  intro fuel
  induction fuel with
  | zero =>
    intro listed a w hs hcnt hcl ht hinv
    have hall : ∀ j, j < l.length → listed.getD j false = true := by
      intro j hj
      have := cntL_zero listed.toList hcnt j (listed[j]'(by omega)) (by simp [show j < listed.size by omega])
      simp [show j < listed.size by omega, this]
    have hn' : n1 = l.length := by
      rcases Nat.lt_or_ge n1 l.length with h' | h'
      · have h1 := ht n1 (Nat.le_refl _) h'
        have h2 := hall n1 h'
        simp [show n1 < listed.size by omega] at h1 h2
        rw [h1] at h2; cases h2
      · omega
    refine tail_seq hC 0 n1 listed a w (by omega) (Nat.le_refl _) hs (fun j hj => hall j (by omega)) (fun j h1 h2 => by omega) (htail a w ?_)
    obtain ⟨t, G, ρ, hr, hc⟩ := hinv
    exact ⟨t, G, ρ, hr, whole listed t G (fun j hj => hall j (by omega)) hc⟩
  | succ fuel ih =>
    intro listed a w hs hcnt hcl ht hinv
    by_cases hall : ∀ j, j < n1 → listed.getD j false = true
    · have hcount : fuel + 1 = l.length - n1 := by
        have hlist : listed.toList = List.replicate n1 true ++ List.replicate (l.length - n1) false := by
          apply List.ext_getElem?
          intro j
          by_cases h1 : j < n1
          · have := hall j h1
            rw [List.getElem?_append_left (by simpa using h1)]
            simp [show j < listed.size by omega] at this
            simp [h1, show j < listed.size by omega, this]
          · by_cases h2 : j < l.length
            · have := ht j (by omega) h2
              simp [show j < listed.size by omega] at this
              rw [List.getElem?_append_right (by simp; omega)]
              simp [show j < listed.size by omega, this, List.getElem?_replicate]
              omega
            · rw [List.getElem?_eq_none (by simp; omega), List.getElem?_eq_none (by simp; omega)]
        rw [← hcnt, hlist]
        simp [cntL]
      refine tail_seq hC (fuel + 1) n1 listed a w (by omega) (Nat.le_refl _) hs hall ht (htail a w ?_)
      obtain ⟨t, G, ρ, hr, hc⟩ := hinv
      exact ⟨t, G, ρ, hr, whole listed t G hall hc⟩
    · have hex : ∃ j, j < n1 ∧ listed.getD j false = false := by
        apply Classical.byContradiction
        intro hno
        refine hall fun j hj => ?_
        cases h : listed.getD j false with
        | true => rfl
        | false => exact absurd ⟨j, hj, h⟩ hno
      obtain ⟨j0, hj0, hu0, hleast⟩ := least hex
      have hready0 : j0 ∈ Region.ready .any l.toArray listed := by
        refine mem_ready.2 ⟨?_, o j0, hT.op j0 hj0, fun e he hb => hleast _ (hC.back j0 _ e (hT.op j0 hj0) he hb)⟩
        simpa [show j0 < listed.size by omega] using hu0
      refine ⟨fun h0 => ?_, fun i hi => ?_⟩
      · rw [h0] at hready0; cases hready0
      · obtain ⟨hlt, hLi, hsome⟩ := ready_lt (by simpa using hs) hi
        obtain ⟨_, oi, hoi, hdeps⟩ := mem_ready.1 hi
        have hi1 : i < n1 := by
          rcases Nat.lt_or_ge i n1 with h' | h'
          · exact h'
          · exfalso
            have := hS i j0 oi hoi h' hj0 _ hcl hdeps
            rw [hu0] at this; cases this
        rw [hT.op i hi1] at hoi
        cases hoi
        obtain ⟨t, G, ρ, hr, hc⟩ := hinv
        refine hT.go hτ hE hpk hC hcl hr hc hi1 hLi hdeps (fun t' G' ρ' a' w' h1 h2 => ?_)
        refine ih _ a' w' (by simpa using hs) ?_ (closed_set hcl (by simpa using hs) hi) ?_ ⟨t', G', ρ', h1, ?_⟩
        · have := cntL_set listed.toList i (by simpa using hsome)
          rw [Array.toList_setIfInBounds]
          omega
        · intro j hj hj'
          rw [getD_set_ne true (by omega)]
          exact ht j hj hj'
        · rw [set_Lp hlt]; exact h2
end
end Go.Proofs.Ytionljjdfgeggaa
