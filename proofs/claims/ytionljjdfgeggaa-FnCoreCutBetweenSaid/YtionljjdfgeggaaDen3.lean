/-
  The plain machine, third part: regions that draw their order.
-/
import Derived.Test.YtionljjdfgeggaaDen2
namespace Go.Proofs.Ytionljjdfgeggaa
open Go.RowKit
set_option linter.unusedVariables false
set_option linter.unusedSimpArgs false
/-! ## Regions that draw their order: steps that make objects in whatever order, then the rest in the order of the text -/
def dependB (o : Oper) (j : Nat) : Bool := o.after.any fun e => Region.binds .any e && Nat.beq e.on j
def pureB : Op → Bool
  | .move _ | .assign _ | .extract _ _ => true
  | _ => false
def ancB (ops : Array Oper) : Nat → Nat → Nat → Bool
  | 0, _, _ => false
  | f + 1, i, j => match ops[i]? with
    | none => false
    | some o => o.after.any fun e => Region.binds .any e && (Nat.beq e.on j || ancB ops f e.on j)
def chkP (ops : Array Oper) (n1 i j : Nat) (oi oj : Oper) : Bool :=
  (match oj.dst with
   | none => true
   | some d => (oi.dst != some d) && (!(oi.looksAt ops).contains d || dependB oi j || (Nat.ble n1 j && dependB oj i))) &&
  (!(Nat.ble n1 i && Nat.blt j i) || (dependB oi j || (Nat.blt j n1 && pureB oj.op) || ancB ops 6 i j))
def chk1 (ops : Array Oper) (n1 N i : Nat) (oi : Oper) : Bool :=
  oi.after.all (fun e => !Region.binds .any e || Nat.blt e.on i) && (match oi.dst with | none => Nat.ble n1 i | some d => Nat.blt d 1000 && (Nat.ble n1 i || !(oi.looksAt ops).contains d))
def chk (ops : Array Oper) (n1 N : Nat) : Bool :=
  Region.noSelect ops && Nat.ble n1 ops.size &&
  (List.range ops.size).all fun i => match ops[i]? with
    | none => false
    | some oi => chk1 ops n1 N i oi && (List.range ops.size).all fun j => Nat.beq j i || match ops[j]? with
      | none => false
      | some oj => chkP ops n1 i j oi oj

def Closed (ops : Array Oper) (L : Nat → Bool) : Prop := ∀ (i : Nat) (oi : Oper) (e : Edge), ops[i]? = some oi → L i = true → e ∈ oi.after → Region.binds .any e = true → L e.on = true
def AncD (ops : Array Oper) (oi : Oper) (j : Nat) : Prop := ∀ L : Nat → Bool, Closed ops L → (∀ e ∈ oi.after, Region.binds .any e = true → L e.on = true) → L j = true
theorem anc_ok {ops : Array Oper} : ∀ (f i j : Nat) (oi : Oper), ops[i]? = some oi → ancB ops f i j = true → AncD ops oi j
  | 0, i, j, oi, _, h => by simp [ancB] at h
  | f + 1, i, j, oi, ho, h => by
    intro L hL hd
    simp only [ancB, ho, Array.any_eq_true'] at h
    obtain ⟨e, he, hb⟩ := h
    simp only [Bool.and_eq_true, Bool.or_eq_true] at hb
    have h1 := hd e he hb.1
    rcases hb.2 with h2 | h2
    · rw [← Nat.eq_of_beq_eq_true h2]; exact h1
    · cases hn : ops[e.on]? with
      | none => cases f <;> simp [ancB, hn] at h2
      | some o2 => exact anc_ok f e.on j o2 hn h2 L hL (fun e' he' hb' => hL e.on o2 e' hn h1 he' hb')
theorem anc_dep {ops : Array Oper} {oi : Oper} {j : Nat} (h : dependB oi j = true) : AncD ops oi j := by
  intro L _ hd
  simp only [dependB, Array.any_eq_true'] at h
  obtain ⟨e, he, hb⟩ := h
  simp only [Bool.and_eq_true] at hb
  rw [← Nat.eq_of_beq_eq_true hb.2]
  exact hd e he hb.1
structure Chk (ops : Array Oper) (n1 : Nat) : Prop where
  sel : Region.noSelect ops = true
  le : n1 ≤ ops.size
  back : ∀ (i : Nat) (oi : Oper) (e : Edge), ops[i]? = some oi → e ∈ oi.after → Region.binds .any e = true → e.on < i
  dst : ∀ (i : Nat) (oi : Oper), ops[i]? = some oi → i < n1 → ∃ d, oi.dst = some d ∧ d < 1000 ∧ d ∉ oi.looksAt ops
  apart : ∀ (i j : Nat) (oi oj : Oper) (d : Tmp), i ≠ j → ops[i]? = some oi → ops[j]? = some oj → oj.dst = some d → oi.dst ≠ some d
  look : ∀ (i j : Nat) (oi oj : Oper) (d : Tmp), i ≠ j → ops[i]? = some oi → ops[j]? = some oj → oj.dst = some d → d ∈ oi.looksAt ops → dependB oi j = true ∨ (n1 ≤ j ∧ dependB oj i = true)
  tail : ∀ (i j : Nat) (oi oj : Oper), ops[i]? = some oi → ops[j]? = some oj → n1 ≤ i → j < i → AncD ops oi j ∨ (j < n1 ∧ pureB oj.op = true)

theorem chk_ok {ops : Array Oper} {n1 N : Nat} (h : chk ops n1 N = true) : Chk ops n1 := by
  simp only [chk, Bool.and_eq_true, List.all_eq_true, List.mem_range] at h
  obtain ⟨⟨h1, h2⟩, h3⟩ := h
  have hlt : ∀ {i : Nat} {o : Oper}, ops[i]? = some o → i < ops.size := fun ho => (Array.getElem?_eq_some_iff.1 ho).1
  have one : ∀ (i : Nat) (oi : Oper), ops[i]? = some oi → chk1 ops n1 N i oi = true := by
    intro i oi hi
    have := h3 i (hlt hi)
    rw [hi] at this
    simp only [Bool.and_eq_true] at this
    exact this.1
  have two : ∀ (i j : Nat) (oi oj : Oper), i ≠ j → ops[i]? = some oi → ops[j]? = some oj → chkP ops n1 i j oi oj = true := by
    intro i j oi oj hne hi hj
    have := h3 i (hlt hi)
    rw [hi] at this
    simp only [Bool.and_eq_true, List.all_eq_true, List.mem_range] at this
    have h4 := this.2 j (hlt hj)
    rw [hj] at h4
    simp only [Bool.or_eq_true] at h4
    rcases h4 with h4 | h4
    · exact absurd (Nat.eq_of_beq_eq_true h4).symm hne
    · exact h4
  refine ⟨h1, Nat.le_of_ble_eq_true h2, ?_, ?_, ?_, ?_, ?_⟩
  · intro i oi e hi he hb
    have := one i oi hi
    simp only [chk1, Bool.and_eq_true, Array.all_eq_true_iff_forall_mem] at this
    have h4 := this.1 e he
    rw [hb] at h4
    simpa using h4
  · intro i oi hi hn
    have := one i oi hi
    simp only [chk1, Bool.and_eq_true] at this
    cases hd : oi.dst with
    | none => rw [hd] at this; have := Nat.le_of_ble_eq_true this.2; omega
    | some d =>
      rw [hd] at this
      simp only [Bool.and_eq_true, Bool.or_eq_true] at this
      refine ⟨d, rfl, Nat.le_of_ble_eq_true this.2.1, fun hm => ?_⟩
      rcases this.2.2 with h4 | h4
      · have := Nat.le_of_ble_eq_true h4; omega
      · simp [hm] at h4
  · intro i j oi oj d hne hi hj hd
    have := two i j oi oj hne hi hj
    simp only [chkP, hd, Bool.and_eq_true] at this
    simpa using this.1.1
  · intro i j oi oj d hne hi hj hd hl
    have := two i j oi oj hne hi hj
    simp only [chkP, hd, Bool.and_eq_true, Bool.or_eq_true] at this
    rcases this.1.2 with (h4 | h4) | h4
    · simp [hl] at h4
    · exact .inl h4
    · exact .inr ⟨Nat.le_of_ble_eq_true h4.1, h4.2⟩
  · intro i j oi oj hi hj hn hlt'
    have := two i j oi oj (by omega) hi hj
    simp only [chkP, Bool.and_eq_true, Bool.or_eq_true] at this
    rcases this.2 with h4 | (h4 | h4) | h4
    · rw [Bool.not_eq_true', Bool.and_eq_false_iff] at h4
      rcases h4 with h5 | h5
      · rw [Nat.ble_eq_true_of_le hn] at h5; cases h5
      · have : Nat.blt j i = true := Nat.ble_eq_true_of_le hlt'
        rw [this] at h5; cases h5
    · exact .inl (anc_dep h4)
    · exact .inr ⟨Nat.le_of_ble_eq_true h4.1, h4.2⟩
    · exact .inl (anc_ok 6 i j oi hi h4)

theorem dependB_spec {o : Oper} {j : Nat} (h : dependB o j = true) : ∃ e ∈ o.after, Region.binds .any e = true ∧ e.on = j := by
  simp only [dependB, Array.any_eq_true'] at h
  obtain ⟨e, he, hb⟩ := h
  simp only [Bool.and_eq_true] at hb
  exact ⟨e, he, hb.1, Nat.eq_of_beq_eq_true hb.2⟩

/-! ### How many have not come up -/
def cntL (l : List Bool) : Nat := (l.filter fun b => !b).length
theorem cntL_set : ∀ (l : List Bool) (i : Nat), l[i]? = some false → cntL (l.set i true) + 1 = cntL l
  | [], i, h => by simp at h
  | b :: l, 0, h => by simp at h; subst h; simp [cntL]
  | b :: l, i + 1, h => by
    have := cntL_set l i (by simpa using h)
    cases b <;> simp [cntL] at * <;> omega
theorem cntL_zero : ∀ (l : List Bool), cntL l = 0 → ∀ (i : Nat) (b : Bool), l[i]? = some b → b = true
  | [], _, i, b, h => by simp at h
  | c :: l, h0, i, b, h => by
    cases c with
    | false => simp [cntL] at h0
    | true =>
      cases i with
      | zero => simp at h; exact h
      | succ i => exact cntL_zero l (by simpa [cntL] using h0) i b (by simpa using h)
theorem cntL_pos : ∀ (l : List Bool) (i : Nat), l[i]? = some false → 0 < cntL l := fun l i h => by have := cntL_set l i h; omega
theorem cntL_rep (n : Nat) : cntL (List.replicate n false) = n := by
  simp [cntL]
/-- one step of the lexical run -/
structure Tr1 (τ : List (Nat × TK)) (E : Env) (ops : Array Oper) (N : Nat) (t : DF) (G : DG) (o : Oper) (d : Nat) (v : DV) (news : List DO) : Prop where
  dst : o.dst = some d
  lt : d < N
  fresh : Fresh t d news.length
  step : (wants ops t o = some true ∧ GStep τ E (evf t) G d o.op v news) ∨ (wants ops t o = some false ∧ v = .val undef ∧ news = [])

section
variable {P : Program} {τ : List (Nat × TK)} {E : Env} {ops : Array Oper} {N n1 : Nat} {C : Ctx}
variable (t0 : DF) (g0 : DG) (d : Nat → Nat) (v : Nat → DV) (nn : Nat → List DO)
def tt : Nat → DF
  | 0 => t0
  | k + 1 => tup (tt k) (d k) (v k)
def gg : Nat → DG
  | 0 => g0
  | k + 1 => addN (d k) (nn k) (gg k)

theorem addN_out : ∀ (os : List DO) (k : Nat) (G : DG) (id : Nat), (∀ p, p < os.length → id ≠ k + 1000 * p) → addN k os G id = G id
  | [], k, G, id, _ => rfl
  | o :: os, k, G, id, h => by
    rw [addN, addN_out os (k + 1000) _ id (fun p hp => by have := h (p + 1) (by simpa using hp); omega)]
    exact hup_ne _ _ (by have := h 0 (by simp); omega)
theorem addN_in : ∀ (os : List DO) (k : Nat) (G : DG) (p : Nat), p < os.length → addN k os G (k + 1000 * p) = os[p]?
  | [], k, G, p, h => by simp at h
  | o :: os, k, G, 0, h => by
    rw [addN, addN_out os (k + 1000) _ _ (fun p hp => by omega)]
    simp [hup]
  | o :: os, k, G, p + 1, h => by
    have := addN_in os (k + 1000) (hup G k o) p (by simpa using h)
    rw [addN, show k + 1000 * (p + 1) = k + 1000 + 1000 * p from by omega, this]
    simp

variable {t0 g0 d v nn}
variable (hd : ∀ i j, i < n1 → j < n1 → d i = d j → i = j) (hd1 : ∀ i, i < n1 → d i < 1000)
include hd in
theorem tt_in {k j : Nat} (hk : k ≤ n1) (hj : j < k) : tt t0 d v k (d j) = some (v j) := by
  induction k with
  | zero => omega
  | succ k ih =>
    simp only [tt, tup]
    by_cases e : j = k
    · subst e; simp
    · rw [if_neg (fun e' => e (hd k j (by omega) (by omega) e').symm)]
      exact ih (by omega) (by omega)
theorem tt_out {k x : Nat} (hx : ∀ j, j < k → d j ≠ x) : tt t0 d v k x = t0 x := by
  induction k with
  | zero => rfl
  | succ k ih =>
    simp only [tt, tup]
    rw [if_neg (hx k (by omega))]
    exact ih (fun j hj => hx j (by omega))
include hd hd1 in
theorem gg_in {k j p : Nat} (hk : k ≤ n1) (hj : j < k) (hp : p < (nn j).length) : gg g0 d nn k (d j + 1000 * p) = (nn j)[p]? := by
  induction k with
  | zero => omega
  | succ k ih =>
    simp only [gg]
    by_cases e : j = k
    · subst e; exact addN_in _ _ _ _ hp
    · rw [addN_out]
      · exact ih (by omega) (by omega)
      · intro q _ e'
        have h1 := hd1 j (by omega)
        have h2 := hd1 k (by omega)
        exact e (hd j k (by omega) (by omega) (by omega))
theorem gg_out {k id : Nat} (h : ∀ j, j < k → ∀ p, p < (nn j).length → id ≠ d j + 1000 * p) : gg g0 d nn k id = g0 id := by
  induction k with
  | zero => rfl
  | succ k ih =>
    simp only [gg]
    rw [addN_out _ _ _ _ (h k (by omega))]
    exact ih (fun j hj => h j (by omega))

/-- the lexical run, whole -/
structure Tr (P : Program) (τ : List (Nat × TK)) (E : Env) (ops : Array Oper) (N n1 : Nat) (t0 : DF) (g0 : DG) (o : Nat → Oper) (d : Nat → Nat) (v : Nat → DV) (nn : Nat → List DO) : Prop where
  op : ∀ i, i < n1 → ops[i]? = some (o i)
  one : ∀ i, i < n1 → Tr1 τ E ops N (tt t0 d v i) (gg g0 d nn i) (o i) (d i) (v i) (nn i)

variable {o : Nat → Oper}
theorem Tr.inj (hT : Tr P τ E ops N n1 t0 g0 o d v nn) (hC : Chk ops n1) : ∀ i j, i < n1 → j < n1 → d i = d j → i = j := by
  intro i j hi hj he
  by_cases e : i = j
  · exact e
  · exfalso
    refine hC.apart i j _ _ (d j) e (hT.op i hi) (hT.op j hj) (hT.one j hj).dst ?_
    rw [(hT.one i hi).dst, he]
theorem Tr.small (hT : Tr P τ E ops N n1 t0 g0 o d v nn) (hC : Chk ops n1) : ∀ i, i < n1 → d i < 1000 := by
  intro i hi
  obtain ⟨d', h1, h2, _⟩ := hC.dst i _ (hT.op i hi) hi
  rw [(hT.one i hi).dst] at h1
  cases h1
  exact h2

theorem mem_looks {o : Oper} {x : Nat} (h : Operand.tmp x ∈ o.op.operands.toList) : x ∈ o.looksAt ops := by
  unfold Oper.looksAt
  exact List.mem_append_left _ (List.mem_filterMap.2 ⟨.tmp x, h, rfl⟩)

/-- a slot that an operation of the first part looks at: either it was there before, or it is one that the operation waits for -/
theorem Tr.slot (hT : Tr P τ E ops N n1 t0 g0 o d v nn) (hC : Chk ops n1) {i x : Nat} (hi : i < n1) (hx : x ∈ (o i).looksAt ops) : (∀ j, j < n1 → d j ≠ x) ∨ ∃ j, j < i ∧ d j = x ∧ dependB (o i) j = true := by
  by_cases h : ∃ j, j < n1 ∧ d j = x
  · obtain ⟨j, hj, rfl⟩ := h
    by_cases e : i = j
    · subst e
      exfalso
      obtain ⟨d', h1, _, h3⟩ := hC.dst i _ (hT.op i hi) hi
      rw [(hT.one i hi).dst] at h1
      cases h1
      exact h3 hx
    · rcases hC.look i j _ _ (d j) e (hT.op i hi) (hT.op j hj) (hT.one j hj).dst hx with h1 | ⟨h1, _⟩
      · obtain ⟨ed, he, hb, ho⟩ := dependB_spec h1
        have := hC.back i _ ed (hT.op i hi) he hb
        exact .inr ⟨j, by omega, rfl, h1⟩
      · omega
  · left
    intro j hj e
    exact h ⟨j, hj, e⟩

def NewId (d : Nat → Nat) (nn : Nat → List DO) (j id : Nat) : Prop := ∃ p, p < (nn j).length ∧ id = d j + 1000 * p

theorem Tr.out_ids (hT : Tr P τ E ops N n1 t0 g0 o d v nn) {x : Nat} {u : DV} {id m : Nat} (hx : ∀ j, j < n1 → d j ≠ x) (hu : t0 x = some u) (hid : id ∈ u.ids) (hm : m < n1) : ¬ NewId d nn m id := by
  rintro ⟨p, hp, rfl⟩
  have hf := (hT.one m hm).fresh
  exact hf x u (by rw [tt_out (fun j hj => hx j (by omega))]; exact hu) (Ne.symm (hx m hm)) p hp hid
theorem NewId.inj (hd : ∀ i j, i < n1 → j < n1 → d i = d j → i = j) (hd1 : ∀ i, i < n1 → d i < 1000) {i j id : Nat} (hi : i < n1) (hj : j < n1) (h : NewId d nn i id) (h' : NewId d nn j id) : i = j := by
  obtain ⟨p, _, rfl⟩ := h
  obtain ⟨q, _, e⟩ := h'
  have h1 := hd1 i hi
  have h2 := hd1 j hj
  exact hd i j hi hj (by omega)

theorem Tr.reach (hT : Tr P τ E ops N n1 t0 g0 o d v nn) (hC : Chk ops n1) {L : Nat → Bool} (hL : Closed ops L) : ∀ (j : Nat), j < n1 → ∀ id, id ∈ (v j).ids → ∀ m, m < n1 → NewId d nn m id → m ≤ j ∧ (L j = true → L m = true) := by
  intro j
  induction j using Nat.strongRecOn with
  | _ j ih =>
    intro hj id hid m hm hn
    have h1 := hT.one j hj
    rcases h1.step with ⟨_, hg⟩ | ⟨_, hv, _⟩
    · rcases hg.idsOf id hid with ⟨x, hx, u, hu, hidu⟩ | ⟨k, hk, e⟩
      · cases x with
        | tmp y =>
          rcases hT.slot hC hj (mem_looks hx) with h2 | ⟨j', hj', rfl, hdep⟩
          · exfalso
            have hu' : tt t0 d v j y = some u := hu
            rw [tt_out (fun i hi => h2 i (by omega))] at hu'
            exact hT.out_ids h2 hu' hidu hm hn
          · have hu' : tt t0 d v j (d j') = some u := hu
            rw [tt_in (hT.inj hC) (by omega) hj'] at hu'
            cases hu'
            obtain ⟨r1, r2⟩ := ih j' hj' (by omega) id hidu m hm hn
            refine ⟨by omega, fun hLj => r2 ?_⟩
            obtain ⟨e, he, hb, ho⟩ := dependB_spec hdep
            rw [← ho]
            exact hL j _ e (hT.op j hj) hLj he hb
        | const c => simp [evf] at hu; subst hu; simp [DV.ids] at hidu
        | global g => cases hu
        | func f => cases hu
      · have := NewId.inj (hT.inj hC) (hT.small hC) hm hj hn ⟨k, hk, e⟩
        subst this
        exact ⟨Nat.le_refl _, fun h => h⟩
    · rw [hv] at hid; simp [DV.ids] at hid

structure Char (n1 : Nat) (t0 : DF) (g0 : DG) (d : Nat → Nat) (v : Nat → DV) (nn : Nat → List DO) (t : DF) (G : DG) (L : Nat → Bool) : Prop where
  c1 : ∀ j, j < n1 → L j = true → t (d j) = some (v j)
  c2 : ∀ j, j < n1 → L j = false → t (d j) = none
  c3 : ∀ x, (∀ j, j < n1 → d j ≠ x) → t x = t0 x
  c4 : ∀ j, j < n1 → L j = true → ∀ p, p < (nn j).length → G (d j + 1000 * p) = (nn j)[p]?
  c5 : ∀ id, (∀ j, j < n1 → L j = true → ¬ NewId d nn j id) → G id = g0 id
def Lp (L : Nat → Bool) (i : Nat) : Nat → Bool := fun j => if j = i then true else L j

theorem Char.step (hd : ∀ i j, i < n1 → j < n1 → d i = d j → i = j) (hd1 : ∀ i, i < n1 → d i < 1000) {t : DF} {G : DG} {L : Nat → Bool} (h : Char n1 t0 g0 d v nn t G L) {i : Nat} (hi : i < n1) : Char n1 t0 g0 d v nn (tup t (d i) (v i)) (addN (d i) (nn i) G) (Lp L i) := by
  constructor
  · intro j hj hLj
    unfold tup
    by_cases e : j = i
    · subst e; simp
    · rw [if_neg (fun e' => e (hd i j hi hj e').symm)]
      exact h.c1 j hj (by simpa [Lp, e] using hLj)
  · intro j hj hLj
    unfold tup
    by_cases e : j = i
    · subst e; simp [Lp] at hLj
    · rw [if_neg (fun e' => e (hd i j hi hj e').symm)]
      exact h.c2 j hj (by simpa [Lp, e] using hLj)
  · intro x hx
    unfold tup
    rw [if_neg (hx i hi)]
    exact h.c3 x hx
  · intro j hj hLj p hp
    by_cases e : j = i
    · subst e; exact addN_in _ _ _ _ hp
    · rw [addN_out]
      · exact h.c4 j hj (by simpa [Lp, e] using hLj) p hp
      · intro q _ e'
        have h1 := hd1 j hj
        have h2 := hd1 i hi
        exact e (hd j i hj hi (by omega))
  · intro id hid
    rw [addN_out]
    · refine h.c5 id fun j hj hLj => hid j hj ?_
      simp [Lp, hLj]
    · intro p hp e
      exact hid i hi (by simp [Lp]) ⟨p, hp, e⟩

/-- what an operation looks at is as in the lexical run -/
theorem Tr.agree (hT : Tr P τ E ops N n1 t0 g0 o d v nn) (hC : Chk ops n1) {L : Nat → Bool} (hL : Closed ops L) {t : DF} {G : DG} (hc : Char n1 t0 g0 d v nn t G L) {i : Nat} (hi : i < n1)
    (hdeps : ∀ e ∈ (o i).after, Region.binds .any e = true → L e.on = true) :
    (∀ y ∈ (o i).looksAt ops, t y = tt t0 d v i y) ∧ ∀ y ∈ (o i).looksAt ops, ∀ u, t y = some u → ∀ id ∈ u.ids, G id = gg g0 d nn i id := by
  have hdep : ∀ j, dependB (o i) j = true → L j = true := fun j h => by
    obtain ⟨e, he, hb, ho⟩ := dependB_spec h
    rw [← ho]; exact hdeps e he hb
  constructor
  · intro y hy
    rcases hT.slot hC hi hy with h2 | ⟨j, hj, rfl, hd'⟩
    · rw [hc.c3 y h2, tt_out (fun j hj => h2 j (by omega))]
    · rw [hc.c1 j (by omega) (hdep j hd'), tt_in (hT.inj hC) (by omega) hj]
  · intro y hy u hu id hid
    rcases hT.slot hC hi hy with h2 | ⟨j, hj, rfl, hd'⟩
    · rw [hc.c3 y h2] at hu
      rw [hc.c5 id (fun j hj _ => hT.out_ids h2 hu hid hj), gg_out (fun j hj p hp e => hT.out_ids h2 hu hid (by omega) ⟨p, hp, e⟩)]
    · rw [hc.c1 j (by omega) (hdep j hd')] at hu
      cases hu
      by_cases hn : ∃ m, m < n1 ∧ NewId d nn m id
      · obtain ⟨m, hm, p, hp, rfl⟩ := hn
        obtain ⟨r1, r2⟩ := hT.reach hC hL j (by omega) _ hid m hm ⟨p, hp, rfl⟩
        rw [hc.c4 m hm (r2 (hdep j hd')) p hp, gg_in (hT.inj hC) (hT.small hC) (by omega) (by omega) hp]
      · rw [hc.c5 id (fun j' hj' _ hn' => hn ⟨j', hj', hn'⟩), gg_out (fun j' hj' p hp e => hn ⟨j', by omega, p, hp, e⟩)]

theorem wants_congr {t t' : DF} {o : Oper} (h : ∀ y ∈ o.looksAt ops, t y = t' y) : wants ops t o = wants ops t' o := by
  unfold wants
  cases hg : o.guard with
  | none => rfl
  | some p =>
    obtain ⟨g, want⟩ := p
    simp only
    cases hd : (ops[g]?).bind (·.dst) with
    | none => rfl
    | some x => simp only [h x (by simp [Oper.looksAt, hg, hd])]

theorem Tr.fresh' (hT : Tr P τ E ops N n1 t0 g0 o d v nn) (hC : Chk ops n1) {L : Nat → Bool} (hL : Closed ops L) {t : DF} {G : DG} (hc : Char n1 t0 g0 d v nn t G L) {i : Nat} (hi : i < n1) (hLi : L i = false) : Fresh t (d i) (nn i).length := by
  intro x u hu hne k hk hid
  by_cases h : ∃ j, j < n1 ∧ d j = x
  · obtain ⟨j, hj, rfl⟩ := h
    cases hLj : L j with
    | false => rw [hc.c2 j hj hLj] at hu; cases hu
    | true =>
      rw [hc.c1 j hj hLj] at hu
      cases hu
      have := (hT.reach hC hL j hj _ hid i hi ⟨k, hk, rfl⟩).2 hLj
      rw [hLi] at this; cases this
  · have hx : ∀ j, j < n1 → d j ≠ x := fun j hj e => h ⟨j, hj, e⟩
    rw [hc.c3 x hx] at hu
    exact hT.out_ids hx hu hid hi ⟨k, hk, rfl⟩

theorem Tr.go (hτ : TyOK P τ) (hE : EnvOK P E) (hT : Tr P τ E ops N n1 t0 g0 o d v nn) (hC : Chk ops n1) {L : Nat → Bool} (hL : Closed ops L) {t : DF} {G : DG} {ρ : Nat → Loc} {a : Act} {w : World} (hr : SimR C N t G ρ a w)
    (hc : Char n1 t0 g0 d v nn t G L) {i : Nat} (hi : i < n1) (hLi : L i = false) (hdeps : ∀ e ∈ (o i).after, Region.binds .any e = true → L e.on = true) {K : Act → World → Prop} {Q : Exit → Act → World → Prop}
    (hK : ∀ t' G' ρ' a' w', SimR C N t' G' ρ' a' w' → Char n1 t0 g0 d v nn t' G' (Lp L i) → K a' w') : wpOp P ops Q i K a w := by
  obtain ⟨ag1, ag2⟩ := hT.agree hC hL hc hi hdeps
  have h1 := hT.one i hi
  have hw : wants ops t (o i) = wants ops (tt t0 d v i) (o i) := wants_congr ag1
  have hcs := hc.step (hT.inj hC) (hT.small hC) hi
  have hfr := hT.fresh' hC hL hc hi hLi
  unfold wpOp
  rw [hT.op i hi]
  simp only
  rcases h1.step with ⟨hwt, hg⟩ | ⟨hwf, hv, hn⟩
  · rw [if_pos (wants_ok (ops := ops) hr (hw.trans hwt))]
    have hev : ∀ x ∈ (o i).op.operands.toList, evf (tt t0 d v i) x = evf t x := by
      intro x hx
      cases x with
      | tmp y => exact (ag1 y (mem_looks hx)).symm
      | _ => rfl
    have hg' : GStep τ E (evf t) G (d i) (o i).op (v i) (nn i) := by
      refine hg.loc hev ?_
      intro x hx u hu id hid
      cases x with
      | tmp y => exact (ag2 y (mem_looks hx) u (by rw [ag1 y (mem_looks hx)]; exact hu) id hid).symm
      | const c => simp [evf] at hu; subst hu; simp [DV.ids] at hid
      | global g => cases hu
      | func f => cases hu
    refine .inl (G_sound hτ hE hr.heap (ev := evf t) (nid := d i) (a := a) (fun x _ dv hx => hr.ev x dv hx) hg' ?_)
    intro ρ' v' w' k1 k2 k3 _
    rw [h1.dst]
    exact hK _ _ ρ' _ w' (hr.step (P := P) h1.lt hfr k1 k2 k3) hcs
  · rw [if_neg (by rw [wants_ok (ops := ops) hr (hw.trans hwf)]; simp), h1.dst]
    rw [hv, hn] at hcs
    have := hr.step (P := P) (d := d i) (v := .val undef) (news := []) h1.lt (fun _ _ _ _ k hk => absurd hk (by simp)) (ρ' := ρ) (v' := undef) (w' := w) hr.heap rfl (fun id _ => ⟨rfl, rfl⟩)
    exact hK _ _ ρ _ w this hcs
end
section
variable {P : Program} {τ : List (Nat × TK)} {E : Env} {ops : Array Oper} {N n1 : Nat} {C : Ctx} {t0 : DF} {g0 : DG} {d : Nat → Nat} {v : Nat → DV} {nn : Nat → List DO} {o : Nat → Oper}

theorem Tr.pure (hT : Tr P τ E ops N n1 t0 g0 o d v nn) (hC : Chk ops n1) {L : Nat → Bool} (hL : Closed ops L) {t : DF} {G : DG} {ρ : Nat → Loc} {a : Act} {w : World} (hr : SimR C N t G ρ a w)
    (hc : Char n1 t0 g0 d v nn t G L) {i : Nat} (hi : i < n1) (hLi : L i = false) (hp : pureB (o i).op = true) (hdeps : ∀ e ∈ (o i).after, Region.binds .any e = true → L e.on = true) :
    ∃ v', Yields P ops (o i) v' a ∧ SimR C N (tup t (d i) (v i)) (addN (d i) (nn i) G) ρ (a.put (o i).dst v') w := by
  obtain ⟨ag1, ag2⟩ := hT.agree hC hL hc hi hdeps
  have h1 := hT.one i hi
  have hw : wants ops t (o i) = wants ops (tt t0 d v i) (o i) := wants_congr ag1
  have fin : ∀ (v' : Value), nn i = [] → VRel ρ G (v i) v' → SimR C N (tup t (d i) (v i)) (addN (d i) (nn i) G) ρ (a.put (o i).dst v') w := by
    intro v' hn hv
    rw [hn, h1.dst]
    exact hr.step (P := P) (news := []) h1.lt (fun _ _ _ _ k hk => absurd hk (by simp)) hr.heap hv (fun id _ => ⟨rfl, rfl⟩)
  rcases h1.step with ⟨hwt, hg⟩ | ⟨hwf, hv, hn⟩
  · have hwt' := wants_ok (ops := ops) hr (hw.trans hwt)
    have hev : ∀ x ∈ (o i).op.operands.toList, evf (tt t0 d v i) x = evf t x := by
      intro x hx
      cases x with
      | tmp y => exact (ag1 y (mem_looks hx)).symm
      | _ => rfl
    have hvr : ∀ x ∈ (o i).op.operands.toList, ∀ u, evf (tt t0 d v i) x = some u → VRel ρ G u (a.eval x) := fun x hx u hu => hr.ev x u (by rw [← hev x hx]; exact hu)
    generalize hop : (o i).op = op at *
    cases op with
    | move x =>
      generalize hvv : v i = vi at *
      generalize hnn : nn i = ni at *
      cases hg with
      | move h => exact ⟨a.eval x, .inl ⟨hwt', fun w' => by simp [execOp, hop]⟩, fin _ rfl (hvr x (by simp [Op.operands]) _ h)⟩
    | assign x =>
      generalize hvv : v i = vi at *
      generalize hnn : nn i = ni at *
      cases hg with
      | assign h => exact ⟨a.eval x, .inl ⟨hwt', fun w' => by simp [execOp, hop]⟩, fin _ rfl (hvr x (by simp [Op.operands]) _ h)⟩
    | extract x k =>
      generalize hvv : v i = vi at *
      generalize hnn : nn i = ni at *
      cases hg with
      | @extr _ l _ c hx hcc =>
        obtain ⟨vs, e1, hl, hv⟩ := hvr x (by simp [Op.operands]) _ hx
        have hlt : k < l.length := (List.getElem?_eq_some_iff.1 hcc).1
        have hx' : vs[k]? = some vs[k] := List.getElem?_eq_getElem (by omega)
        have hrel := hv k c _ hcc hx'
        refine ⟨vs[k], .inl ⟨hwt', fun w' => by simp [execOp, hop, e1, Instr.extract, hx']⟩, fin _ rfl ?_⟩
        cases c with
        | v y => exact hrel
        | s id n => exact hrel
    | _ => simp [pureB] at hp
  · have hwf' := wants_ok (ops := ops) hr (hw.trans hwf)
    exact ⟨undef, .inr ⟨hwf', rfl⟩, fin _ hn (by rw [hv]; rfl)⟩

theorem set_Lp {listed : Array Bool} {i : Nat} (hi : i < listed.size) : (fun j => (listed.setIfInBounds i true).getD j false) = Lp (fun j => listed.getD j false) i := by
  funext j
  unfold Lp
  by_cases e : j = i
  · subst e; simp [hi]
  · rw [if_neg e, getD_set_ne false (Ne.symm e)]

theorem ready_lt {listed : Array Bool} {i : Nat} (hs : listed.size = ops.size) (h : i ∈ Region.ready .any ops listed) : i < listed.size ∧ listed.getD i false = false ∧ listed[i]? = some false := by
  obtain ⟨h0, oi, ho, _⟩ := mem_ready.1 h
  have hlt : i < ops.size := (Array.getElem?_eq_some_iff.1 ho).1
  have hl : i < listed.size := by omega
  refine ⟨hl, ?_, ?_⟩
  · simpa [hl] using h0
  · simpa [hl] using h0

theorem closed_set {listed : Array Bool} (hC : Closed ops (fun j => listed.getD j false)) {i : Nat} (hs : listed.size = ops.size) (hr : i ∈ Region.ready .any ops listed) : Closed ops (fun j => (listed.setIfInBounds i true).getD j false) := by
  intro j oj e hj hLj he hb
  simp only at hLj ⊢
  by_cases e' : j = i
  · subst e'
    obtain ⟨_, o', ho', hall⟩ := mem_ready.1 hr
    rw [hj] at ho'; cases ho'
    exact getD_set_true (hall e he hb)
  · rw [getD_set_ne false (Ne.symm e')] at hLj
    exact getD_set_true (hC j oj e hj hLj he hb)

theorem tail_seq {l : List Oper} (hC : Chk l.toArray n1) {Q : Exit → Act → World → Prop} : ∀ (m k : Nat) (listed : Array Bool) (a : Act) (w : World), m + k = l.length → n1 ≤ k → listed.size = l.length → (∀ j, j < k → listed.getD j false = true) → (∀ j, k ≤ j → j < l.length → listed.getD j true = false) →
    wpList P l.toArray Q (l.drop k) a w → wpAny P .any l.toArray Q m listed a w := by
  intro m
  induction m with
  | zero =>
    intro k listed a w hm hk hs h1 h2 h
    have hkl : k = l.length := by omega
    subst hkl
    rw [List.drop_length] at h
    refine ⟨?_, h⟩
    cases hr : Region.ready .any l.toArray listed with
    | nil => rfl
    | cons i is =>
      exfalso
      have hi : i ∈ Region.ready .any l.toArray listed := by rw [hr]; exact List.mem_cons_self ..
      obtain ⟨hlt, h0, _⟩ := ready_lt (by simpa using hs) hi
      rw [h1 i (by omega)] at h0; cases h0
  | succ m ih =>
    intro k listed a w hm hk hs h1 h2 h
    have hkl : k < l.length := by omega
    have hok : l.toArray[k]? = some l[k] := by simp [hkl]
    have hready : ∀ i, i ∈ Region.ready .any l.toArray listed ↔ i = k := by
      intro i
      constructor
      · intro hi
        obtain ⟨hlt, h0, _⟩ := ready_lt (by simpa using hs) hi
        have hge : k ≤ i := by
          rcases Nat.lt_or_ge i k with h' | h'
          · rw [h1 i h'] at h0; cases h0
          · exact h'
        by_cases e : i = k
        · exact e
        · exfalso
          obtain ⟨_, oi, ho, hall⟩ := mem_ready.1 hi
          rcases hC.tail i k oi _ ho hok (by omega) (by omega) with h3 | ⟨h3, _⟩
          · have hcl : Closed l.toArray (fun j => listed.getD j false) := by
              intro i' oi' e' hi' hL' he' hb'
              have hlt' : i' < k := by
                rcases Nat.lt_or_ge i' k with h' | h'
                · exact h'
                · exfalso
                  have hl' : i' < l.length := by
                    have := (Array.getElem?_eq_some_iff.1 hi').1
                    simpa using this
                  have h5 := h2 i' h' hl'
                  simp only at hL'
                  simp [show i' < listed.size by omega] at h5 hL'
                  rw [hL'] at h5; cases h5
              have := hC.back i' oi' e' hi' he' hb'
              exact h1 _ (by omega)
            have := h3 _ hcl hall
            have h4 := h2 k (Nat.le_refl _) hkl
            simp [show k < listed.size by omega] at this h4
            rw [this] at h4; cases h4
          · omega
      · rintro rfl
        refine mem_ready.2 ⟨h2 i (Nat.le_refl _) hkl, _, hok, fun e he hb => h1 _ (hC.back i _ e hok he hb)⟩
    refine ⟨fun h0 => ?_, fun i hi => ?_⟩
    · exfalso
      have := (hready k).2 rfl
      rw [h0] at this; cases this
    · obtain rfl := (hready i).1 hi
      rw [List.drop_eq_getElem_cons hkl] at h
      unfold wpOp
      rw [hok]
      simp only
      have next : ∀ a w, wpList P l.toArray Q (l.drop (i + 1)) a w → wpAny P .any l.toArray Q m (listed.setIfInBounds i true) a w := by
        intro a w h'
        refine ih (i + 1) _ a w (by omega) (by omega) (by simpa using hs) (fun j hj => ?_) (fun j hj hj' => ?_) h'
        · by_cases e : j = i
          · subst e; simp [show j < listed.size by omega]
          · rw [getD_set_ne false (Ne.symm e)]; exact h1 j (by omega)
        · rw [getD_set_ne true (by omega)]; exact h2 j (by omega) hj'
      unfold wpList at h
      split
      · rename_i hwt
        rw [if_pos hwt] at h
        exact h.imp (fun h => Oper.wp_mono next h) (fun h => h)
      · rename_i hwt
        rw [if_neg hwt] at h
        exact next _ _ h

theorem least {p : Nat → Bool} {n : Nat} (h : ∃ j, j < n ∧ p j = false) : ∃ j, j < n ∧ p j = false ∧ ∀ i, i < j → p i = true := by
  obtain ⟨j, hj, hp⟩ := h
  induction j using Nat.strongRecOn with
  | _ j ih =>
    by_cases h' : ∃ i, i < j ∧ p i = false
    · obtain ⟨i, hi, hpi⟩ := h'
      exact ih i hi (by omega) hpi
    · refine ⟨j, hj, hp, fun i hi => ?_⟩
      cases hpi : p i with
      | true => rfl
      | false => exact absurd ⟨i, hi, hpi⟩ h'

theorem any_ok (hτ : TyOK P τ) (hE : EnvOK P E) {l : List Oper} (hT : Tr P τ E l.toArray N n1 t0 g0 o d v nn) (hC : Chk l.toArray n1) {Q : Exit → Act → World → Prop} (hQ : ∀ c a w, ¬ Q (.panic c) a w)
    (htail : ∀ a w, (∃ t G ρ, SimR C N t G ρ a w ∧ Char n1 t0 g0 d v nn t G (fun _ => true)) → wpList P l.toArray Q (l.drop n1) a w) :
    ∀ (fuel : Nat) (listed : Array Bool) (a : Act) (w : World), listed.size = l.length → cntL listed.toList = fuel → Closed l.toArray (fun j => listed.getD j false) → (∀ j, n1 ≤ j → j < l.length → listed.getD j true = false) →
      (∃ t G ρ, SimR C N t G ρ a w ∧ Char n1 t0 g0 d v nn t G (fun j => listed.getD j false)) → wpAny P .any l.toArray Q fuel listed a w := by
  have hn : n1 ≤ l.length := by simpa using hC.le
  intro fuel
  induction fuel with
  | zero =>
    intro listed a w hs hcnt hcl ht hinv
    have hall : ∀ j, j < l.length → listed.getD j false = true := by
      intro j hj
      have := cntL_zero listed.toList hcnt j (listed[j]'(by omega)) (by simp [show j < listed.size by omega])
      simp [show j < listed.size by omega, this]
    have hn' : n1 = l.length := by
      rcases Nat.lt_or_ge n1 l.length with h' | h'
      · have h1 := ht n1 (Nat.le_refl _) h'
        have h2 := hall n1 h'
        simp [show n1 < listed.size by omega] at h1 h2
        rw [h1] at h2; cases h2
      · omega
    refine tail_seq hC 0 n1 listed a w (by omega) (Nat.le_refl _) hs (fun j hj => hall j (by omega)) (fun j h1 h2 => by omega) (htail a w ?_)
    obtain ⟨t, G, ρ, hr, hc⟩ := hinv
    refine ⟨t, G, ρ, hr, ⟨fun j hj _ => hc.c1 j hj (hall j (by omega)), fun j _ h => (by cases h), hc.c3, fun j hj _ => hc.c4 j hj (hall j (by omega)), fun id h => hc.c5 id (fun j hj _ => h j hj rfl)⟩⟩
  | succ fuel ih =>
    intro listed a w hs hcnt hcl ht hinv
    by_cases hall : ∀ j, j < n1 → listed.getD j false = true
    · have hcount : fuel + 1 = l.length - n1 := by
        have hlist : listed.toList = List.replicate n1 true ++ List.replicate (l.length - n1) false := by
          apply List.ext_getElem?
          intro j
          by_cases h1 : j < n1
          · have := hall j h1
            rw [List.getElem?_append_left (by simpa using h1)]
            simp [show j < listed.size by omega] at this
            simp [h1, show j < listed.size by omega, this]
          · by_cases h2 : j < l.length
            · have := ht j (by omega) h2
              simp [show j < listed.size by omega] at this
              rw [List.getElem?_append_right (by simp; omega)]
              simp [show j < listed.size by omega, this, List.getElem?_replicate]
              omega
            · rw [List.getElem?_eq_none (by simp; omega), List.getElem?_eq_none (by simp; omega)]
        rw [← hcnt, hlist]
        simp [cntL]
      refine tail_seq hC (fuel + 1) n1 listed a w (by omega) (Nat.le_refl _) hs hall ht (htail a w ?_)
      obtain ⟨t, G, ρ, hr, hc⟩ := hinv
      exact ⟨t, G, ρ, hr, ⟨fun j hj _ => hc.c1 j hj (hall j hj), fun j _ h => (by cases h), hc.c3, fun j hj _ => hc.c4 j hj (hall j hj), fun id h => hc.c5 id (fun j hj _ => h j hj rfl)⟩⟩
    · have hex : ∃ j, j < n1 ∧ listed.getD j false = false := by
        apply Classical.byContradiction
        intro hno
        refine hall fun j hj => ?_
        cases h : listed.getD j false with
        | true => rfl
        | false => exact absurd ⟨j, hj, h⟩ hno
      obtain ⟨j0, hj0, hu0, hleast⟩ := least hex
      have hready0 : j0 ∈ Region.ready .any l.toArray listed := by
        refine mem_ready.2 ⟨?_, o j0, hT.op j0 hj0, fun e he hb => hleast _ (hC.back j0 _ e (hT.op j0 hj0) he hb)⟩
        simpa [show j0 < listed.size by omega] using hu0
      have after : ∀ i, i < n1 → i ∈ Region.ready .any l.toArray listed → ∀ a' w', (∃ t' G' ρ', SimR C N t' G' ρ' a' w' ∧ Char n1 t0 g0 d v nn t' G' (Lp (fun j => listed.getD j false) i)) → wpAny P .any l.toArray Q fuel (listed.setIfInBounds i true) a' w' := by
        intro i hi hir a' w' ⟨t', G', ρ', hr', hc'⟩
        obtain ⟨hlt, _, hsome⟩ := ready_lt (by simpa using hs) hir
        refine ih _ a' w' (by simpa using hs) ?_ (closed_set hcl (by simpa using hs) hir) ?_ ⟨t', G', ρ', hr', ?_⟩
        · have := cntL_set listed.toList i (by simpa using hsome)
          rw [Array.toList_setIfInBounds]
          omega
        · intro j hj hj'
          rw [getD_set_ne true (by omega)]
          exact ht j hj hj'
        · rw [set_Lp hlt]; exact hc'
      by_cases hp : ∃ j, j < n1 ∧ listed.getD j false = false ∧ pureB (o j).op = false
      · obtain ⟨jp, hjp, hup, hpp⟩ := hp
        refine ⟨fun h0 => ?_, fun i hi => ?_⟩
        · rw [h0] at hready0; cases hready0
        · obtain ⟨hlt, hLi, _⟩ := ready_lt (by simpa using hs) hi
          obtain ⟨_, oi, hoi, hdeps⟩ := mem_ready.1 hi
          have hi1 : i < n1 := by
            rcases Nat.lt_or_ge i n1 with h' | h'
            · exact h'
            · exfalso
              rcases hC.tail i jp oi _ hoi (hT.op jp hjp) h' (by omega) with h3 | ⟨_, h3⟩
              · have := h3 _ hcl hdeps
                rw [hup] at this; cases this
              · rw [hpp] at h3; cases h3
          rw [hT.op i hi1] at hoi
          cases hoi
          obtain ⟨t, G, ρ, hr, hc⟩ := hinv
          exact hT.go hτ hE hC hcl hr hc hi1 hLi hdeps (fun t' G' ρ' a' w' h1 h2 => after i hi1 hi a' w' ⟨t', G', ρ', h1, h2⟩)
      · have hpure : pureB (o j0).op = true := by
          cases h : pureB (o j0).op with
          | true => rfl
          | false => exact absurd ⟨j0, hj0, hu0, h⟩ hp
        obtain ⟨t, G, ρ, hr, hc⟩ := hinv
        obtain ⟨_, oi, hoi, hdeps⟩ := mem_ready.1 hready0
        rw [hT.op j0 hj0] at hoi
        cases hoi
        obtain ⟨v', hy, hr'⟩ := hT.pure (P := P) hC hcl hr hc hj0 hu0 hpure hdeps
        refine wpAny_first (hT.op j0 hj0) (Region.noSelect_spec hC.sel) (fun c a w h => absurd h (hQ _ _ _)) fuel listed a w ?_ hready0 hy (after j0 hj0 hready0 _ _ ⟨_, _, ρ, hr', hc.step (hT.inj hC) (hT.small hC) hj0⟩)
        intro j oj hj hne hun hno
        have hdst := (hT.one j0 hj0).dst
        have hjl : j < listed.size := by
          have := (Array.getElem?_eq_some_iff.1 hj).1
          simp at this; omega
        have hun' : listed.getD j false = false := by simpa [hjl] using hun
        have e1 : d j0 ∉ oj.looksAt l.toArray := by
          intro hm
          rcases hC.look j j0 oj _ (d j0) hne hj (hT.op j0 hj0) hdst hm with h3 | ⟨h3, _⟩
          · obtain ⟨ed, he, hb, hon⟩ := dependB_spec h3
            exact hno ed he hb hon
          · omega
        have e2 : oj.dst ≠ some (d j0) := hC.apart j j0 oj _ (d j0) hne hj (hT.op j0 hj0) hdst
        have e3 : ∀ x, oj.dst = some x → x ∉ (o j0).looksAt l.toArray := by
          intro x hx hm
          rcases hC.look j0 j _ oj x (Ne.symm hne) (hT.op j0 hj0) hj hx hm with h3 | ⟨_, h3⟩
          · obtain ⟨ed, he, hb, hon⟩ := dependB_spec h3
            have := hdeps ed he hb
            rw [hon, hun'] at this; cases this
          · obtain ⟨ed, he, hb, hon⟩ := dependB_spec h3
            exact hno ed he hb hon
        unfold Oper.apart
        rw [hdst]
        simp only [Bool.and_eq_true]
        refine ⟨⟨by simpa using e1, by simpa using e2⟩, ?_⟩
        cases hx : oj.dst with
        | none => rfl
        | some x => simpa using e3 x hx
end
abbrev VN := Nat × DV × List DO
def GTr (τ : List (Nat × TK)) (E : Env) (ops : Array Oper) (N : Nat) : List Oper → DT → DH → List VN → Prop
  | [], _, _, [] => True
  | o :: l, T, H, (d, v, news) :: vs => Tr1 τ E ops N (lk T) (lk H) o d v news ∧ GTr τ E ops N l ((d, v) :: T) (addL d news H) vs
  | _, _, _, _ => False
def foldT : List VN → DT → DT
  | [], T => T
  | (d, v, _) :: vs, T => foldT vs ((d, v) :: T)
def foldH : List VN → DH → DH
  | [], H => H
  | (d, _, news) :: vs, H => foldH vs (addL d news H)
def dOf (vs : List VN) (i : Nat) : Nat := (vs.getD i (0, .val undef, [])).1
def vOf (vs : List VN) (i : Nat) : DV := (vs.getD i (0, .val undef, [])).2.1
def nOf (vs : List VN) (i : Nat) : List DO := (vs.getD i (0, .val undef, [])).2.2

theorem tt_shift (t : DF) (d : Nat → Nat) (v : Nat → DV) : ∀ k, tt (tup t (d 0) (v 0)) (fun i => d (i + 1)) (fun i => v (i + 1)) k = tt t d v (k + 1)
  | 0 => rfl
  | k + 1 => by rw [tt, tt_shift t d v k]; rfl
theorem gg_shift (g : DG) (d : Nat → Nat) (nn : Nat → List DO) : ∀ k, gg (addN (d 0) (nn 0) g) (fun i => d (i + 1)) (fun i => nn (i + 1)) k = gg g d nn (k + 1)
  | 0 => rfl
  | k + 1 => by rw [gg, gg_shift g d nn k]; rfl

theorem GTr.all {τ : List (Nat × TK)} {E : Env} {ops : Array Oper} {N : Nat} : ∀ (l : List Oper) (T : DT) (H : DH) (vs : List VN), GTr τ E ops N l T H vs →
    vs.length = l.length ∧ (∀ i o, l[i]? = some o → Tr1 τ E ops N (tt (lk T) (dOf vs) (vOf vs) i) (gg (lk H) (dOf vs) (nOf vs) i) o (dOf vs i) (vOf vs i) (nOf vs i)) ∧
    lk (foldT vs T) = tt (lk T) (dOf vs) (vOf vs) l.length ∧ lk (foldH vs H) = gg (lk H) (dOf vs) (nOf vs) l.length
  | [], T, H, [], _ => ⟨rfl, fun i o h => by simp at h, rfl, rfl⟩
  | o :: l, T, H, (d, v, news) :: vs, h => by
    obtain ⟨h1, h2⟩ := h
    obtain ⟨k1, k2, k3, k4⟩ := GTr.all l _ _ vs h2
    have eT : lk ((d, v) :: T) = tup (lk T) (dOf ((d, v, news) :: vs) 0) (vOf ((d, v, news) :: vs) 0) := lk_tup T d v
    have eH : lk (addL d news H) = addN (dOf ((d, v, news) :: vs) 0) (nOf ((d, v, news) :: vs) 0) (lk H) := lk_addL news d H
    have e1 : dOf vs = fun i => dOf ((d, v, news) :: vs) (i + 1) := rfl
    have e2 : vOf vs = fun i => vOf ((d, v, news) :: vs) (i + 1) := rfl
    have e3 : nOf vs = fun i => nOf ((d, v, news) :: vs) (i + 1) := rfl
    refine ⟨by simp [k1], fun i o' hi => ?_, ?_, ?_⟩
    · cases i with
      | zero => simp at hi; subst hi; exact h1
      | succ i =>
        have := k2 i o' (by simpa using hi)
        rw [eT, eH, e1, e2, e3, tt_shift, gg_shift] at this
        exact this
    · simp only [foldT, List.length_cons]
      rw [k3, eT, e1, e2, tt_shift]
    · simp only [foldH, List.length_cons]
      rw [k4, eH, e1, e3, gg_shift]
  | [], _, _, _ :: _, h => h.elim
  | _ :: _, _, _, [], h => h.elim

def OnlyN (QD : Exit → DT → DH → Prop) : Exit → DT → DH → Prop
  | .normal, T, H => QD .normal T H
  | _, _, _ => False

section
variable {P : Program} {C : Ctx} {N : Nat} {QD : Exit → DT → DH → Prop} {T : DT} {H : DH} {τ : List (Nat × TK)} {E : Env}
/-- the lexical run of the first part, then K -/
def DR (τ : List (Nat × TK)) (E : Env) (ops : Array Oper) (N : Nat) (l : List Oper) (T : DT) (H : DH) (K : DT → DH → Prop) : Prop := ∃ vs, GTr τ E ops N l T H vs ∧ K (foldT vs T) (foldH vs H)
theorem DR.nil {ops : Array Oper} {K : DT → DH → Prop} (h : K T H) : DR τ E ops N [] T H K := ⟨[], trivial, h⟩
theorem DR.step {ops : Array Oper} {o : Oper} {l : List Oper} {K : DT → DH → Prop} {d : Nat} {v : DV} {news : List DO} (hw : wants ops (lk T) o = some true) (hd : o.dst = some d) (hN : Nat.blt d N = true) (hf : freshB d news.length T = true)
    (hg : GStep τ E (ev T) (lk H) d o.op v news) (h : DR τ E ops N l ((d, v) :: T) (addL d news H) K) : DR τ E ops N (o :: l) T H K := by
  obtain ⟨vs, h1, h2⟩ := h
  exact ⟨(d, v, news) :: vs, ⟨⟨hd, Nat.le_of_ble_eq_true hN, fresh_of hf, .inl ⟨hw, by rw [← ev_eq]; exact hg⟩⟩, h1⟩, h2⟩
theorem DR.skip {ops : Array Oper} {o : Oper} {l : List Oper} {K : DT → DH → Prop} {d : Nat} (hw : wants ops (lk T) o = some false) (hd : o.dst = some d) (hN : Nat.blt d N = true)
    (h : DR τ E ops N l ((d, .val undef) :: T) H K) : DR τ E ops N (o :: l) T H K := by
  obtain ⟨vs, h1, h2⟩ := h
  exact ⟨(d, .val undef, []) :: vs, ⟨⟨hd, Nat.le_of_ble_eq_true hN, fun _ _ _ _ k hk => absurd hk (by simp), .inr ⟨hw, rfl, rfl⟩⟩, h1⟩, h2⟩

theorem DW.draw (hτ : TyOK P τ) (hE : EnvOK P E) (hm : P.follows .mixedOrders = true) {id : Nat} {l : List Oper} (n1 : Nat) (hchk : chk l.toArray n1 N = true)
    (h : DR τ E l.toArray N (l.take n1) T H (fun T' H' => DL P C N l.toArray (OnlyN QD) (l.drop n1) T' H')) : DW P C N (.region id l.toArray true) QD T H := by
  intro a w ⟨ρ, hr⟩
  obtain ⟨vs, htr, htail⟩ := h
  have hC := chk_ok hchk
  have hn : n1 ≤ l.length := by simpa using hC.le
  obtain ⟨k1, k2, k3, k4⟩ := GTr.all _ _ _ _ htr
  have hlen : (l.take n1).length = n1 := by simp; omega
  rw [hlen] at k3 k4
  have hT : Tr P τ E l.toArray N n1 (lk T) (lk H) (fun i => l.getD i ⟨none, .alloc 0, 0, "", #[], none⟩) (dOf vs) (vOf vs) (nOf vs) := by
    constructor
    · intro i hi
      simp [List.getD_eq_getElem?_getD, List.getElem?_eq_getElem (show i < l.length by omega)]
    · intro i hi
      refine k2 i _ ?_
      rw [List.getElem?_take, if_pos hi]
      simp [List.getD_eq_getElem?_getD, List.getElem?_eq_getElem (show i < l.length by omega)]
  refine wp_mono (Q := Lift C N (OnlyN QD)) (wp_region_any hm ?_) ?_
  · have hcnt : cntL (Array.replicate l.toArray.size false).toList = l.toArray.size := by
      rw [Array.toList_replicate, cntL_rep]
    refine any_ok hτ hE hT hC (C := C) (Q := Lift C N (OnlyN QD)) ?_ ?_ _ _ _ _ (by simp) hcnt ?_ ?_ ?_
    · rintro c a w ⟨T, H, hq, _⟩
      exact hq
    · rintro a w ⟨t, G, ρ, hs, hc⟩
      refine htail a w ⟨ρ, ?_⟩
      have et : t = lk (foldT vs T) := by
        funext x
        rw [k3]
        by_cases hx : ∃ j, j < n1 ∧ dOf vs j = x
        · obtain ⟨j, hj, rfl⟩ := hx
          rw [hc.c1 j hj rfl, tt_in (hT.inj hC) (Nat.le_refl _) hj]
        · rw [hc.c3 x (fun j hj e => hx ⟨j, hj, e⟩), tt_out (fun j hj e => hx ⟨j, hj, e⟩)]
      have eg : G = lk (foldH vs H) := by
        funext i
        rw [k4]
        by_cases hx : ∃ j, j < n1 ∧ NewId (dOf vs) (nOf vs) j i
        · obtain ⟨j, hj, p, hp, rfl⟩ := hx
          rw [hc.c4 j hj rfl p hp, gg_in (hT.inj hC) (hT.small hC) (Nat.le_refl _) hj hp]
        · rw [hc.c5 i (fun j hj _ e => hx ⟨j, hj, e⟩), gg_out (fun j hj p hp e => hx ⟨j, hj, p, hp, e⟩)]
      rw [← et, ← eg]
      exact hs
    · intro i oi e hi hL
      simp [Array.getElem?_replicate] at hL
      split at hL <;> simp at hL
    · intro j h1 h2
      simp [Array.getElem?_replicate, h2]
    · have hdrew : HRel C (lk H) ρ { w with drawn := w.drawn + 1 } := hr.heap.grow (w' := { w with drawn := w.drawn + 1 }) ((Below.refl _ w).drew)
      refine ⟨fun x => if (List.range n1).any (fun j => dOf vs j == x) then none else lk T x, lk H, ρ, ⟨hdrew, fun x u hu => ?_, hr.nd, hr.sz⟩, ?_⟩
      · split at hu
        · cases hu
        · exact hr.tm x u hu
      · have hf : ∀ j, (Array.replicate l.toArray.size false).getD j false = false := by
          intro j
          simp [Array.getElem?_replicate]
          split <;> rfl
        constructor
        · intro j hj hL; rw [hf j] at hL; cases hL
        · intro j hj _
          rw [if_pos]
          simp only [List.any_eq_true, List.mem_range, beq_iff_eq]
          exact ⟨j, hj, rfl⟩
        · intro x hx
          rw [if_neg]
          simp only [List.any_eq_true, List.mem_range, beq_iff_eq, not_exists, not_and]
          exact fun j hj e => hx j hj e
        · intro j hj hL; rw [hf j] at hL; cases hL
        · intro i _; rfl
  · rintro e a' w' ⟨T', H', hq, hs⟩
    cases e with
    | normal => exact ⟨T', H', hq, hs⟩
    | _ => exact hq.elim
end
section
variable {P : Program}
theorem run_part {t : TypeId} (hu : P.underlying t = some (.int .i64)) (w : World) (cs : Array Value) (off : Nat) (v : Value) (h : cs[off]? = some v) : (part t cs off).run P w = .ok v w := by
  simp [part, isAgg, run_underlying' hu, h]
theorem eq_fields {f0 f1 : Field} (o0 : f0.offset = 0) (o1 : f1.offset = 1) (n0 : f0.name ≠ "_") (n1 : f1.name ≠ "_") (u0 : P.underlying f0.type = some (.int .i64)) (u1 : P.underlying f1.type = some (.int .i64)) (w : World) (d : Nat) (a b c e : Int) :
    (Op.eqFields (d + 1) #[.int .i64 a, .int .i64 b] #[.int .i64 c, .int .i64 e] [f0, f1]).run P w = .ok (a == c && b == e) w := by
  simp only [Op.eqFields, if_pos n0, if_pos n1, Sem.run_bind]
  rw [run_part u0 w _ _ (.int .i64 a) (by rw [o0]; rfl)]
  simp only [Result.andThen_ok]
  rw [run_part u0 w _ _ (.int .i64 c) (by rw [o0]; rfl)]
  simp only [Result.andThen_ok]
  rw [run_equalIn_int w d f0.type .i64 .i64 a c u0]
  simp only [Result.andThen_ok]
  cases h : (a == c)
  · simp
  · simp only [Bool.not_true, Bool.false_eq_true, if_false, Sem.run_bind]
    rw [run_part u1 w _ _ (.int .i64 b) (by rw [o1]; rfl)]
    simp only [Result.andThen_ok]
    rw [run_part u1 w _ _ (.int .i64 e) (by rw [o1]; rfl)]
    simp only [Result.andThen_ok]
    rw [run_equalIn_int w d f1.type .i64 .i64 b e u1]
    simp only [Result.andThen_ok]
    cases h' : (b == e) <;> simp
theorem TPair.of {t : TypeId} {f0 f1 : Field} (hu : P.underlying t = some (.struct #[f0, f1])) (o0 : f0.offset = 0) (o1 : f1.offset = 1) (n0 : f0.name ≠ "_") (n1 : f1.name ≠ "_")
    (s0 : (P.info? f0.type).map (·.size) = some 1) (s1 : (P.info? f1.type).map (·.size) = some 1) (u0 : P.underlying f0.type = some (.int .i64)) (u1 : P.underlying f1.type = some (.int .i64))
    (hi : (P.info? t).map (fun i => (i.zero, i.size, i.bytes)) = some (some (.agg #[.int .i64 0, .int .i64 0]), 2, 16)) (hp : P.stoodInHeld t = false) (hg : P.eqGuardType P.depth t = false) : TPair P t := by
  have hfs : P.fieldsOf t = #[f0, f1] := by simp [Program.fieldsOf, hu]
  have heq : ∀ (w : World) (a b c d : Int), (Op.equalIn 10000 t (.agg #[.int .i64 a, .int .i64 b]) (.agg #[.int .i64 c, .int .i64 d])).run P w = .ok (a == c && b == d) w := by
    intro w a b c d
    rw [run_equalIn_struct w 9999 t _ _ (by rw [hfs]; exact hu) hp, hfs]
    exact eq_fields o0 o1 n0 n1 u0 u1 w 9998 a b c d
  refine ⟨⟨f0, f1, hu, o0, o1, s0, s1, u0, u1⟩, ?_, ?_, ?_⟩
  · obtain ⟨i, hi1, hi2⟩ := Option.map_eq_some_iff.1 hi
    simp only [Prod.mk.injEq] at hi2
    exact ⟨i, hi1, hi2.1, hi2.2.1, hi2.2.2⟩
  · intro w x y a b c d
    rw [Sem.run_bind, run_eqGuard_agg w .eql t x y _ _ hg]
    simp only [Result.andThen_ok]
    rw [run_eql_struct, heq]
    rfl
  · intro w x y a b c d
    rw [Sem.run_bind, run_eqGuard_agg w .neq t x y _ _ hg]
    simp only [Result.andThen_ok]
    rw [run_neq_struct, heq]
    rfl
theorem TInt.of {t : TypeId} (hu : P.underlying t = some (.int .i64)) (hi : (P.info? t).map (fun i => (i.zero, i.size, i.bytes)) = some (some (.int .i64 0), 1, 8)) : TInt P t := by
  obtain ⟨i, hi1, hi2⟩ := Option.map_eq_some_iff.1 hi
  simp only [Prod.mk.injEq] at hi2
  exact ⟨hu, i, hi1, hi2.1, hi2.2.1, hi2.2.2⟩
theorem TyOK.nil : TyOK P [] := fun _ _ h => by cases h
theorem TyOK.cons {τ : List (Nat × TK)} {t : Nat} {k : TK} (h : TyOK1 P t k) (hs : TyOK P τ) : TyOK P ((t, k) :: τ) := by
  intro t' k' h'
  rw [lk_cons] at h'
  by_cases e : t = t'
  · rw [if_pos e] at h'; cases h'; subst e; exact h
  · rw [if_neg e] at h'; exact hs t' k' h'
theorem EnvOK.nil : EnvOK P [] := fun _ _ h => by cases h
theorem EnvOK.cons {E : Env} {f : Nat} {g : List AD → Option RD} (h : DFun P f g) (hs : EnvOK P E) : EnvOK P ((f, g) :: E) := by
  intro f' g' h'
  rw [lk_cons] at h'
  by_cases e : f = f'
  · rw [if_pos e] at h'; cases h'; subst e; exact h
  · rw [if_neg e] at h'; exact hs f' g' h'
end

/-! ### Steps in which a sum does not wrap -/
section
variable {τ : List (Nat × TK)} {E : Env} {ev : Operand → Option DV} {gt : DG} {nid : Nat} {t t' : TypeId} {x y : Operand} {a b : Int}
theorem G.add (hx : ev x = some (.val (.int .i64 a))) (hy : ev y = some (.val (.int .i64 b))) (h : -9223372036854775808 ≤ a + b ∧ a + b ≤ 9223372036854775807) : GStep τ E ev gt nid (.binOp .add t x y t') (.val (.int .i64 (a + b))) [] :=
  .binI hx hy (by simp only [binI]; rw [IntWalk.i64_in _ h])
theorem G.sub (hx : ev x = some (.val (.int .i64 a))) (hy : ev y = some (.val (.int .i64 b))) (h : -9223372036854775808 ≤ a - b ∧ a - b ≤ 9223372036854775807) : GStep τ E ev gt nid (.binOp .sub t x y t') (.val (.int .i64 (a - b))) [] :=
  .binI hx hy (by simp only [binI]; rw [IntWalk.i64_in _ h])
theorem G.mul (hx : ev x = some (.val (.int .i64 a))) (hy : ev y = some (.val (.int .i64 b))) (h : -9223372036854775808 ≤ a * b ∧ a * b ≤ 9223372036854775807) : GStep τ E ev gt nid (.binOp .mul t x y t') (.val (.int .i64 (a * b))) [] :=
  .binI hx hy (by simp only [binI]; rw [IntWalk.i64_in _ h])
theorem G.neg (hx : ev x = some (.val (.int .i64 a))) (h : -9223372036854775807 ≤ a ∧ a ≤ 9223372036854775807) : GStep τ E ev gt nid (.unOp .neg t x) (.val (.int .i64 (-a))) [] := by
  have := GStep.neg (τ := τ) (E := E) (gt := gt) (nid := nid) (t := t) hx
  rw [IntWalk.i64_in _ (by omega), Int.zero_sub] at this
  exact this
theorem G.quo (hx : ev x = some (.val (.int .i64 a))) (hy : ev y = some (.val (.int .i64 b))) (h0 : 0 ≤ a) (h1 : 0 < b) (h2 : a ≤ 9223372036854775807) : GStep τ E ev gt nid (.binOp .quo t x y t') (.val (.int .i64 (a / b))) [] := by
  have := GStep.quo (τ := τ) (E := E) (gt := gt) (nid := nid) (t := t) (t' := t') hx hy (by omega)
  have h3 := Int.ediv_le_self b h0
  have h4 := Int.ediv_nonneg h0 (by omega : 0 ≤ b)
  rw [Int.tdiv_eq_ediv_of_nonneg h0, IntWalk.i64_in _ (by omega)] at this
  exact this
theorem G.rem (hx : ev x = some (.val (.int .i64 a))) (hy : ev y = some (.val (.int .i64 b))) (h0 : 0 ≤ a) (h1 : 0 < b) : GStep τ E ev gt nid (.binOp .rem t x y t') (.val (.int .i64 (a % b))) [] := by
  have := GStep.rem (τ := τ) (E := E) (gt := gt) (nid := nid) (t := t) (t' := t') hx hy (by omega)
  rw [Int.tmod_eq_emod_of_nonneg h0] at this
  exact this
theorem G.maxi {ts : Array TypeId} (hx : ev x = some (.val (.int .i64 a))) (hy : ev y = some (.val (.int .i64 b))) : GStep τ E ev gt nid (.call { callee := .builtin .max, args := #[x, y], argTypes := ts }) (.val (.int .i64 (max a b))) [] := by
  have := GStep.max (τ := τ) (E := E) (gt := gt) (nid := nid) (ts := ts) hx hy
  have e : (if b > a then b else a) = max a b := by split <;> omega
  rw [e] at this; exact this
theorem G.mini {ts : Array TypeId} (hx : ev x = some (.val (.int .i64 a))) (hy : ev y = some (.val (.int .i64 b))) : GStep τ E ev gt nid (.call { callee := .builtin .min, args := #[x, y], argTypes := ts }) (.val (.int .i64 (min a b))) [] := by
  have := GStep.min (τ := τ) (E := E) (gt := gt) (nid := nid) (ts := ts) hx hy
  have e : (if b < a then b else a) = min a b := by split <;> omega
  rw [e] at this; exact this
end
end Go.Proofs.Ytionljjdfgeggaa
