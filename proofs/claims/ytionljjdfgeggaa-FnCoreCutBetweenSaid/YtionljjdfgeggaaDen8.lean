/-
  The plain machine, eighth part: how regions of the seventh part are walked; readers; functions that draw.
-/
import Derived.Test.YtionljjdfgeggaaDen7
namespace Go.Proofs.Ytionljjdfgeggaa
open Go.RowKit
set_option linter.unusedVariables false
set_option linter.unusedSimpArgs false

abbrev VNM := Nat × DV × List DO × Up
abbrev TE := List Nat × Option Nat
def GTrM (τ : List (Nat × TK)) (E : Env) (pk : FuncId) (ops : Array Oper) (N : Nat) : List Oper → DT → DH → List VNM → List TE → Prop
  | [], _, _, [], [] => True
  | o :: l, T, H, (d, v, news, u) :: vs, (tl, ud) :: tr => Tr1M τ E pk ops N (lk T) (lk H) o d v news u ∧ (wants ops (lk T) o = some true → tl = touchL (ev T) o.op) ∧ ud = u.map (·.1) ∧ GTrM τ E pk ops N l ((d, v) :: T) (addL d news (updL u H)) vs tr
  | _, _, _, _, _ => False
def foldTM : List VNM → DT → DT
  | [], T => T
  | (d, v, _, _) :: vs, T => foldTM vs ((d, v) :: T)
def foldHM : List VNM → DH → DH
  | [], H => H
  | (d, _, news, u) :: vs, H => foldHM vs (addL d news (updL u H))
def xM (vs : List VNM) (i : Nat) : VNM := vs.getD i (0, .val undef, [], none)
theorem ggM_shift (g : DG) (d : Nat → Nat) (nn : Nat → List DO) (uu : Nat → Up) : ∀ k, ggM (addN (d 0) (nn 0) (updG (uu 0) g)) (fun i => d (i + 1)) (fun i => nn (i + 1)) (fun i => uu (i + 1)) k = ggM g d nn uu (k + 1)
  | 0 => rfl
  | k + 1 => by rw [ggM, ggM_shift g d nn uu k]; rfl

theorem GTrM.all {τ : List (Nat × TK)} {E : Env} {pk : FuncId} {ops : Array Oper} {N : Nat} : ∀ (l : List Oper) (T : DT) (H : DH) (vs : List VNM) (tr : List TE), GTrM τ E pk ops N l T H vs tr →
    vs.length = l.length ∧ tr.length = l.length ∧ (∀ i o, l[i]? = some o → Tr1M τ E pk ops N (tt (lk T) (fun i => (xM vs i).1) (fun i => (xM vs i).2.1) i) (ggM (lk H) (fun i => (xM vs i).1) (fun i => (xM vs i).2.2.1) (fun i => (xM vs i).2.2.2) i) o (xM vs i).1 (xM vs i).2.1 (xM vs i).2.2.1 (xM vs i).2.2.2 ∧
      (wants ops (tt (lk T) (fun i => (xM vs i).1) (fun i => (xM vs i).2.1) i) o = some true → (tr.getD i ([], none)).1 = touchL (evf (tt (lk T) (fun i => (xM vs i).1) (fun i => (xM vs i).2.1) i)) o.op) ∧ (tr.getD i ([], none)).2 = (xM vs i).2.2.2.map (·.1)) ∧
    lk (foldTM vs T) = tt (lk T) (fun i => (xM vs i).1) (fun i => (xM vs i).2.1) l.length ∧ lk (foldHM vs H) = ggM (lk H) (fun i => (xM vs i).1) (fun i => (xM vs i).2.2.1) (fun i => (xM vs i).2.2.2) l.length
  | [], T, H, [], [], _ => ⟨rfl, rfl, fun i o h => by simp at h, rfl, rfl⟩
  | o :: l, T, H, (d, v, news, u) :: vs, (tl, ud) :: tr, h => by
    obtain ⟨h1, h2, h3, h4⟩ := h
    obtain ⟨k1, k2, k3, k4, k5⟩ := GTrM.all l _ _ vs tr h4
    have eT : lk ((d, v) :: T) = tup (lk T) ((fun i => (xM ((d, v, news, u) :: vs) i).1) 0) ((fun i => (xM ((d, v, news, u) :: vs) i).2.1) 0) := lk_tup T d v
    have eH : lk (addL d news (updL u H)) = addN ((fun i => (xM ((d, v, news, u) :: vs) i).1) 0) ((fun i => (xM ((d, v, news, u) :: vs) i).2.2.1) 0) (updG ((fun i => (xM ((d, v, news, u) :: vs) i).2.2.2) 0) (lk H)) := by
      rw [lk_addL, lk_updL]; rfl
    have es : ∀ i, xM vs i = xM ((d, v, news, u) :: vs) (i + 1) := fun i => rfl
    refine ⟨by simp [k1], by simp [k2], fun i o' hi => ?_, ?_, ?_⟩
    · cases i with
      | zero =>
        simp at hi; subst hi
        refine ⟨h1, fun hw => ?_, h3⟩
        have := h2 hw
        rw [ev_eq] at this
        exact this
      | succ i =>
        have := k3 i o' (by simpa using hi)
        simp only [es] at this
        rw [eT, eH, tt_shift (lk T) (fun i => (xM ((d, v, news, u) :: vs) i).1) (fun i => (xM ((d, v, news, u) :: vs) i).2.1), ggM_shift (lk H) (fun i => (xM ((d, v, news, u) :: vs) i).1) (fun i => (xM ((d, v, news, u) :: vs) i).2.2.1) (fun i => (xM ((d, v, news, u) :: vs) i).2.2.2)] at this
        simpa using this
    · simp only [foldTM, List.length_cons]
      rw [k4, eT]
      simp only [es]
      rw [tt_shift (lk T) (fun i => (xM ((d, v, news, u) :: vs) i).1) (fun i => (xM ((d, v, news, u) :: vs) i).2.1)]
    · simp only [foldHM, List.length_cons]
      rw [k5, eH]
      simp only [es]
      rw [ggM_shift (lk H) (fun i => (xM ((d, v, news, u) :: vs) i).1) (fun i => (xM ((d, v, news, u) :: vs) i).2.2.1) (fun i => (xM ((d, v, news, u) :: vs) i).2.2.2)]
  | [], _, _, _ :: _, _, h => h.elim
  | [], _, _, [], _ :: _, h => h.elim
  | _ :: _, _, _, [], _, h => h.elim
  | _ :: _, _, _, _ :: _, [], h => h.elim

def strictB (ops : Array Oper) (n1 : Nat) : Bool := (List.range ops.size).all fun i => Nat.blt i n1 || match ops[i]? with
  | none => false
  | some oi => (List.range n1).all fun j => dependB oi j || ancB ops 6 i j
theorem strict_ok {ops : Array Oper} {n1 : Nat} (h : strictB ops n1 = true) : ∀ i j oi, ops[i]? = some oi → n1 ≤ i → j < n1 → AncD ops oi j := by
  intro i j oi hi hn hj
  simp only [strictB, List.all_eq_true, List.mem_range] at h
  have h1 := h i (Array.getElem?_eq_some_iff.1 hi).1
  rw [hi] at h1
  simp only [Bool.or_eq_true, List.all_eq_true, List.mem_range] at h1
  rcases h1 with h1 | h1
  · have := Nat.le_of_ble_eq_true h1; omega
  · rcases h1 j hj with h2 | h2
    · exact anc_dep h2
    · exact anc_ok 6 i j oi hi h2

section
variable {P : Program} {C : Ctx} {N : Nat} {QD : Exit → DT → DH → Prop} {T : DT} {H : DH} {τ : List (Nat × TK)} {E : Env} {pk : FuncId}
/-- the lexical run of the first part, then K -/
def DM (τ : List (Nat × TK)) (E : Env) (pk : FuncId) (ops : Array Oper) (N : Nat) (l : List Oper) (T : DT) (H : DH) (acc : List TE) (K : DT → DH → Prop) : Prop := ∃ vs tr, GTrM τ E pk ops N l T H vs tr ∧ okTr ops (acc ++ tr) = true ∧ K (foldTM vs T) (foldHM vs H)
variable {ops : Array Oper} {o : Oper} {l : List Oper} {K : DT → DH → Prop} {d : Nat} {v : DV} {news : List DO} {acc : List TE}
theorem DM.nil (hok : okTr ops acc = true) (h : K T H) : DM τ E pk ops N [] T H acc K := ⟨[], [], trivial, by simpa using hok, h⟩
theorem DM.step {u : Up} (hw : wants ops (lk T) o = some true) (hd : o.dst = some d) (hN : Nat.blt d N = true) (hf : freshB d news.length T = true)
    (hg : MStep τ E pk (ev T) (lk H) d o.op v news u) (h : DM τ E pk ops N l ((d, v) :: T) (addL d news (updL u H)) (acc ++ [(touchL (ev T) o.op, u.map (·.1))]) K) : DM τ E pk ops N (o :: l) T H acc K := by
  obtain ⟨vs, tr, h1, h2, h3⟩ := h
  refine ⟨(d, v, news, u) :: vs, (touchL (ev T) o.op, u.map (·.1)) :: tr, ⟨⟨hd, Nat.le_of_ble_eq_true hN, fresh_of hf, .inl ⟨hw, by rw [← ev_eq]; exact hg⟩⟩, fun _ => rfl, rfl, h1⟩, ?_, h3⟩
  rw [List.append_assoc] at h2
  exact h2
theorem DM.skip (hw : wants ops (lk T) o = some false) (hd : o.dst = some d) (hN : Nat.blt d N = true)
    (h : DM τ E pk ops N l ((d, .val undef) :: T) H (acc ++ [([], none)]) K) : DM τ E pk ops N (o :: l) T H acc K := by
  obtain ⟨vs, tr, h1, h2, h3⟩ := h
  refine ⟨(d, .val undef, [], none) :: vs, ([], none) :: tr, ⟨⟨hd, Nat.le_of_ble_eq_true hN, fun _ _ _ _ k hk => absurd hk (by simp), .inr ⟨hw, rfl, rfl, rfl⟩⟩, fun h => (by rw [hw] at h; cases h), rfl, h1⟩, ?_, h3⟩
  rw [List.append_assoc] at h2
  exact h2
theorem DM.go0 (hd : o.dst = some d) (hg : GStep τ E (ev T) (lk H) d o.op v []) (hw : wants ops (lk T) o = some true) (hN : Nat.blt d N = true) (h : DM τ E pk ops N l ((d, v) :: T) H (acc ++ [(touchL (ev T) o.op, none)]) K) : DM τ E pk ops N (o :: l) T H acc K :=
  .step (u := none) (news := []) hw hd hN rfl (.g hg) h
theorem DM.go1 {o1 : DO} (hd : o.dst = some d) (hg : GStep τ E (ev T) (lk H) d o.op v [o1]) (hw : wants ops (lk T) o = some true) (hN : Nat.blt d N = true) (hf : freshB d 1 T = true) (h : DM τ E pk ops N l ((d, v) :: T) ((d, o1) :: H) (acc ++ [(touchL (ev T) o.op, none)]) K) : DM τ E pk ops N (o :: l) T H acc K :=
  .step (u := none) (news := [o1]) hw hd hN hf (.g hg) h
theorem DM.go2 {o1 o2 : DO} {d1 : Nat} (hd : o.dst = some d) (hg : GStep τ E (ev T) (lk H) d o.op v [o1, o2]) (hw : wants ops (lk T) o = some true) (hN : Nat.blt d N = true) (hf : freshB d 2 T = true) (h1 : d + 1000 = d1) (h : DM τ E pk ops N l ((d, v) :: T) ((d1, o2) :: (d, o1) :: H) (acc ++ [(touchL (ev T) o.op, none)]) K) : DM τ E pk ops N (o :: l) T H acc K := by
  subst h1
  exact .step (u := none) (news := [o1, o2]) hw hd hN hf (.g hg) h
theorem DM.pick {x y : Operand} {ts : Array TypeId} {id p : Nat} {gr : Nat} {A : Option Addr} {bs : List Int} {n : Int} (ho : o.op = .call { callee := .value (.func pk), args := #[x, y], argTypes := ts }) (hd : o.dst = some d) (hw : wants ops (lk T) o = some true) (hN : Nat.blt d N = true) (hx : ev T x = some (.ptr id 0)) (hy : ev T y = some (.val (.int .i64 n))) (hg : lk H id = some (.rdr gr A bs p)) (hp : p ≤ 1000000) (hn : n ≤ 1000000)
    (h : DM τ E pk ops N l ((d, .val (.int .i64 (pickV bs p n))) :: T) ((id, .rdr gr A bs (p + 1)) :: H) (acc ++ [(touchL (ev T) o.op, some id)]) K) : DM τ E pk ops N (o :: l) T H acc K :=
  .step (u := some (id, some (.rdr gr A bs (p + 1)))) (news := []) hw hd hN rfl (by rw [ho]; exact .pick hx hy hg hp hn) h
theorem DM.app {s x : Operand} {ts e : TypeId} {k : TK} {id id2 off n m sz : Nat} {o2 : DO} {xs ys : List Int} {H' : DH}
    (ho : o.op = .call { callee := .builtin .append, args := #[s, x], argTypes := #[ts, ts] }) (hw : wants ops (lk T) o = some true) (hd : o.dst = some d) (hN : Nat.blt d N = true) (hf : freshB d 1 T = true) (ht : lk τ ts = some (.sl e)) (he : lk τ e = some k) (hk : k.esz = some sz)
    (hs : ev T s = some (.sl id 0 n)) (hg : lk H id = some (.row e sz xs)) (hl : xs.length = n * sz) (hx : ev T x = some (.sl id2 off m)) (hg2 : lk H id2 = some o2) (hkd : o2.kind = .i64) (hsz : o2.sz = sz) (hne : Nat.beq id id2 = false) (hn : n + m ≤ 1000000)
    (hys : (o2.cells.drop (off * sz)).take (m * sz) = ys) (hH : dropL id H = H')
    (h : DM τ E pk ops N l ((d, .sl d 0 (n + m)) :: T) ((d, .row e sz (xs ++ ys)) :: H') (acc ++ [(touchL (ev T) o.op, some id)]) K) : DM τ E pk ops N (o :: l) T H acc K := by
  subst hH
  exact .step (u := some (id, none)) (news := [.row e sz (xs ++ ys)]) hw hd hN hf (by rw [ho]; exact .app ht he hk hs hg hl hx hg2 hkd hsz (fun e => by rw [e, Nat.beq_refl] at hne; cases hne) hn hys) h

theorem DW.drawM (hτ : TyOK P τ) (hE : EnvOK P E) (hpk : DPick P pk) (hm : P.follows .mixedOrders = true) {id : Nat} {l : List Oper} (n1 : Nat) (hchk : chk l.toArray n1 N = true) (hst : strictB l.toArray n1 = true)
    (h : DM τ E pk l.toArray N (l.take n1) T H [] (fun T' H' => DL P C N l.toArray (OnlyN QD) (l.drop n1) T' H')) : DW P C N (.region id l.toArray true) QD T H := by
  intro a w ⟨ρ, hr⟩
  obtain ⟨vs, tr, htr, hok, htail⟩ := h
  have hC := chk_ok hchk
  have hn : n1 ≤ l.length := by simpa using hC.le
  obtain ⟨k1, k1', k2, k3, k4⟩ := GTrM.all _ _ _ _ _ htr
  have hlen : (l.take n1).length = n1 := by simp; omega
  rw [hlen] at k1' k3 k4
  have hTl : ∀ i, i < n1 → (l.take n1)[i]? = some (l.getD i ⟨none, .alloc 0, 0, "", #[], none⟩) := by
    intro i hi
    rw [List.getElem?_take, if_pos hi]
    simp [List.getD_eq_getElem?_getD, List.getElem?_eq_getElem (show i < l.length by omega)]
  have hop : ∀ i, i < n1 → l.toArray[i]? = some (l.getD i ⟨none, .alloc 0, 0, "", #[], none⟩) := by
    intro i hi
    simp [List.getD_eq_getElem?_getD, List.getElem?_eq_getElem (show i < l.length by omega)]
  have hT : TrM P τ E pk l.toArray N n1 (lk T) (lk H) (fun i => l.getD i ⟨none, .alloc 0, 0, "", #[], none⟩) (fun i => (xM vs i).1) (fun i => (xM vs i).2.1) (fun i => (xM vs i).2.2.1) (fun i => (xM vs i).2.2.2) := by
    constructor
    · exact hop
    · intro i hi
      exact (k2 i _ (hTl i hi)).1
    · intro i j id x hi hj hne hu hw ht
      obtain ⟨_, q1, _⟩ := k2 i _ (hTl i hi)
      obtain ⟨_, _, q2⟩ := k2 j _ (hTl j hj)
      rw [hu] at q2
      have q1 := q1 hw
      simp only [List.nil_append, okTr, List.all_eq_true, List.mem_range] at hok
      have h1 := hok j (by omega)
      rw [q2] at h1
      simp only [Option.map_some, List.all_eq_true, List.mem_range] at h1
      have h2 := h1 i (by omega)
      simp only [Bool.or_eq_true] at h2
      rcases h2 with h2 | h2 | h2
      · exact absurd (Nat.eq_of_beq_eq_true h2) hne
      · exfalso
        rw [q1] at h2
        simp only [Bool.not_eq_true', List.any_eq_false] at h2
        exact h2 id ht (Nat.beq_refl id)
      · rcases Nat.lt_or_ge j i with hlt | hge
        · have : Nat.blt j i = true := Nat.ble_eq_true_of_le hlt
          rw [this] at h2
          exact .inl ⟨hlt, anc_ok 6 i j _ (hop i hi) h2⟩
        · have hlt : i < j := by omega
          have : Nat.blt j i = false := by
            cases hb : Nat.blt j i
            · rfl
            · have := Nat.le_of_ble_eq_true hb; omega
          rw [this] at h2
          exact .inr ⟨hlt, anc_ok 6 j i _ (hop j hj) h2⟩
  refine wp_mono (Q := Lift C N (OnlyN QD)) (wp_region_any hm ?_) ?_
  · have hcnt : cntL (Array.replicate l.toArray.size false).toList = l.toArray.size := by
      rw [Array.toList_replicate, cntL_rep]
    refine any_okM hτ hE hpk hT hC (strict_ok hst) (C := C) (Q := Lift C N (OnlyN QD)) ?_ _ _ _ _ (by simp) hcnt ?_ ?_ ?_
    · rintro a w ⟨t, G, ρ, hs, hc⟩
      refine htail a w ⟨ρ, ?_⟩
      have et : t = lk (foldTM vs T) := by
        funext x
        rw [k3]
        by_cases hx : ∃ j, j < n1 ∧ (xM vs j).1 = x
        · obtain ⟨j, hj, rfl⟩ := hx
          rw [hc.c1 j hj rfl, tt_in (hT.inj hC) (Nat.le_refl _) hj]
        · rw [hc.c3 x (fun j hj e => hx ⟨j, hj, e⟩), tt_out (fun j hj e => hx ⟨j, hj, e⟩)]
      have eg : G = lk (foldHM vs H) := by
        funext i
        rw [k4]
        exact hc.c4 i n1 (Nat.le_refl _) (fun j hj _ => by simp [hj])
      rw [← et, ← eg]
      exact hs
    · intro i oi e hi hL
      simp [Array.getElem?_replicate] at hL
      split at hL <;> simp at hL
    · intro j h1 h2
      simp [Array.getElem?_replicate, h2]
    · have hdrew : HRel C (lk H) ρ { w with drawn := w.drawn + 1 } := hr.heap.grow (w' := { w with drawn := w.drawn + 1 }) ((Below.refl _ w).drew)
      refine ⟨fun x => if (List.range n1).any (fun j => (xM vs j).1 == x) then none else lk T x, lk H, ρ, ⟨hdrew, fun x u hu => ?_, hr.nd, hr.sz⟩, ?_⟩
      · split at hu
        · cases hu
        · exact hr.tm x u hu
      · have hf : ∀ j, (Array.replicate l.toArray.size false).getD j false = false := by
          intro j
          simp [Array.getElem?_replicate]
          split <;> rfl
        constructor
        · intro j hj hL; rw [hf j] at hL; cases hL
        · intro j hj _
          rw [if_pos]
          simp only [List.any_eq_true, List.mem_range, beq_iff_eq]
          exact ⟨j, hj, rfl⟩
        · intro x hx
          rw [if_neg]
          simp only [List.any_eq_true, List.mem_range, beq_iff_eq, not_exists, not_and]
          exact fun j hj e => hx j hj e
        · intro id k hk ho
          have : ggM (lk H) (fun i => (xM vs i).1) (fun i => (xM vs i).2.2.1) (fun i => (xM vs i).2.2.2) k id = lk H id := by
            refine ggM_same (k := 0) (Nat.zero_le _) fun j _ hj ha => ?_
            have := (ho j (by omega) ha).2 hj
            rw [hf j] at this; cases this
          exact this.symm
  · rintro e a' w' ⟨T', H', hq, hs⟩
    cases e with
    | normal => exact ⟨T', H', hq, hs⟩
    | _ => exact hq.elim
/-- in the order of the text -/
theorem DL.stepM (hτ : TyOK P τ) (hE : EnvOK P E) (hpk : DPick P pk) {u : Up} (hw : wants ops (lk T) o = some true) (hd : o.dst = some d) (hN : Nat.blt d N = true) (hf : freshB d news.length T = true)
    (hg : MStep τ E pk (ev T) (lk H) d o.op v news u) (h : DL P C N ops QD l ((d, v) :: T) (addL d news (updL u H))) : DL P C N ops QD (o :: l) T H := by
  intro a w ⟨ρ, hr⟩
  have hwn := wants_ok (ops := ops) hr hw
  unfold wpList
  rw [if_pos hwn]
  refine .inl (M_sound hτ hE hpk hr.heap (ev := ev T) (nid := d) (a := a) (fun x _ dv hx => hr.ev x dv (by rw [← ev_eq]; exact hx)) hg ?_)
  intro ρ' v' w' h1 h2 h3
  rw [hd]
  refine h _ _ ⟨ρ', ?_⟩
  rw [lk_tup, lk_addL, lk_updL]
  exact hr.stepM (Nat.le_of_ble_eq_true hN) (fresh_of hf) h1 h2 h3
theorem EnvOK.nil' : EnvOK P [] := fun _ _ h => by cases h
theorem DL.pick (hτ : TyOK P τ) (hpk : DPick P pk) {x y : Operand} {ts : Array TypeId} {id p : Nat} {gr : Nat} {A : Option Addr} {bs : List Int} {n : Int} (ho : o.op = .call { callee := .value (.func pk), args := #[x, y], argTypes := ts }) (hd : o.dst = some d) (hw : wants ops (lk T) o = some true) (hN : Nat.blt d N = true) (hx : ev T x = some (.ptr id 0)) (hy : ev T y = some (.val (.int .i64 n))) (hg : lk H id = some (.rdr gr A bs p)) (hp : p ≤ 1000000) (hn : n ≤ 1000000)
    (h : DL P C N ops QD l ((d, .val (.int .i64 (pickV bs p n))) :: T) ((id, .rdr gr A bs (p + 1)) :: H)) : DL P C N ops QD (o :: l) T H :=
  .stepM (u := some (id, some (.rdr gr A bs (p + 1)))) (news := []) (E := []) hτ EnvOK.nil' hpk hw hd hN rfl (by rw [ho]; exact .pick hx hy hg hp hn) h
theorem DL.appC (hτ : TyOK P τ) (hpk : DPick P pk) {s x : Operand} {ts e : TypeId} {k : TK} {id id2 off n m sz : Nat} {o2 : DO} {xs ys : List Int} {H' : DH}
    (ho : o.op = .call { callee := .builtin .append, args := #[s, x], argTypes := #[ts, ts] }) (hw : wants ops (lk T) o = some true) (hd : o.dst = some d) (hN : Nat.blt d N = true) (hf : freshB d 1 T = true) (ht : lk τ ts = some (.sl e)) (he : lk τ e = some k) (hk : k.esz = some sz)
    (hs : ev T s = some (.sl id 0 n)) (hg : lk H id = some (.row e sz xs)) (hl : xs.length = n * sz) (hx : ev T x = some (.sl id2 off m)) (hg2 : lk H id2 = some o2) (hkd : o2.kind = .i64) (hsz : o2.sz = sz) (hne : Nat.beq id id2 = false) (hn : n + m ≤ 1000000)
    (hys : (o2.cells.drop (off * sz)).take (m * sz) = ys) (hH : dropL id H = H')
    (h : DL P C N ops QD l ((d, .sl d 0 (n + m)) :: T) ((d, .row e sz (xs ++ ys)) :: H')) : DL P C N ops QD (o :: l) T H := by
  subst hH
  exact .stepM (u := some (id, none)) (news := [.row e sz (xs ++ ys)]) (E := []) hτ EnvOK.nil' hpk hw hd hN hf (by rw [ho]; exact .app ht he hk hs hg hl hx hg2 hkd hsz (fun e => by rw [e, Nat.beq_refl] at hne; cases hne) hn hys) h
end
end Go.Proofs.Ytionljjdfgeggaa
