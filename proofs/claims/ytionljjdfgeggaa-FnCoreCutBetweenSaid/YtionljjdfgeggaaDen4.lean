/-
  The plain machine, fourth part: steps in their common forms.
-/
import Derived.Test.YtionljjdfgeggaaDen3
namespace Go.Proofs.Ytionljjdfgeggaa
open Go.RowKit
set_option linter.unusedVariables false
set_option linter.unusedSimpArgs false
theorem All2.nil {α β : Type} {R : α → β → Prop} : All2 R [] [] := trivial
theorem All2.cons {α β : Type} {R : α → β → Prop} {a : α} {b : β} {l : List α} {m : List β} (h : R a b) (hs : All2 R l m) : All2 R (a :: l) (b :: m) := ⟨h, hs⟩

theorem ArgOf.ro {ev : Operand → Option DV} {gt : DG} {x : Operand} {id len sz : Nat} {k : IntKind} {l : List Int} (h : ev x = some (.sl id 0 len)) (hg : gt id = some (.ro k sz l)) (hl : l.length = len * sz) : ArgOf ev gt x (.sl k sz len l) := .full h hg hl
theorem ArgOf.row {ev : Operand → Option DV} {gt : DG} {x : Operand} {id len sz : Nat} {e : TypeId} {l : List Int} (h : ev x = some (.sl id 0 len)) (hg : gt id = some (.row e sz l)) (hl : l.length = len * sz) : ArgOf ev gt x (.sl .i64 sz len l) := .full h hg hl

/-! ## Rows of pairs -/
def flat : List (Int × Int) → List Int
  | [] => []
  | (x, y) :: r => x :: y :: flat r
theorem flat_len : ∀ c : List (Int × Int), (flat c).length = c.length * 2
  | [] => rfl
  | (x, y) :: r => by simp [flat, flat_len r]; omega
theorem flat_get0 : ∀ (c : List (Int × Int)) (i : Nat), (flat c).getD (i * 2) 0 = (c.getD i (0, 0)).1
  | [], i => by simp [flat]
  | (x, y) :: r, 0 => rfl
  | (x, y) :: r, i + 1 => by
    have := flat_get0 r i
    rw [show (i + 1) * 2 = i * 2 + 1 + 1 from by omega]
    simpa [flat] using this
theorem flat_get1 : ∀ (c : List (Int × Int)) (i : Nat), (flat c).getD (i * 2 + 1) 0 = (c.getD i (0, 0)).2
  | [], i => by simp [flat]
  | (x, y) :: r, 0 => rfl
  | (x, y) :: r, i + 1 => by
    have := flat_get1 r i
    rw [show (i + 1) * 2 + 1 = i * 2 + 1 + 1 + 1 from by omega]
    simpa [flat] using this
theorem flat_app : ∀ (c e : List (Int × Int)), flat (c ++ e) = flat c ++ flat e
  | [], e => rfl
  | (x, y) :: r, e => by simp [flat, flat_app r e]
theorem flat_set0 : ∀ (c : List (Int × Int)) (i : Nat) (z : Int), (flat c).set (i * 2) z = flat (c.set i (z, (c.getD i (0, 0)).2))
  | [], i, z => by simp [flat]
  | (x, y) :: r, 0, z => rfl
  | (x, y) :: r, i + 1, z => by
    have := flat_set0 r i z
    rw [show (i + 1) * 2 = i * 2 + 1 + 1 from by omega]
    simpa [flat] using this
theorem flat_set1 : ∀ (c : List (Int × Int)) (i : Nat) (z : Int), (flat c).set (i * 2 + 1) z = flat (c.set i ((c.getD i (0, 0)).1, z))
  | [], i, z => by simp [flat]
  | (x, y) :: r, 0, z => rfl
  | (x, y) :: r, i + 1, z => by
    have := flat_set1 r i z
    rw [show (i + 1) * 2 + 1 = i * 2 + 1 + 1 + 1 from by omega]
    simpa [flat] using this
theorem flat_set2 (c : List (Int × Int)) (i : Nat) (x y : Int) : ((flat c).set (i * 2) x).set (i * 2 + 1) y = flat (c.set i (x, y)) := by
  rw [flat_set0, flat_set1]
  congr 1
  apply List.ext_getElem?
  intro j
  by_cases h : j = i
  · subst h
    by_cases hl : j < c.length
    · simp [List.getD_eq_getElem?_getD, hl]
    · rw [List.getElem?_eq_none (by simp; omega), List.getElem?_eq_none (by simp; omega)]
  · simp [List.getElem?_set_ne (Ne.symm h)]
def unflat : List Int → List (Int × Int)
  | x :: y :: r => (x, y) :: unflat r
  | _ => []
theorem unflat_flat : ∀ c : List (Int × Int), unflat (flat c) = c
  | [] => rfl
  | (x, y) :: r => by simp [flat, unflat, unflat_flat r]
theorem flat_unflat : ∀ (n : Nat) (l : List Int), l.length = n * 2 → flat (unflat l) = l
  | 0, l, h => by
    have : l = [] := List.eq_nil_of_length_eq_zero (by omega)
    subst this; rfl
  | n + 1, l, h => by
    match l, h with
    | x :: y :: r, h => simp [unflat, flat, flat_unflat n r (by simp at h; omega)]
    | [x], h => simp at h; omega
    | [], h => simp at h
theorem unflat_len (n : Nat) (l : List Int) (h : l.length = n * 2) : (unflat l).length = n := by
  have := flat_len (unflat l)
  rw [flat_unflat n l h, h] at this
  omega
theorem flat_drop : ∀ (c : List (Int × Int)) (k : Nat), (flat c).drop (k * 2) = flat (c.drop k)
  | c, 0 => by simp
  | [], k + 1 => by simp [flat]
  | (x, y) :: r, k + 1 => by
    rw [show (k + 1) * 2 = k * 2 + 1 + 1 from by omega]
    simpa [flat] using flat_drop r k
theorem flat_take : ∀ (c : List (Int × Int)) (k : Nat), (flat c).take (k * 2) = flat (c.take k)
  | c, 0 => by simp [flat]
  | [], k + 1 => by simp [flat]
  | (x, y) :: r, k + 1 => by
    rw [show (k + 1) * 2 = k * 2 + 1 + 1 from by omega]
    simp only [flat, List.take_succ_cons]
    rw [flat_take r k]

/-! ## Steps in their common forms -/
section
variable {τ : List (Nat × TK)} {E : Env} {ev : Operand → Option DV} {gt : DG} {nid : Nat} {t t' e : TypeId} {x y : Operand}
theorem G.b00 (ht : lk τ t = some .pair) : GStep τ E ev gt nid (.build t #[]) (.val (.agg #[.int .i64 0, .int .i64 0])) [] := .build (ps := []) (qs := []) ht rfl rfl rfl
theorem G.b01 {a b : Int} (ht : lk τ t = some .pair) (hx : ev x = some (.val (.int .i64 a))) (hy : ev y = some (.val (.int .i64 b))) : GStep τ E ev gt nid (.build t #[(0, x), (1, y)]) (.val (.agg #[.int .i64 a, .int .i64 b])) [] :=
  .build (ps := [(0, x), (1, y)]) (qs := [(0, a), (1, b)]) ht (by simp only [parts, hx, hy]; rfl) rfl rfl
theorem G.b0 {a : Int} (ht : lk τ t = some .pair) (hx : ev x = some (.val (.int .i64 a))) : GStep τ E ev gt nid (.build t #[(0, x)]) (.val (.agg #[.int .i64 a, .int .i64 0])) [] :=
  .build (ps := [(0, x)]) (qs := [(0, a)]) ht (by simp only [parts, hx]; rfl) rfl rfl
theorem G.b1 {b : Int} (ht : lk τ t = some .pair) (hy : ev y = some (.val (.int .i64 b))) : GStep τ E ev gt nid (.build t #[(1, y)]) (.val (.agg #[.int .i64 0, .int .i64 b])) [] :=
  .build (ps := [(1, y)]) (qs := [(1, b)]) ht (by simp only [parts, hy]; rfl) rfl rfl
theorem G.bs0i (ht : lk τ t = some (.sl e)) (he : lk τ e = some .int) : GStep τ E ev gt nid (.buildSlice t 0 #[]) (.sl nid 0 0) [.row e 1 []] := .bslice1 (ps := []) (qs := []) ht he (by omega) rfl rfl
theorem G.bs0p (ht : lk τ t = some (.sl e)) (he : lk τ e = some .pair) : GStep τ E ev gt nid (.buildSlice t 0 #[]) (.sl nid 0 0) [.row e 2 (flat [])] := .bslice2 (ps := []) (qs := []) ht he (by omega) rfl rfl
theorem G.bs1i {a : Int} (ht : lk τ t = some (.sl e)) (he : lk τ e = some .int) (hx : ev x = some (.val (.int .i64 a))) : GStep τ E ev gt nid (.buildSlice t 1 #[(0, x)]) (.sl nid 0 1) [.row e 1 [a]] :=
  .bslice1 (ps := [(0, x)]) (qs := [(0, [a])]) ht he (by omega) (by simp only [parts1, hx]; rfl) rfl
theorem G.bs2i {a b : Int} (ht : lk τ t = some (.sl e)) (he : lk τ e = some .int) (hx : ev x = some (.val (.int .i64 a))) (hy : ev y = some (.val (.int .i64 b))) : GStep τ E ev gt nid (.buildSlice t 2 #[(0, x), (1, y)]) (.sl nid 0 2) [.row e 1 [a, b]] :=
  .bslice1 (ps := [(0, x), (1, y)]) (qs := [(0, [a]), (1, [b])]) ht he (by omega) (by simp only [parts1, hx, hy]; rfl) rfl
theorem G.bs1p {a b : Int} (ht : lk τ t = some (.sl e)) (he : lk τ e = some .pair) (hx : ev x = some (.val (.agg #[.int .i64 a, .int .i64 b]))) : GStep τ E ev gt nid (.buildSlice t 1 #[(0, x)]) (.sl nid 0 1) [.row e 2 (flat [(a, b)])] :=
  .bslice2 (ps := [(0, x)]) (qs := [(0, [a, b])]) ht he (by omega) (by simp only [parts2, hx]; rfl) rfl
theorem G.bs2p {a b c d : Int} (ht : lk τ t = some (.sl e)) (he : lk τ e = some .pair) (hx : ev x = some (.val (.agg #[.int .i64 a, .int .i64 b]))) (hy : ev y = some (.val (.agg #[.int .i64 c, .int .i64 d]))) : GStep τ E ev gt nid (.buildSlice t 2 #[(0, x), (1, y)]) (.sl nid 0 2) [.row e 2 (flat [(a, b), (c, d)])] :=
  .bslice2 (ps := [(0, x), (1, y)]) (qs := [(0, [a, b]), (1, [c, d])]) ht he (by omega) (by simp only [parts2, hx, hy]; rfl) rfl
/-- loads out of a variable of the call's own -/
theorem G.lb2 {id : Nat} {ty : TypeId} {a b : Int} (ht : lk τ t = some .pair) (hx : ev x = some (.ptr id 0)) (hg : gt id = some (.box ty [a, b])) : GStep τ E ev gt nid (.load t x) (.val (.agg #[.int .i64 a, .int .i64 b])) [] := .load2 ht hx hg (by simp [DO.cells])
theorem G.lbf0 {id : Nat} {ty : TypeId} {a b : Int} (ht : lk τ t = some .int) (hx : ev x = some (.ptr id 0)) (hg : gt id = some (.box ty [a, b])) : GStep τ E ev gt nid (.load t x) (.val (.int .i64 a)) [] := .load1 ht hx hg (by simp [DO.cells])
theorem G.lbf1 {id : Nat} {ty : TypeId} {a b : Int} (ht : lk τ t = some .int) (hx : ev x = some (.ptr id 1)) (hg : gt id = some (.box ty [a, b])) : GStep τ E ev gt nid (.load t x) (.val (.int .i64 b)) [] := .load1 ht hx hg (by simp [DO.cells])
theorem G.lb1 {id : Nat} {ty : TypeId} {a : Int} (ht : lk τ t = some .int) (hx : ev x = some (.ptr id 0)) (hg : gt id = some (.box ty [a])) : GStep τ E ev gt nid (.load t x) (.val (.int .i64 a)) [] := .load1 ht hx hg (by simp [DO.cells])
theorem G.fa {id off f : Nat} {o : DO} (ht : lk τ t = some .pair) (hx : ev x = some (.ptr id off)) (hg : gt id = some o) (hf : f < 2) : GStep τ E ev gt nid (.fieldAddr t x f) (.ptr id (off + f)) [] := .faddr ht hx hg hf
/-- elements of a row of ints -/
theorem G.ia1 {id len i : Nat} {o : DO} {z : Int} (ht : lk τ t = some (.sl e)) (he : lk τ e = some .int) (hx : ev x = some (.sl id 0 len)) (hg : gt id = some o) (hs : o.sz = 1) (hy : ev y = some (.val (.int .i64 z))) (hz : z = (i : Int)) (hi : i < len) : GStep τ E ev gt nid (.indexAddr t x y) (.ptr id i) [] := by
  have := GStep.iaddr (τ := τ) (E := E) (nid := nid) ht he hx hg (by rw [hs]; rfl) hy hz hi
  rwa [hs, Nat.zero_add, Nat.mul_one] at this
theorem G.le1r {id i sz : Nat} {l : List Int} (ht : lk τ t = some .int) (hx : ev x = some (.ptr id i)) (hg : gt id = some (.ro .i64 sz l)) (hi : i < l.length) : GStep τ E ev gt nid (.load t x) (.val (.int .i64 (l.getD i 0))) [] := .load1 ht hx hg hi
theorem G.le1w {id i sz : Nat} {e' : TypeId} {l : List Int} (ht : lk τ t = some .int) (hx : ev x = some (.ptr id i)) (hg : gt id = some (.row e' sz l)) (hi : i < l.length) : GStep τ E ev gt nid (.load t x) (.val (.int .i64 (l.getD i 0))) [] := .load1 ht hx hg hi
theorem G.le1 {id i : Nat} {o : DO} {l : List Int} (ht : lk τ t = some .int) (hx : ev x = some (.ptr id i)) (hg : gt id = some o) (hk : o.kind = .i64) (hl : o.cells = l) (hi : i < l.length) : GStep τ E ev gt nid (.load t x) (.val (.int .i64 (l.getD i 0))) [] := by
  have := GStep.load1 (τ := τ) (E := E) (nid := nid) ht hx hg (by rw [hl]; exact hi)
  rwa [hk, hl] at this
/-- elements of a row of pairs -/
theorem G.ia2 {id len i : Nat} {o : DO} {z : Int} (ht : lk τ t = some (.sl e)) (he : lk τ e = some .pair) (hx : ev x = some (.sl id 0 len)) (hg : gt id = some o) (hs : o.sz = 2) (hy : ev y = some (.val (.int .i64 z))) (hz : z = (i : Int)) (hi : i < len) : GStep τ E ev gt nid (.indexAddr t x y) (.ptr id (i * 2)) [] := by
  have := GStep.iaddr (τ := τ) (E := E) (nid := nid) ht he hx hg (by rw [hs]; rfl) hy hz hi
  rwa [hs, Nat.zero_add] at this
theorem G.le2 {id i : Nat} {o : DO} {c : List (Int × Int)} (ht : lk τ t = some .pair) (hx : ev x = some (.ptr id (i * 2))) (hg : gt id = some o) (hk : o.kind = .i64) (hl : o.cells = flat c) (hi : i < c.length) :
    GStep τ E ev gt nid (.load t x) (.val (.agg #[.int .i64 (c.getD i (0, 0)).1, .int .i64 (c.getD i (0, 0)).2])) [] := by
  have := GStep.load2 (τ := τ) (E := E) (nid := nid) ht hx hg (by rw [hl, flat_len]; omega)
  rwa [hk, hl, flat_get0, flat_get1] at this
theorem G.lf0 {id i : Nat} {o : DO} {c : List (Int × Int)} (ht : lk τ t = some .int) (hx : ev x = some (.ptr id (i * 2 + 0))) (hg : gt id = some o) (hk : o.kind = .i64) (hl : o.cells = flat c) (hi : i < c.length) : GStep τ E ev gt nid (.load t x) (.val (.int .i64 (c.getD i (0, 0)).1)) [] := by
  have := GStep.load1 (τ := τ) (E := E) (nid := nid) ht hx hg (by rw [hl, flat_len]; omega)
  rwa [hk, hl, Nat.add_zero, flat_get0] at this
theorem G.lf1 {id i : Nat} {o : DO} {c : List (Int × Int)} (ht : lk τ t = some .int) (hx : ev x = some (.ptr id (i * 2 + 1))) (hg : gt id = some o) (hk : o.kind = .i64) (hl : o.cells = flat c) (hi : i < c.length) : GStep τ E ev gt nid (.load t x) (.val (.int .i64 (c.getD i (0, 0)).2)) [] := by
  have := GStep.load1 (τ := τ) (E := E) (nid := nid) ht hx hg (by rw [hl, flat_len]; omega)
  rwa [hk, hl, flat_get1] at this
theorem G.le2r {id i sz : Nat} {c : List (Int × Int)} (ht : lk τ t = some .pair) (hx : ev x = some (.ptr id (i * 2))) (hg : gt id = some (.ro .i64 sz (flat c))) (hi : i < c.length) : GStep τ E ev gt nid (.load t x) (.val (.agg #[.int .i64 (c.getD i (0, 0)).1, .int .i64 (c.getD i (0, 0)).2])) [] := G.le2 ht hx hg rfl rfl hi
theorem G.le2w {id i sz : Nat} {e' : TypeId} {c : List (Int × Int)} (ht : lk τ t = some .pair) (hx : ev x = some (.ptr id (i * 2))) (hg : gt id = some (.row e' sz (flat c))) (hi : i < c.length) : GStep τ E ev gt nid (.load t x) (.val (.agg #[.int .i64 (c.getD i (0, 0)).1, .int .i64 (c.getD i (0, 0)).2])) [] := G.le2 ht hx hg rfl rfl hi
theorem G.lf0r {id i sz : Nat} {c : List (Int × Int)} (ht : lk τ t = some .int) (hx : ev x = some (.ptr id (i * 2 + 0))) (hg : gt id = some (.ro .i64 sz (flat c))) (hi : i < c.length) : GStep τ E ev gt nid (.load t x) (.val (.int .i64 (c.getD i (0, 0)).1)) [] := G.lf0 ht hx hg rfl rfl hi
theorem G.lf0w {id i sz : Nat} {e' : TypeId} {c : List (Int × Int)} (ht : lk τ t = some .int) (hx : ev x = some (.ptr id (i * 2 + 0))) (hg : gt id = some (.row e' sz (flat c))) (hi : i < c.length) : GStep τ E ev gt nid (.load t x) (.val (.int .i64 (c.getD i (0, 0)).1)) [] := G.lf0 ht hx hg rfl rfl hi
theorem G.lf1r {id i sz : Nat} {c : List (Int × Int)} (ht : lk τ t = some .int) (hx : ev x = some (.ptr id (i * 2 + 1))) (hg : gt id = some (.ro .i64 sz (flat c))) (hi : i < c.length) : GStep τ E ev gt nid (.load t x) (.val (.int .i64 (c.getD i (0, 0)).2)) [] := G.lf1 ht hx hg rfl rfl hi
theorem G.lf1w {id i sz : Nat} {e' : TypeId} {c : List (Int × Int)} (ht : lk τ t = some .int) (hx : ev x = some (.ptr id (i * 2 + 1))) (hg : gt id = some (.row e' sz (flat c))) (hi : i < c.length) : GStep τ E ev gt nid (.load t x) (.val (.int .i64 (c.getD i (0, 0)).2)) [] := G.lf1 ht hx hg rfl rfl hi
theorem G.call {f : FuncId} {xs : List Operand} {ts : Array TypeId} {g : List AD → Option RD} {ds : List AD} {r : RD} {v : DV} {news : List DO} (hf : lk E f = some g) (ha : All2 (ArgOf ev gt) xs ds) (hr : g ds = some r) (hv : resV nid r = v) (hn : resN r = news) :
    GStep τ E ev gt nid (.call { callee := .value (.func f), args := xs.toArray, argTypes := ts }) v news := by
  subst hv hn
  exact .call hf ha hr
end

section
variable {P : Program} {C : Ctx} {N : Nat} {QD : Exit → DT → DH → Prop} {T : DT} {H : DH} {ops : Array Oper} {l : List Oper} {τ : List (Nat × TK)} {E : Env} {o : Oper} {d : Nat} {v : DV} {news : List DO}
theorem DL.go (hτ : TyOK P τ) (hE : EnvOK P E) (hd : o.dst = some d) (hg : GStep τ E (ev T) (lk H) d o.op v news) (hw : wants ops (lk T) o = some true) (hN : Nat.blt d N = true) (hf : freshB d news.length T = true) (h : DL P C N ops QD l ((d, v) :: T) (addL d news H)) : DL P C N ops QD (o :: l) T H :=
  .step hτ hE hw hd hN hf hg h
theorem DR.go {K : DT → DH → Prop} (hd : o.dst = some d) (hg : GStep τ E (ev T) (lk H) d o.op v news) (hw : wants ops (lk T) o = some true) (hN : Nat.blt d N = true) (hf : freshB d news.length T = true) (h : DR τ E ops N l ((d, v) :: T) (addL d news H) K) : DR τ E ops N (o :: l) T H K :=
  .step hw hd hN hf hg h
theorem DL.go0 (hτ : TyOK P τ) (hE : EnvOK P E) (hd : o.dst = some d) (hg : GStep τ E (ev T) (lk H) d o.op v []) (hw : wants ops (lk T) o = some true) (hN : Nat.blt d N = true) (h : DL P C N ops QD l ((d, v) :: T) H) : DL P C N ops QD (o :: l) T H :=
  .step hτ hE hw hd hN rfl hg h
theorem DR.go0 {K : DT → DH → Prop} (hd : o.dst = some d) (hg : GStep τ E (ev T) (lk H) d o.op v []) (hw : wants ops (lk T) o = some true) (hN : Nat.blt d N = true) (h : DR τ E ops N l ((d, v) :: T) H K) : DR τ E ops N (o :: l) T H K :=
  .step hw hd hN rfl hg h
theorem DL.go1 (hτ : TyOK P τ) (hE : EnvOK P E) {o1 : DO} (hd : o.dst = some d) (hg : GStep τ E (ev T) (lk H) d o.op v [o1]) (hw : wants ops (lk T) o = some true) (hN : Nat.blt d N = true) (hf : freshB d 1 T = true) (h : DL P C N ops QD l ((d, v) :: T) ((d, o1) :: H)) : DL P C N ops QD (o :: l) T H :=
  .step (news := [o1]) hτ hE hw hd hN hf hg h
theorem DR.go1 {K : DT → DH → Prop} {o1 : DO} (hd : o.dst = some d) (hg : GStep τ E (ev T) (lk H) d o.op v [o1]) (hw : wants ops (lk T) o = some true) (hN : Nat.blt d N = true) (hf : freshB d 1 T = true) (h : DR τ E ops N l ((d, v) :: T) ((d, o1) :: H) K) : DR τ E ops N (o :: l) T H K :=
  .step (news := [o1]) hw hd hN hf hg h
theorem DL.go2 (hτ : TyOK P τ) (hE : EnvOK P E) {o1 o2 : DO} {d1 : Nat} (hd : o.dst = some d) (hg : GStep τ E (ev T) (lk H) d o.op v [o1, o2]) (hw : wants ops (lk T) o = some true) (hN : Nat.blt d N = true) (hf : freshB d 2 T = true) (h1 : d + 1000 = d1) (h : DL P C N ops QD l ((d, v) :: T) ((d1, o2) :: (d, o1) :: H)) : DL P C N ops QD (o :: l) T H := by
  subst h1
  exact .step (news := [o1, o2]) hτ hE hw hd hN hf hg h
theorem DW.condT {c : Operand} {x y : Code} (hc : ev T c = some (.val (.bool true))) (h : DW P C N x QD T H) : DW P C N (.cond c x y) QD T H := .cond hc (fun _ => h) (fun h => by cases h)
theorem DW.condF {c : Operand} {x y : Code} (hc : ev T c = some (.val (.bool false))) (h : DW P C N y QD T H) : DW P C N (.cond c x y) QD T H := .cond hc (fun h => by cases h) (fun _ => h)
theorem DW.condD {p : Prop} [Decidable p] {c : Operand} {x y : Code} (hc : ev T c = some (.val (.bool (decide p)))) (ht : p → DW P C N x QD T H) (hf : ¬ p → DW P C N y QD T H) : DW P C N (.cond c x y) QD T H := .cond hc (fun h => ht (by simpa using h)) (fun h => hf (by simpa using h))
/-- stores into a variable of the call's own -/
theorem DL.sb2 (hτ : TyOK P τ) {t ty : TypeId} {x y : Operand} {id : Nat} {a b z z' : Int} (ho : o.op = .store t x y) (hgd : o.guard = none) (hd : o.dst = none) (ht : lk τ t = some .pair)
    (hx : ev T x = some (.ptr id 0)) (hy : ev T y = some (.val (.agg #[.int .i64 z, .int .i64 z']))) (hg : lk H id = some (.box ty [a, b]))
    (h : DL P C N ops QD l T ((id, .box ty [z, z']) :: H)) : DL P C N ops QD (o :: l) T H := .store2 hτ ho hgd hd ht hx hy hg rfl (by simp [DO.cells]) h
theorem DL.sbf0 (hτ : TyOK P τ) {t ty : TypeId} {x y : Operand} {id : Nat} {a b z : Int} (ho : o.op = .store t x y) (hgd : o.guard = none) (hd : o.dst = none) (ht : lk τ t = some .int)
    (hx : ev T x = some (.ptr id 0)) (hy : ev T y = some (.val (.int .i64 z))) (hg : lk H id = some (.box ty [a, b]))
    (h : DL P C N ops QD l T ((id, .box ty [z, b]) :: H)) : DL P C N ops QD (o :: l) T H := .store1 hτ ho hgd hd ht hx hy hg rfl (by simp [DO.cells]) h
theorem DL.sbf1 (hτ : TyOK P τ) {t ty : TypeId} {x y : Operand} {id : Nat} {a b z : Int} (ho : o.op = .store t x y) (hgd : o.guard = none) (hd : o.dst = none) (ht : lk τ t = some .int)
    (hx : ev T x = some (.ptr id 1)) (hy : ev T y = some (.val (.int .i64 z))) (hg : lk H id = some (.box ty [a, b]))
    (h : DL P C N ops QD l T ((id, .box ty [a, z]) :: H)) : DL P C N ops QD (o :: l) T H := .store1 hτ ho hgd hd ht hx hy hg rfl (by simp [DO.cells]) h
/-- stores into a row of the call's own -/
theorem DL.se1 (hτ : TyOK P τ) {t e : TypeId} {x y : Operand} {id i : Nat} {xs : List Int} {z : Int} (ho : o.op = .store t x y) (hgd : o.guard = none) (hd : o.dst = none) (ht : lk τ t = some .int)
    (hx : ev T x = some (.ptr id i)) (hy : ev T y = some (.val (.int .i64 z))) (hg : lk H id = some (.row e 1 xs)) (hi : i < xs.length)
    (h : DL P C N ops QD l T ((id, .row e 1 (xs.set i z)) :: H)) : DL P C N ops QD (o :: l) T H := .store1 hτ ho hgd hd ht hx hy hg rfl hi h
theorem DL.sf0 (hτ : TyOK P τ) {t e : TypeId} {x y : Operand} {id i : Nat} {c : List (Int × Int)} {z : Int} (ho : o.op = .store t x y) (hgd : o.guard = none) (hd : o.dst = none) (ht : lk τ t = some .int)
    (hx : ev T x = some (.ptr id (i * 2 + 0))) (hy : ev T y = some (.val (.int .i64 z))) (hg : lk H id = some (.row e 2 (flat c))) (hi : i < c.length)
    (h : DL P C N ops QD l T ((id, .row e 2 (flat (c.set i (z, (c.getD i (0, 0)).2)))) :: H)) : DL P C N ops QD (o :: l) T H := by
  refine .store1 hτ ho hgd hd ht hx hy hg rfl (by simp only [DO.cells, flat_len]; omega) ?_
  simp only [DO.cells, DO.put, Nat.add_zero, flat_set0]
  exact h
theorem DL.sf1 (hτ : TyOK P τ) {t e : TypeId} {x y : Operand} {id i : Nat} {c : List (Int × Int)} {z : Int} (ho : o.op = .store t x y) (hgd : o.guard = none) (hd : o.dst = none) (ht : lk τ t = some .int)
    (hx : ev T x = some (.ptr id (i * 2 + 1))) (hy : ev T y = some (.val (.int .i64 z))) (hg : lk H id = some (.row e 2 (flat c))) (hi : i < c.length)
    (h : DL P C N ops QD l T ((id, .row e 2 (flat (c.set i ((c.getD i (0, 0)).1, z)))) :: H)) : DL P C N ops QD (o :: l) T H := by
  refine .store1 hτ ho hgd hd ht hx hy hg rfl (by simp only [DO.cells, flat_len]; omega) ?_
  simp only [DO.cells, DO.put, flat_set1]
  exact h
theorem DL.se2 (hτ : TyOK P τ) {t e : TypeId} {x y : Operand} {id i : Nat} {c : List (Int × Int)} {z z' : Int} (ho : o.op = .store t x y) (hgd : o.guard = none) (hd : o.dst = none) (ht : lk τ t = some .pair)
    (hx : ev T x = some (.ptr id (i * 2))) (hy : ev T y = some (.val (.agg #[.int .i64 z, .int .i64 z']))) (hg : lk H id = some (.row e 2 (flat c))) (hi : i < c.length)
    (h : DL P C N ops QD l T ((id, .row e 2 (flat (c.set i (z, z')))) :: H)) : DL P C N ops QD (o :: l) T H := by
  refine .store2 hτ ho hgd hd ht hx hy hg rfl (by simp only [DO.cells, flat_len]; omega) ?_
  simp only [DO.cells, DO.put, flat_set2]
  exact h
/-- an append, what is known of other slots being written out -/
theorem DL.app (hτ : TyOK P τ) (T' : DT) {s x : Operand} {ts e : TypeId} {k : TK} {id id2 off n m sz : Nat} {o2 : DO} {xs ys : List Int}
    (ho : o.op = .call { callee := .builtin .append, args := #[s, x], argTypes := #[ts, ts] }) (hgd : o.guard = none) (hd : o.dst = some d) (hN : Nat.blt d N = true) (ht : lk τ ts = some (.sl e)) (he : lk τ e = some k) (hk : k.esz = some sz)
    (hs : ev T s = some (.sl id 0 n)) (hg : lk H id = some (.row e sz xs)) (hl : xs.length = n * sz) (hx : ev T x = some (.sl id2 off m)) (hg2 : lk H id2 = some o2) (hkd : o2.kind = .i64) (hsz : o2.sz = sz) (hne : Nat.beq id id2 = false) (hn : n + m ≤ 1000000)
    (hys : (o2.cells.drop (off * sz)).take (m * sz) = ys) (hT : Sub T' T) (hno : T'.all (fun p => !p.2.ids.elem id) = true)
    (h : DL P C N ops QD l ((d, .sl id 0 (n + m)) :: T') ((id, .row e sz (xs ++ ys)) :: H)) : DL P C N ops QD (o :: l) T H := by
  refine .append hτ ho hgd hd hN ht he hk hs hg hl hx hg2 hkd hsz (fun e => by rw [e, Nat.beq_refl] at hne; cases hne) hn hys (.sub ?_ (Sub.refl _) h)
  intro t u hu
  rw [lk_cons] at hu ⊢
  by_cases e' : d = t
  · rw [if_pos e'] at hu ⊢; exact hu
  · rw [if_neg e'] at hu ⊢
    have h1 := hT t u hu
    have h2 := List.all_eq_true.1 hno _ (lk_mem hu)
    unfold kill
    rw [lk_filter, if_pos, h1]
    unfold killK
    rw [h1]
    exact h2
/-- 'append(s, z)' -/
theorem DL.app1 (hτ : TyOK P τ) (T' : DT) {s x : Operand} {ts e e2 : TypeId} {id id2 n : Nat} {xs : List Int} {z : Int}
    (ho : o.op = .call { callee := .builtin .append, args := #[s, x], argTypes := #[ts, ts] }) (hgd : o.guard = none) (hd : o.dst = some d) (hN : Nat.blt d N = true) (ht : lk τ ts = some (.sl e)) (he : lk τ e = some .int)
    (hs : ev T s = some (.sl id 0 n)) (hg : lk H id = some (.row e 1 xs)) (hl : xs.length = n) (hx : ev T x = some (.sl id2 0 1)) (hg2 : lk H id2 = some (.row e2 1 [z])) (hne : Nat.beq id id2 = false) (hn : n ≤ 999999) (hT : Sub T' T) (hno : T'.all (fun p => !p.2.ids.elem id) = true)
    (h : DL P C N ops QD l ((d, .sl id 0 (n + 1)) :: T') ((id, .row e 1 (xs ++ [z])) :: H)) : DL P C N ops QD (o :: l) T H :=
  .app hτ T' ho hgd hd hN ht he rfl hs hg (by simpa using hl) hx hg2 rfl rfl hne (by omega) rfl hT hno h
theorem DL.app2 (hτ : TyOK P τ) (T' : DT) {s x : Operand} {ts e e2 : TypeId} {id id2 n : Nat} {c : List (Int × Int)} {z z' : Int}
    (ho : o.op = .call { callee := .builtin .append, args := #[s, x], argTypes := #[ts, ts] }) (hgd : o.guard = none) (hd : o.dst = some d) (hN : Nat.blt d N = true) (ht : lk τ ts = some (.sl e)) (he : lk τ e = some .pair)
    (hs : ev T s = some (.sl id 0 n)) (hg : lk H id = some (.row e 2 (flat c))) (hl : c.length = n) (hx : ev T x = some (.sl id2 0 1)) (hg2 : lk H id2 = some (.row e2 2 (flat [(z, z')]))) (hne : Nat.beq id id2 = false) (hn : n ≤ 999999) (hT : Sub T' T) (hno : T'.all (fun p => !p.2.ids.elem id) = true)
    (h : DL P C N ops QD l ((d, .sl id 0 (n + 1)) :: T') ((id, .row e 2 (flat (c ++ [(z, z')]))) :: H)) : DL P C N ops QD (o :: l) T H := by
  refine .app hτ T' ho hgd hd hN ht he rfl hs hg (by rw [flat_len, hl]) hx hg2 rfl rfl hne (by omega) (ys := flat [(z, z')]) rfl hT hno ?_
  rw [← flat_app]
  exact h
end

/-! ## What functions hand back -/
section
variable {τ : List (Nat × TK)} {T : DT} {H : DH} {t1 t2 t3 id1 id2 m1 m2 sz1 sz2 : Nat} {ty e1 e2 : TypeId} {x y : Value} {c1 : RC} {l1 l2 : List Int}
theorem rvIds_v {t : Nat} {x : Value} (h : lk T t = some (.val x)) : rvIds T (.tmp t) = [] := by simp [rvIds, h]
theorem rvIds_s {t id n : Nat} (h : lk T t = some (.sl id 0 n)) : rvIds T (.tmp t) = [id] := by simp [rvIds, h]
theorem RetD.cv (h1 : RV τ T H (.cell t1 ty) c1) (h2 : lk T t2 = some (.val x)) (hx : x.ownBlock = none) : RetD τ [.cell t1 ty, .tmp t2] (.tup [c1, .v x]) T H :=
  ⟨by simp, by simp, ⟨h1, RV.v h2 hx, trivial⟩, by rw [List.flatMap_cons, List.flatMap_cons, rvIds_v h2]; simp [rvIds]⟩
theorem RetD.vv (h1 : lk T t1 = some (.val y)) (hy : y.ownBlock = none) (h2 : lk T t2 = some (.val x)) (hx : x.ownBlock = none) : RetD τ [.tmp t1, .tmp t2] (.tup [.v y, .v x]) T H :=
  ⟨by simp, by simp, ⟨RV.v h1 hy, RV.v h2 hx, trivial⟩, by simp [rvIds_v h1, rvIds_v h2]⟩
theorem RetD.sv (h1 : lk T t1 = some (.sl id1 0 m1)) (hg : lk H id1 = some (.row e1 sz1 l1)) (hl : l1.length = m1 * sz1) (hs : 0 < sz1) (h2 : lk T t2 = some (.val x)) (hx : x.ownBlock = none) : RetD τ [.tmp t1, .tmp t2] (.tup [.row e1 sz1 m1 l1, .v x]) T H :=
  ⟨by simp, by simp, ⟨RV.row h1 hg hl hs, RV.v h2 hx, trivial⟩, by simp [rvIds_s h1, rvIds_v h2]⟩
theorem RetD.nv (h1 : lk T t1 = some (.val (.slice none 0 0))) (hs : 0 < sz1) (h2 : lk T t2 = some (.val x)) (hx : x.ownBlock = none) : RetD τ [.tmp t1, .tmp t2] (.tup [.row e1 sz1 0 [], .v x]) T H :=
  ⟨by simp, by simp, ⟨RV.nil h1 hs, RV.v h2 hx, trivial⟩, by simp [rvIds_v h1, rvIds_v h2]⟩
theorem RetD.ssv (h1 : lk T t1 = some (.sl id1 0 m1)) (hg : lk H id1 = some (.row e1 sz1 l1)) (hl : l1.length = m1 * sz1) (hs : 0 < sz1) (h2 : lk T t2 = some (.sl id2 0 m2)) (hg2 : lk H id2 = some (.row e2 sz2 l2)) (hl2 : l2.length = m2 * sz2) (hs2 : 0 < sz2) (hne : id1 ≠ id2)
    (h3 : lk T t3 = some (.val x)) (hx : x.ownBlock = none) : RetD τ [.tmp t1, .tmp t2, .tmp t3] (.tup [.row e1 sz1 m1 l1, .row e2 sz2 m2 l2, .v x]) T H :=
  ⟨by simp, by simp, ⟨RV.row h1 hg hl hs, RV.row h2 hg2 hl2 hs2, RV.v h3 hx, trivial⟩, by simp [rvIds_s h1, rvIds_s h2, rvIds_v h3, hne]⟩
theorem RetD.nnv (h1 : lk T t1 = some (.val (.slice none 0 0))) (hs : 0 < sz1) (h2 : lk T t2 = some (.val (.slice none 0 0))) (hs2 : 0 < sz2) (h3 : lk T t3 = some (.val x)) (hx : x.ownBlock = none) : RetD τ [.tmp t1, .tmp t2, .tmp t3] (.tup [.row e1 sz1 0 [], .row e2 sz2 0 [], .v x]) T H :=
  ⟨by simp, by simp, ⟨RV.nil h1 hs, RV.nil h2 hs2, RV.v h3 hx, trivial⟩, by simp [rvIds_v h1, rvIds_v h2, rvIds_v h3]⟩
theorem RetD.ss (h1 : lk T t1 = some (.sl id1 0 m1)) (hg : lk H id1 = some (.row e1 sz1 l1)) (hl : l1.length = m1 * sz1) (hs : 0 < sz1) (h2 : lk T t2 = some (.sl id2 0 m2)) (hg2 : lk H id2 = some (.row e2 sz2 l2)) (hl2 : l2.length = m2 * sz2) (hs2 : 0 < sz2) (hne : id1 ≠ id2) : RetD τ [.tmp t1, .tmp t2] (.tup [.row e1 sz1 m1 l1, .row e2 sz2 m2 l2]) T H :=
  ⟨by simp, by simp, ⟨RV.row h1 hg hl hs, RV.row h2 hg2 hl2 hs2, trivial⟩, by simp [rvIds_s h1, rvIds_s h2, hne]⟩
theorem RetD.v1 (h1 : lk T t1 = some (.val x)) (hx : x.ownBlock = none) : RetD τ [.tmp t1] (.one (.v x)) T H := ⟨_, rfl, RV.v h1 hx⟩
theorem RetD.s1 (h1 : lk T t1 = some (.sl id1 0 m1)) (hg : lk H id1 = some (.row e1 sz1 l1)) (hl : l1.length = m1 * sz1) (hs : 0 < sz1) : RetD τ [.tmp t1] (.one (.row e1 sz1 m1 l1)) T H := ⟨_, rfl, RV.row h1 hg hl hs⟩
theorem RetD.nl (h1 : lk T t1 = some (.val (.slice none 0 0))) (hs : 0 < sz1) : RetD τ [.tmp t1] (.one (.row e1 sz1 0 [])) T H := ⟨_, rfl, RV.nil h1 hs⟩
end

/-! ## A region's Bool, told once -/
def pickK (keys : List Nat) (T : DT) : DT := keys.filterMap fun k => (lk T k).map fun v => (k, v)
def SubK (keys : List Nat) (T T' : DT) : Prop := ∀ k ∈ keys, lk T' k = lk T k
theorem SubK.nil {T T' : DT} : SubK [] T T' := fun _ h => by cases h
theorem SubK.cons {k : Nat} {ks : List Nat} {T T' : DT} (h : lk T' k = lk T k) (hs : SubK ks T T') : SubK (k :: ks) T T' := fun j hj => by
  rcases List.mem_cons.1 hj with rfl | hj
  · exact h
  · exact hs j hj
theorem lk_pickK : ∀ (keys : List Nat) (T : DT) (k : Nat) (v : DV), lk (pickK keys T) k = some v → k ∈ keys ∧ lk T k = some v
  | [], T, k, v, h => by cases h
  | j :: ks, T, k, v, h => by
    unfold pickK at h
    rw [List.filterMap_cons] at h
    cases hj : lk T j with
    | none =>
      rw [hj] at h
      obtain ⟨h1, h2⟩ := lk_pickK ks T k v h
      exact ⟨List.mem_cons_of_mem _ h1, h2⟩
    | some u =>
      rw [hj] at h
      simp only [Option.map_some] at h
      rw [lk_cons] at h
      by_cases e : j = k
      · subst e; rw [if_pos rfl] at h; cases h; exact ⟨List.mem_cons_self .., hj⟩
      · rw [if_neg e] at h
        obtain ⟨h1, h2⟩ := lk_pickK ks T k v h
        exact ⟨List.mem_cons_of_mem _ h1, h2⟩
section
variable {P : Program} {C : Ctx} {N : Nat} {QD : Exit → DT → DH → Prop} {T : DT} {H : DH}
theorem DW.mono {QD' : Exit → DT → DH → Prop} {c : Code} (h : DW P C N c QD T H) (hq : ∀ e T H, QD e T H → QD' e T H) : DW P C N c QD' T H :=
  fun a w hs => wp_mono (h a w hs) fun e a' w' ⟨T', H', h1, h2⟩ => ⟨T', H', hq _ _ _ h1, h2⟩
theorem DW.cut (t : Nat) (B : Bool) (keys : List Nat) {x y : Code} (h1 : DW P C N x (fun e T' H' => e = .normal ∧ ∃ b, lk T' t = some (.val (.bool b)) ∧ b = B ∧ SubK keys T T' ∧ Sub H H') T H)
    (h2 : DW P C N y QD ((t, .val (.bool B)) :: pickK keys T) H) : DW P C N (.seq x y) QD T H := by
  refine DW.seq (h1.mono ?_)
  rintro e T' H' ⟨rfl, b, hb, rfl, hk, hh⟩
  refine DW.sub ?_ hh h2
  intro k v hv
  rw [lk_cons] at hv
  by_cases e : t = k
  · rw [if_pos e] at hv; cases hv; subst e; exact hb
  · rw [if_neg e] at hv
    obtain ⟨m1, m2⟩ := lk_pickK keys T k v hv
    rw [hk k m1]; exact m2
end
end Go.Proofs.Ytionljjdfgeggaa
