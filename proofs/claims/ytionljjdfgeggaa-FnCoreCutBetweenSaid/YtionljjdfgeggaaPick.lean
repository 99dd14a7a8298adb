/-
  Picks of a reader, told to the plain machine; and how a reader is opened.
-/
import Derived.Test.YtionljjdfgeggaaDraw1
import Derived.Test.YtionljjdfgeggaaDen9
namespace Go.Proofs.Ytionljjdfgeggaa
open Go.RowKit
set_option linter.unusedVariables false
set_option linter.unusedSimpArgs false

def RetPickV (w : World) (g : Nat) (p : Nat) (x : Int) (e : Ending) (w' : World) : Prop := e = .returned (.int .i64 x) ∧ ∃ k, w' = (w.setCell ⟨g, 1, none⟩ (.int .i64 ((p + 1 : Nat) : Int))).drewN k
theorem pickV_no {bs : List Int} {p : Nat} {n : Int} (h : n < 1 ∨ bs.length = 0) : pickV bs p n = 0 := by unfold pickV; rw [if_pos h]
theorem pickV_in {bs : List Int} {p : Nat} {n : Int} (h : ¬ n < 1) (h' : p < bs.length) : pickV bs p n = bs.getD p 0 % n := by unfold pickV; rw [if_neg (by omega), if_pos h']
theorem pickV_far {bs : List Int} {p L : Nat} {n u v x : Int} (h : ¬ n < 1) (hL : bs.length = L) (h0 : L ≠ 0) (h' : ¬ p < L) (hu : bs.getD (p % L) 0 = u) (hv : bs.getD ((p * 7 + 3) % L) 0 = v) {q : Nat} (hq : p / L = q) (hx : u * 131 + v * 1117 + (p : Int) * 29 + (q : Int) * 53 = x) :
    pickV bs p n = bits .xor .i64 x (x / 64) % n := by
  subst hL hu hv hq hx
  unfold pickV
  rw [if_neg (by omega), if_neg h']

set_option maxHeartbeats 1000000 in
theorem pick_f (g p : Nat) (n : Int) (w : World) (A : Option Addr) (L c : Nat) (bs : List Int) (t : TypeId) (hLb : bs.length = L) (hg : g < w.heap.size) (h0 : w.cell? ⟨g, 0, none⟩ = some (.slice A L c)) (h1 : w.cell? ⟨g, 1, none⟩ = some (.int .i64 (p : Nat))) (hf : w.frozen? ⟨g, 1, none⟩ = false) (hL : L ≤ 2000)
    (hr : 0 < L → ∃ b off, A = some ⟨b, off, none⟩ ∧ b ≠ g ∧ ∀ j, j < L → 0 ≤ bs.getD j 0 ∧ bs.getD j 0 ≤ 255 ∧ w.cell? ⟨b, off + j, none⟩ = some (.int .u8 (bs.getD j 0))) (hp : p ≤ 1000000) (hn : n ≤ 1000000) :
    Calls Try.prog 40 #[.pointer (some ⟨g, 0, none⟩), .int .i64 n] w (RetPickV w g p (pickV bs p n)) := by
  have HR := Lib.hid hr; clear hr
  have HB := Lib.hid hLb; clear hLb
  by_cases hn1 : n < 1
  · go_enter Try.func40, Try.ntmps40
    go_wp2
    go_ret
    exact ⟨ret_int' (pickV_no (by first | exact .inl hn1 | exact .inr HB.out)).symm, 0, rfl⟩
  · by_cases hL0 : L = 0
    · subst hL0
      go_enter Try.func40, Try.ntmps40
      go_wp2
      go_ret
      exact ⟨ret_int' (pickV_no (by first | exact .inl hn1 | exact .inr HB.out)).symm, 0, rfl⟩
    · obtain ⟨b, off, rfl, hb, hc⟩ := HR.out (by omega)
      have hl0 : ((L : Int) == 0) = false := by rw [beq_eq_false_iff_ne]; omega
      have ec : ∀ j : Nat, (w.setCell ⟨g, 1, none⟩ (.int .i64 ((p : Int) + 1))).cell? ⟨b, off + j, none⟩ = w.cell? ⟨b, off + j, none⟩ := fun j => World.cell?_setCell_other w ⟨g, 1, none⟩ ⟨b, off + j, none⟩ _ (by intro e; injection e with e1; exact hb e1.symm)
      by_cases hk : p < L
      · obtain ⟨u1, u2, u3⟩ := hc p hk
        have hv1 : pickV bs p n = bs.getD p 0 % n := pickV_in hn1 (by rw [HB.out]; exact hk)
        generalize hu : bs.getD p 0 = u at *
        generalize pickV bs p n = pv at *
        have HV := Lib.hid hv1; clear hv1 hu
        have hcp := (ec p).trans u3
        clear ec hc
        go_enter Try.func40, Try.ntmps40
        go_wp2
        go_ret
        have n1 : 0 ≤ u % n := Int.emod_nonneg _ (by omega)
        have n2 : u % n < n := Int.emod_lt_of_pos _ (by omega)
        exact ⟨ret_int' HV.out.symm, 0, rfl⟩
      · obtain ⟨u1, u2, u3⟩ := hc (p % L) (Nat.mod_lt _ (by omega))
        have hv1 : ∀ (u v x : Int) (q : Nat), bs.getD (p % L) 0 = u → bs.getD ((p * 7 + 3) % L) 0 = v → p / L = q → u * 131 + v * 1117 + (p : Int) * 29 + (q : Int) * 53 = x → pickV bs p n = bits .xor .i64 x (x / 64) % n := fun u v x q e1 e2 e3 e4 => pickV_far hn1 HB.out hL0 hk e1 e2 e3 e4
        obtain ⟨v1, v2, v3⟩ := hc ((p * 7 + 3) % L) (Nat.mod_lt _ (by omega))
        generalize pickV bs p n = pv at *
        generalize hu : bs.getD (p % L) 0 = u at *
        generalize hv : bs.getD ((p * 7 + 3) % L) 0 = v at *
        have HV := Lib.hid (fun x => hv1 u v x (p / L) rfl rfl rfl); clear hv1 hu hv
        have hcp := (ec (p % L)).trans u3
        have hcq := (ec ((p * 7 + 3) % L)).trans v3
        clear ec hc
        have e1 : (p : Int).tmod (L : Int) = ((p % L : Nat) : Int) := by rw [Int.tmod_eq_emod_of_nonneg (by omega)]; omega
        have e2 : ((p : Int) * 7 + 3).tmod (L : Int) = (((p * 7 + 3) % L : Nat) : Int) := by rw [Int.tmod_eq_emod_of_nonneg (by omega), Int.natCast_emod]; simp
        have e3 : (p : Int).tdiv (L : Int) = ((p / L : Nat) : Int) := by rw [Int.tdiv_eq_ediv_of_nonneg (by omega)]; omega
        have l1 : p % L < L := Nat.mod_lt _ (by omega)
        have l2 : (p * 7 + 3) % L < L := Nat.mod_lt _ (by omega)
        have l3 : p / L ≤ p := Nat.div_le_self _ _
        have E1 := Lib.hid e1; clear e1
        have E2 := Lib.hid e2; clear e2
        have E3 := Lib.hid e3; clear e3
        go_enter Try.func40, Try.ntmps40
        go_wp2
        generalize ha : p % L = a at *
        generalize hb' : (p * 7 + 3) % L = a' at *
        generalize hq : p / L = q at *
        have HA := Lib.hid ha; clear ha
        have HB' := Lib.hid hb'; clear hb'
        have HQ := Lib.hid hq; clear hq
        have e1 := E1.out
        have e2 := E2.out
        have e3 := E3.out
        have g1 : (0 : Int) ≤ (a : Int) := by omega
        have g2 : (a : Int) < (L : Int) := by omega
        have g3 : (0 : Int) ≤ (a' : Int) := by omega
        have g4 : (a' : Int) < (L : Int) := by omega
        have hL0' : ¬ (L : Int) = 0 := by omega
        have i1 : IntKind.i64.wrap ((p : Int) * 7) = (p : Int) * 7 := IntWalk.i64_in _ (by omega)
        have i2 : IntKind.i64.wrap ((p : Int) * 7 + 3) = (p : Int) * 7 + 3 := IntWalk.i64_in _ (by omega)
        have i3 : IntKind.i64.wrap (a : Int) = (a : Int) := IntWalk.i64_in _ (by omega)
        have i4 : IntKind.i64.wrap (a' : Int) = (a' : Int) := IntWalk.i64_in _ (by omega)
        have i5 : IntKind.i64.wrap (q : Int) = (q : Int) := IntWalk.i64_in _ (by omega)
        have i6 : IntKind.i64.wrap u = u := IntWalk.i64_in _ (by omega)
        have i7 : IntKind.i64.wrap v = v := IntWalk.i64_in _ (by omega)
        have i8 : IntKind.i64.wrap (u * 131) = u * 131 := IntWalk.i64_in _ (by omega)
        have i9 : IntKind.i64.wrap (v * 1117) = v * 1117 := IntWalk.i64_in _ (by omega)
        have j1 : IntKind.i64.wrap (u * 131 + v * 1117) = u * 131 + v * 1117 := IntWalk.i64_in _ (by omega)
        have j2 : IntKind.i64.wrap ((p : Int) * 29) = (p : Int) * 29 := IntWalk.i64_in _ (by omega)
        have j3 : IntKind.i64.wrap (u * 131 + v * 1117 + (p : Int) * 29) = u * 131 + v * 1117 + (p : Int) * 29 := IntWalk.i64_in _ (by omega)
        have j4 : IntKind.i64.wrap ((q : Int) * 53) = (q : Int) * 53 := IntWalk.i64_in _ (by omega)
        have j5 : IntKind.i64.wrap (u * 131 + v * 1117 + (p : Int) * 29 + (q : Int) * 53) = u * 131 + v * 1117 + (p : Int) * 29 + (q : Int) * 53 := IntWalk.i64_in _ (by omega)
        go_quiet (fail)
        clear e1 e2 e3 i1 i2 i3 i4 i5 i6 i7 i8 i9 j1 j2 j3 j4 j5
        have x1 : 0 ≤ u * 131 + v * 1117 + (p : Int) * 29 + (q : Int) * 53 := by omega
        have x2 : u * 131 + v * 1117 + (p : Int) * 29 + (q : Int) * 53 ≤ 4611686018427387904 := by omega
        have HW := HV.out _ rfl
        generalize u * 131 + v * 1117 + (p : Int) * 29 + (q : Int) * 53 = x at *
        have HX := Lib.hid HW; clear HW
        have hz := xor_nn x x1 x2
        go_wp2
        go_ret
        exact ⟨ret_int' HX.out.symm, nq, rfl⟩


theorem rdr_facts {w : World} {r : Loc} {bs : List Int} {p g : Nat} {A : Option Addr} (h : ORel w r (.rdr g A bs p)) : ∃ t c, r.a = some ⟨g, 0, none⟩ ∧ w.heap[g]? = some (.cells #[.slice A bs.length c, .int .i64 (p : Nat)] t (0, 0)) ∧ bs.length ≤ 2000 ∧ (∀ z ∈ bs, 0 ≤ z ∧ z ≤ 255) ∧
      (0 < bs.length → ∃ b off, A = some ⟨b, off, none⟩ ∧ r.b = some b ∧ b ≠ g ∧ ∀ j, j < bs.length → w.cell? ⟨b, off + j, none⟩ = some (.int .u8 (bs.getD j 0))) := by
  obtain ⟨t, c, e, h1, h2, h3, h4⟩ := h
  refine ⟨t, c, e, h1, h2, h3, fun h0 => ?_⟩
  obtain ⟨b, off, e1, e2, hc⟩ := h4 h0
  refine ⟨b, off, e1, e2, ?_, hc⟩
  rintro rfl
  have := hc 0 h0
  simp only [World.cell?, h1, Nat.add_zero] at this
  rcases off with _ | _ | off <;> simp at this
theorem DPick.ofC {P : Program} {f : FuncId} {fn : Func} {c : Code} (hf : P.funcs[f]? = some fn) (hb : fn.body = some c) (hname : (fn.name == "runtime.NumGoroutine") = false)
    (h : ∀ (w : World) (r : Loc) (g : Nat) (A : Option Addr) (bs : List Int) (p : Nat) (n : Int), g < w.heap.size → ORel w r (.rdr g A bs p) → p ≤ 1000000 → n ≤ 1000000 →
      Calls P f #[.pointer (some ⟨g, 0, none⟩), .int .i64 n] w (fun e w' => e = .returned (.int .i64 (pickV bs p n)) ∧ ORel w' r (.rdr g A bs (p + 1)) ∧ w.grownBy w' (some g))) : DPick P f where
  ent args w := by
    have hn : ¬ fn.name = "runtime.NumGoroutine" := by simpa using hname
    simp [callFunc, hf, hb, hn]
  calls := h
theorem pick_d : DPick Try.prog 40 := by
  refine DPick.ofC Try.func40 rfl (by kernel_rfl) ?_
  intro w r g A bs p n hlt h hp hn
  obtain ⟨t, c, hg, h1, h2, h3, h4⟩ := rdr_facts h
  have hmem : ∀ j, j < bs.length → bs.getD j 0 ∈ bs := fun j hj => by simp [List.getD_eq_getElem?_getD, List.getElem?_eq_getElem hj]
  refine (pick_f g p n w A bs.length c bs t rfl hlt (by simp [World.cell?, h1]) (by simp [World.cell?, h1]) (by simp [World.frozen?, h1]) h2 (fun h0 => ?_) hp hn).mono ?_
  · obtain ⟨b, off, e1, e2, e3, hc⟩ := h4 h0
    exact ⟨b, off, e1, e3, fun j hj => ⟨(h3 _ (hmem j hj)).1, (h3 _ (hmem j hj)).2, hc j hj⟩⟩
  · rintro e w' ⟨rfl, k, rfl⟩
    refine ⟨rfl, ?_, ?_⟩
    · refine ⟨t, c, hg, ?_, h2, h3, fun h0 => ?_⟩
      · show ((w.setCell ⟨g, 1, none⟩ (.int .i64 ((p + 1 : Nat) : Int))).drewN k).heap[g]? = _
        have : ((w.setCell ⟨g, 1, none⟩ (.int .i64 ((p + 1 : Nat) : Int))).drewN k).heap = (w.setCell ⟨g, 1, none⟩ (.int .i64 ((p + 1 : Nat) : Int))).heap := rfl
        rw [this]
        simp [World.setCell, Array.getElem?_modify, h1]
      · obtain ⟨b, off, e1, e2, e3, hc⟩ := h4 h0
        refine ⟨b, off, e1, e2, fun j hj => ?_⟩
        rw [← hc j hj]
        exact cell_of_block (setc_block _ _ _ _ e3)
    · exact ⟨rfl, rfl, rfl, by simp [World.setCell], fun i hi hne => setc_block _ _ _ _ (fun e => hne (by rw [e]))⟩

section
variable {P : Program} {C : Ctx} {N : Nat} {QD : Exit → DT → DH → Prop} {T : DT} {H : DH} {τ : List (Nat × TK)} {E : Env} {pk : FuncId} {ops : Array Oper} {o : Oper} {l : List Oper} {K : DT → DH → Prop} {d : Nat} {acc : List TE}
theorem DL.pickE (hτ : TyOK P τ) (hpk : DPick P pk) {x y : Operand} {ts : Array TypeId} {id p gr : Nat} {A : Option Addr} {bs : List Int} {n : Int} (ho : o.op = .call { callee := .value (.func pk), args := #[x, y], argTypes := ts }) (hd : o.dst = some d) (hw : wants ops (lk T) o = some true) (hN : Nat.blt d N = true) (hx : ev T x = some (.ptr id 0)) (hy : ev T y = some (.val (.int .i64 n))) (hg : lk H id = some (.rdr gr A bs p)) (hp : p ≤ 1000000) (hn : n ≤ 1000000)
    (h : ∀ z : Int, pickV bs p n = z → 0 ≤ z → (1 ≤ n → z < n) → DL P C N ops QD l ((d, .val (.int .i64 z)) :: T) ((id, .rdr gr A bs (p + 1)) :: H)) : DL P C N ops QD (o :: l) T H :=
  .pick hτ hpk ho hd hw hN hx hy hg hp hn (h _ rfl (pickV_nn _ _ _) (fun h => pickV_lt _ _ h))
theorem DM.pickE {x y : Operand} {ts : Array TypeId} {id p gr : Nat} {A : Option Addr} {bs : List Int} {n : Int} (ho : o.op = .call { callee := .value (.func pk), args := #[x, y], argTypes := ts }) (hd : o.dst = some d) (hw : wants ops (lk T) o = some true) (hN : Nat.blt d N = true) (hx : ev T x = some (.ptr id 0)) (hy : ev T y = some (.val (.int .i64 n))) (hg : lk H id = some (.rdr gr A bs p)) (hp : p ≤ 1000000) (hn : n ≤ 1000000)
    (h : ∀ z : Int, pickV bs p n = z → 0 ≤ z → (1 ≤ n → z < n) → DM τ E pk ops N l ((d, .val (.int .i64 z)) :: T) ((id, .rdr gr A bs (p + 1)) :: H) (acc ++ [(touchL (ev T) o.op, some id)]) K) : DM τ E pk ops N (o :: l) T H acc K :=
  .pick ho hd hw hN hx hy hg hp hn (h _ rfl (pickV_nn _ _ _) (fun h => pickV_lt _ _ h))
end
/-- a reader is opened -/
theorem DOpen.ofC {P : Program} {f : FuncId} {fn : Func} {c : Code} (hf : P.funcs[f]? = some fn) (hb : fn.body = some c) (hname : (fn.name == "runtime.NumGoroutine") = false)
    (h : ∀ (w : World) (A : Option Addr) (n c : Nat), (0 < n → ∃ b off, A = some ⟨b, off, none⟩) → n ≤ c → c ≤ 9223372036854775807 →
      Calls P f #[.slice A n c] w (fun e w' => ∃ t c', e = .returned (.pointer (some ⟨w.heap.size, 0, none⟩)) ∧ w' = w.alloc (.cells #[.slice A (min n 2000) c', .int .i64 0] t))) : DOpen P f where
  ent args w := by
    have hn : ¬ fn.name = "runtime.NumGoroutine" := by simpa using hname
    simp [callFunc, hf, hb, hn]
  calls := h
def RetOpenV (w : World) (A : Option Addr) (n : Nat) (e : Ending) (w' : World) : Prop := ∃ t c', e = .returned (.pointer (some ⟨w.heap.size, 0, none⟩)) ∧ w' = w.alloc (.cells #[.slice A n c', .int .i64 0] t)
set_option maxHeartbeats 400000 in
theorem l6Open_f (A : Option Addr) (n c : Nat) (w : World) (h : 0 < n → ∃ b off, A = some ⟨b, off, none⟩) (hn : n ≤ c) (hc : c ≤ 9223372036854775807) :
    Calls Try.prog 33 #[.slice A n c] w (RetOpenV w A (min n 2000)) := by
  by_cases h0 : n ≤ 2000
  · rw [show min n 2000 = n from by omega]
    clear h
    go_enter Try.func33, Try.ntmps33
    go_wp2
    go_ret
    exact ⟨_, _, rfl, rfl⟩
  · rw [show min n 2000 = 2000 from by omega]
    obtain ⟨b, off, rfl⟩ := h (by omega)
    go_enter Try.func33, Try.ntmps33
    go_wp2
    go_ret
    exact ⟨_, _, rfl, rfl⟩
theorem l6Open_d : DOpen Try.prog 33 := DOpen.ofC Try.func33 rfl (by kernel_rfl) (fun w A n c h hn hc => l6Open_f A n c w h hn hc)
end Go.Proofs.Ytionljjdfgeggaa
