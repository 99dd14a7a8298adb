/-
  The statements' own functions on rows of pairs (knots, pieces, fractions).
-/
import Derived.Test.YtionljjdfgeggaaDenB
import Derived.Test.YtionljjdfgeggaaMark
namespace Go.Proofs.Ytionljjdfgeggaa
open Go.RowKit
set_option linter.unusedVariables false
set_option linter.unusedSimpArgs false

theorem flat_ex {n : Nat} {l : List Int} (h : l.length = n * 2) : ∃ c, l = flat c ∧ n = c.length := ⟨unflat l, (flat_unflat n l h).symm, (unflat_len n l h).symm⟩
theorem flat_rep : ∀ n : Nat, flat (List.replicate n (0, 0)) = List.replicate (n * 2) 0
  | 0 => rfl
  | n + 1 => by rw [List.replicate_succ, flat, flat_rep n, show (n + 1) * 2 = n * 2 + 1 + 1 from by omega, List.replicate_succ, List.replicate_succ]
theorem flat_inj {c d : List (Int × Int)} (h : flat c = flat d) : c = d := by rw [← unflat_flat c, h, unflat_flat]
theorem eq_of_getD2 {l m : List (Int × Int)} (hl : l.length = m.length) (h : ∀ j, j < l.length → l.getD j (0, 0) = m.getD j (0, 0)) : l = m := by
  apply List.ext_getElem hl
  intro i h1 h2
  have := h i h1
  simpa [List.getD_eq_getElem?_getD, List.getElem?_eq_getElem h1, List.getElem?_eq_getElem h2] using this
theorem copy_set2 (l : List (Int × Int)) (k : Nat) (h : k < l.length) : (l.take k ++ List.replicate (l.length - k) (0, 0)).set k ((l.getD k (0, 0)).1, (l.getD k (0, 0)).2) = l.take (k + 1) ++ List.replicate (l.length - (k + 1)) (0, 0) := by
  show (l.take k ++ List.replicate (l.length - k) (0, 0)).set k (l.getD k (0, 0)) = _
  rw [List.set_append, if_neg (by simp; omega)]
  have e : l.length - k = (l.length - (k + 1)) + 1 := by omega
  have e2 : k - (l.take k).length = 0 := by simp; omega
  rw [e2, e, List.replicate_succ, List.set_cons_zero, List.take_succ_eq_append_getElem h, List.append_assoc, List.singleton_append]
  congr 2
  simp [List.getD_eq_getElem?_getD, List.getElem?_eq_getElem h]
def gToP (t : TypeId) : List AD → Option RD
  | [.sl .i64 2 n l] => if n ≤ 1048576 then some (.one (.row t 2 n l)) else none
  | _ => none
theorem gToP_eq {t : TypeId} {n : Nat} {l : List Int} (h : n ≤ 1048576) : gToP t [.sl .i64 2 n l] = some (.one (.row t 2 n l)) := if_pos h
def gTo1 : List AD → Option RD
  | [.v (.agg ⟨[.int .i64 a, .int .i64 b]⟩)] => some (.one (.v (.agg #[.int .i64 a, .int .i64 b])))
  | _ => none
def gSz : List AD → Option RD
  | [.sl .i64 2 n _, .v (.int .i64 z)] => if 0 ≤ z ∧ z ≤ 1000000000 then some (.one (.v (.int .i64 (if z - n < 0 then -1 else z - n)))) else none
  | _ => none
theorem gSz_eq {n : Nat} {l : List Int} {z : Int} (h : 0 ≤ z) (h' : z ≤ 1000000000) : gSz [.sl .i64 2 n l, .v (.int .i64 z)] = some (.one (.v (.int .i64 (if z - n < 0 then -1 else z - n)))) := if_pos ⟨h, h'⟩
def gEqP : List AD → Option RD
  | [.sl .i64 2 _ l, .sl .i64 2 _ m] => some (.one (.v (.bool (decide (l = m)))))
  | _ => none
theorem gEqP_refl {n m : Nat} {l : List Int} : gEqP [.sl .i64 2 n l, .sl .i64 2 m l] = some (.one (.v (.bool true))) := by simp [gEqP]
theorem gEqP_of {n m : Nat} {l l' : List Int} (h : l = l') : gEqP [.sl .i64 2 n l, .sl .i64 2 m l'] = some (.one (.v (.bool true))) := by subst h; exact gEqP_refl
theorem gEqP_flat {n m : Nat} {c d : List (Int × Int)} (h : c = d) : gEqP [.sl .i64 2 n (flat c), .sl .i64 2 m (flat d)] = some (.one (.v (.bool true))) := by subst h; exact gEqP_refl
def gHeldP : List AD → Option RD
  | [.sl .i64 2 _ l, .v (.int .i64 k)] => if 0 ≤ k ∧ k + l.length ≤ 1000000000 ∧ l = seqF k l.length then some (.one (.v (.int .i64 (k + l.length)))) else none
  | _ => none
theorem gHeldP_eq (k : Int) (n m : Nat) (h : 0 ≤ k) (h' : k + n ≤ 1000000000) : gHeldP [.sl .i64 2 m (seqF k n), .v (.int .i64 k)] = some (.one (.v (.int .i64 (k + n)))) := by
  show (if 0 ≤ k ∧ k + ((seqF k n).length : Int) ≤ 1000000000 ∧ seqF k n = seqF k (seqF k n).length then some (RD.one (.v (.int .i64 (k + ((seqF k n).length : Int))))) else none) = _
  rw [seqF_len, if_pos ⟨h, h', rfl⟩]
theorem seqF_set2 (k : Int) (xs : List Int) {i : Nat} (h : i + 1 < xs.length) : ((seqF k i ++ xs.drop i).set i (k + i)).set (i + 1) (k + i + 1) = seqF k (i + 2) ++ xs.drop (i + 2) := by
  rw [seqF_set k xs (by omega), show k + (i : Int) + 1 = k + ((i + 1 : Nat) : Int) from by omega, seqF_set k xs h]
section
variable {P : Program} {C : Ctx} {N : Nat} {QD : Exit → DT → DH → Prop} {T : DT} {H : DH} {ops : Array Oper} {l : List Oper} {o : Oper} {d : Nat}
theorem DL.sp2 {τ : List (Nat × TK)} (hτ : TyOK P τ) {t e : TypeId} {x y : Operand} {id i cap : Nat} {A : Option Addr} {xs : List Int} {z : Int} (ho : o.op = .store t x y) (hgd : o.guard = none) (hd : o.dst = none) (ht : lk τ t = some .int)
    (hx : ev T x = some (.ptr id i)) (hy : ev T y = some (.val (.int .i64 z))) (hg : lk H id = some (.prow A cap e 2 xs)) (hi : i < xs.length)
    (h : DL P C N ops QD l T ((id, .prow A cap e 2 (xs.set i z)) :: H)) : DL P C N ops QD (o :: l) T H := .store1 hτ ho hgd hd ht hx hy hg rfl hi h
end
theorem toPiece_dl : DFun Try.prog 44 gTo1 := by
  have hE : EnvOK Try.prog [] := EnvOK.nil
  refine DFun.of tauOK (fn := Try.f44) Try.func44 rfl (by kernel_rfl) rfl rfl ?_
  intro C ds r hg hl
  unfold gTo1 at hg
  split at hg
  case h_2 => cases hg
  rename_i a b
  cases hg
  refine ⟨by simp, ?_⟩
  refine DW.seq ?_
  refine DW.region ?_
  refine DL.go1 tauOK hE rfl (GStep.box2 rfl) rfl rfl rfl ?_
  refine DL.go1 tauOK hE rfl (GStep.alloc2 rfl) rfl rfl rfl ?_
  refine DL.nil ?_
  refine DW.sub (T' := [(1, _), (2, _)]) (Sub.cons rfl (Sub.cons rfl Sub.nil)) (Sub.refl _) ?_
  refine DW.seq ?_
  refine DW.region ?_
  refine DL.go1 tauOK hE rfl (GStep.alloc2 rfl) rfl rfl rfl ?_
  refine DL.nil ?_
  refine DW.sub (T' := [(1, _), (2, _), (3, _)]) (Sub.cons rfl (Sub.cons rfl (Sub.cons rfl Sub.nil))) (Sub.refl _) ?_
  refine DW.seq ?_
  refine DW.region ?_
  refine DL.go0 tauOK hE rfl (G.fa rfl rfl rfl (by decide)) rfl rfl ?_
  refine DL.go0 tauOK hE rfl (G.lbf0 rfl rfl rfl) rfl rfl ?_
  refine DL.go0 tauOK hE rfl (G.fa rfl rfl rfl (by decide)) rfl rfl ?_
  refine DL.sbf0 tauOK rfl rfl rfl rfl rfl rfl rfl ?_
  refine DL.nil ?_
  refine DW.sub (T' := [(1, _), (2, _), (3, _)]) (Sub.cons rfl (Sub.cons rfl (Sub.cons rfl Sub.nil))) (Sub.refl _) ?_
  refine DW.seq ?_
  refine DW.region ?_
  refine DL.go0 tauOK hE rfl (G.fa rfl rfl rfl (by decide)) rfl rfl ?_
  refine DL.go0 tauOK hE rfl (G.lbf1 rfl rfl rfl) rfl rfl ?_
  refine DL.go0 tauOK hE rfl (G.fa rfl rfl rfl (by decide)) rfl rfl ?_
  refine DL.sbf1 tauOK rfl rfl rfl rfl rfl rfl rfl ?_
  refine DL.nil ?_
  refine DW.sub (T' := [(2, _), (3, _)]) (Sub.cons rfl (Sub.cons rfl Sub.nil)) (Sub.refl _) ?_
  refine DW.seq ?_
  refine DW.region ?_
  refine DL.go0 tauOK hE rfl (G.lb2 rfl rfl rfl) rfl rfl ?_
  refine DL.sb2 tauOK rfl rfl rfl rfl rfl rfl rfl ?_
  refine DL.nil ?_
  refine DW.sub (T' := [(2, _)]) (Sub.cons rfl Sub.nil) (Sub.refl _) ?_
  refine DW.ret ?_
  exact ⟨_, rfl, RV.cell rfl rfl rfl⟩
def gToPiece : List AD → Option RD := gToP 38
theorem toPieceS_dl : DFun Try.prog 27 gToPiece := by
  have hE : EnvOK Try.prog [(44, gTo1)] := EnvOK.cons toPiece_dl EnvOK.nil
  refine DFun.of tauOK (fn := Try.f27) Try.func27 rfl (by kernel_rfl) rfl rfl ?_
  intro C ds r hg hl
  unfold gToPiece gToP at hg
  split at hg
  case h_2 => cases hg
  rename_i n l
  split at hg
  case isFalse => cases hg
  rename_i hsm
  cases hg
  refine ⟨by simp, ?_⟩
  obtain ⟨hn, hm, _⟩ := hl
  obtain ⟨c, rfl, rfl⟩ := flat_ex hn
  clear hn
  refine DW.seq ?_
  refine DW.region ?_
  refine DL.go0 tauOK hE rfl (GStep.assign rfl) rfl rfl ?_
  refine DL.nil ?_
  refine DW.sub (T' := [(0, _)]) (Sub.cons rfl Sub.nil) (Sub.refl _) ?_
  refine DW.seq ?_
  refine DW.region ?_
  refine DL.go0 tauOK hE rfl (GStep.move rfl) rfl rfl ?_
  first | refine DL.go0 tauOK hE rfl (GStep.len rfl rfl rfl) rfl rfl ?_ | refine DL.go0 tauOK hE rfl (GStep.lenNil rfl rfl) rfl rfl ?_
  refine DL.go1 tauOK hE rfl (GStep.mk2 rfl rfl rfl rfl (by omega)) rfl rfl rfl ?_
  refine DL.go0 tauOK hE rfl (GStep.assign rfl) rfl rfl ?_
  refine DL.nil ?_
  refine DW.sub (T' := [(0, _), (3, _)]) (Sub.cons rfl (Sub.cons rfl Sub.nil)) (Sub.refl _) ?_
  refine DW.seq ?_
  refine DW.seq ?_
  refine DW.region ?_
  refine DL.go0 tauOK hE rfl (GStep.assign rfl) rfl rfl ?_
  refine DL.nil ?_
  refine DW.sub (T' := [(0, _), (3, _), (4, _)]) (Sub.cons rfl (Sub.cons rfl (Sub.cons rfl Sub.nil))) (Sub.refl _) ?_
  rw [show List.replicate (c.length * 2) (0 : Int) = flat (c.take 0 ++ List.replicate (c.length - 0) (0, 0)) from by rw [← flat_rep]; simp]
  refine DW.block ?_
  refine DW.loop (α := Nat) (fun k => [(0, .sl 0 0 c.length), (3, .sl 7 0 c.length), (4, .val (.int .i64 (k : Nat)))]) (fun k => [(0, .ro .i64 2 (flat c)), (7, .row 38 2 (flat (c.take k ++ List.replicate (c.length - k) (0, 0))))]) (fun k => k ≤ c.length) (fun k => c.length - k) 0 (by omega) (Sub.cons rfl (Sub.cons rfl (Sub.cons rfl Sub.nil))) (Sub.cons rfl (Sub.cons rfl Sub.nil)) ?_
  rintro k hk
  skip
  refine DW.seq ?_
  refine DW.seq ?_
  refine DW.region ?_
  refine DL.go0 tauOK hE rfl (GStep.move rfl) rfl rfl ?_
  refine DL.go0 tauOK hE rfl (GStep.move rfl) rfl rfl ?_
  first | refine DL.go0 tauOK hE rfl (GStep.len rfl rfl rfl) rfl rfl ?_ | refine DL.go0 tauOK hE rfl (GStep.lenNil rfl rfl) rfl rfl ?_
  refine DL.go0 tauOK hE rfl (GStep.binI rfl rfl rfl) rfl rfl ?_
  refine DL.nil ?_
  refine DW.sub (T' := [(0, _), (3, _), (4, _), (11, _)]) (Sub.cons rfl (Sub.cons rfl (Sub.cons rfl (Sub.cons rfl Sub.nil)))) (Sub.refl _) ?_
  refine DW.cond rfl (fun hlt => ?_) (fun hlt => ?_)
  · skip
    have hlt : k < c.length := by simpa using hlt
    have hset := copy_set2 c k hlt
    refine DW.skip ?_
    refine DW.seq ?_
    refine DW.block ?_
    refine DW.region ?_
    refine DL.go0 tauOK hE rfl (GStep.move rfl) rfl rfl ?_
    refine DL.go0 tauOK hE rfl (GStep.move rfl) rfl rfl ?_
    refine DL.go0 tauOK hE rfl (GStep.move rfl) rfl rfl ?_
    refine DL.go0 tauOK hE rfl (GStep.move rfl) rfl rfl ?_
    refine DL.go0 tauOK hE rfl (G.ia2 rfl rfl rfl rfl rfl rfl rfl (by omega)) rfl rfl ?_
    first | refine DL.go0 tauOK hE rfl (G.le2r rfl rfl rfl (by omega)) rfl rfl ?_ | refine DL.go0 tauOK hE rfl (G.le2w rfl rfl rfl (by omega)) rfl rfl ?_
    refine DL.go0 tauOK hE rfl (G.call (v := .val _) (news := []) rfl (All2.cons (ArgOf.v rfl) All2.nil) (rfl) rfl rfl) rfl rfl ?_
    refine DL.go0 tauOK hE rfl (G.ia2 rfl rfl rfl rfl rfl rfl rfl (by omega)) rfl rfl ?_
    refine DL.se2 tauOK rfl rfl rfl rfl rfl rfl rfl (by simp; omega) ?_
    refine DL.nil ?_
    refine DW.sub (T' := [(0, _), (3, _), (4, _)]) (Sub.cons rfl (Sub.cons rfl (Sub.cons rfl Sub.nil))) (Sub.refl _) ?_
    rw [hset]
    refine DW.region ?_
    refine DL.go0 tauOK hE rfl (GStep.move rfl) rfl rfl ?_
    first | refine DL.go0 tauOK hE rfl (G.add rfl rfl (by omega)) rfl rfl ?_ | refine DL.go0 tauOK hE rfl (GStep.binI rfl rfl rfl) rfl rfl ?_
    refine DL.go0 tauOK hE rfl (GStep.assign rfl) rfl rfl ?_
    refine DL.nil ?_
    refine ⟨k + 1, hlt, by first | omega | (dsimp only; omega), ?_, ?_⟩
    · exact Sub.cons rfl (Sub.cons rfl (Sub.cons rfl Sub.nil))
    · exact Sub.cons rfl (Sub.cons rfl Sub.nil)
  · skip
    have hlt : k = c.length := by simp at hlt; omega
    subst hlt
    refine DW.exit ?_
    have e : c.take c.length ++ List.replicate (c.length - c.length) (0, 0) = c := by simp
    rw [e]
    refine DW.seq ?_
    refine DW.region ?_
    refine DL.go0 tauOK hE rfl (GStep.move rfl) rfl rfl ?_
    refine DL.go0 tauOK hE rfl (GStep.assign rfl) rfl rfl ?_
    refine DL.nil ?_
    refine DW.sub (T' := [(2, _)]) (Sub.cons rfl Sub.nil) (Sub.refl _) ?_
    refine DW.ret ?_
    exact RetD.s1 rfl rfl (by simp [flat_len]) (by omega)
theorem szPieceS_dl : DFun Try.prog 25 gSz := by
  have hE : EnvOK Try.prog [] := EnvOK.nil
  refine DFun.of tauOK (fn := Try.f25) Try.func25 rfl (by kernel_rfl) rfl rfl ?_
  intro C ds r hg hl
  unfold gSz at hg
  split at hg
  case h_2 => cases hg
  rename_i n l z
  split at hg
  case isFalse => cases hg
  rename_i hsm
  obtain ⟨z0, z1⟩ := hsm
  cases hg
  refine ⟨by simp, ?_⟩
  obtain ⟨hn, hm, _⟩ := hl
  obtain ⟨c, rfl, rfl⟩ := flat_ex hn
  refine DW.seq ?_
  refine DW.region ?_
  refine DL.go0 tauOK hE rfl (GStep.assign rfl) rfl rfl ?_
  refine DL.nil ?_
  refine DW.sub (T' := [(0, _), (1, _)]) (Sub.cons rfl (Sub.cons rfl Sub.nil)) (Sub.refl _) ?_
  refine DW.seq ?_
  refine DW.region ?_
  refine DL.go0 tauOK hE rfl (GStep.move rfl) rfl rfl ?_
  refine DL.go0 tauOK hE rfl (GStep.move rfl) rfl rfl ?_
  first | refine DL.go0 tauOK hE rfl (GStep.len rfl rfl rfl) rfl rfl ?_ | refine DL.go0 tauOK hE rfl (GStep.lenNil rfl rfl) rfl rfl ?_
  first | refine DL.go0 tauOK hE rfl (G.sub rfl rfl (by omega)) rfl rfl ?_ | refine DL.go0 tauOK hE rfl (GStep.binI rfl rfl rfl) rfl rfl ?_
  refine DL.go0 tauOK hE rfl (GStep.assign rfl) rfl rfl ?_
  refine DL.nil ?_
  refine DW.sub (T' := [(1, _)]) (Sub.cons rfl Sub.nil) (Sub.refl _) ?_
  refine DW.seq ?_
  refine DW.seq ?_
  refine DW.region ?_
  refine DL.go0 tauOK hE rfl (GStep.move rfl) rfl rfl ?_
  refine DL.go0 tauOK hE rfl (GStep.binI rfl rfl rfl) rfl rfl ?_
  refine DL.nil ?_
  refine DW.sub (T' := [(1, _), (10, _)]) (Sub.cons rfl (Sub.cons rfl Sub.nil)) (Sub.refl _) ?_
  refine DW.cond rfl (fun h1 => ?_) (fun h1 => ?_)
  · skip
    have h1 : z - (c.length : Int) < 0 := by simpa using h1
    rw [if_pos h1]
    refine DW.seq ?_
    refine DW.region ?_
    refine DL.go0 tauOK hE rfl (GStep.assign rfl) rfl rfl ?_
    refine DL.nil ?_
    refine DW.sub (T' := [(4, _)]) (Sub.cons rfl Sub.nil) (Sub.refl _) ?_
    refine DW.ret ?_
    exact RetD.v1 rfl rfl
  · skip
    have h1 : ¬ z - (c.length : Int) < 0 := by simpa using h1
    rw [if_neg h1]
    refine DW.skip ?_
    refine DW.seq ?_
    refine DW.region ?_
    refine DL.go0 tauOK hE rfl (GStep.move rfl) rfl rfl ?_
    refine DL.go0 tauOK hE rfl (GStep.assign rfl) rfl rfl ?_
    refine DL.nil ?_
    refine DW.sub (T' := [(4, _)]) (Sub.cons rfl Sub.nil) (Sub.refl _) ?_
    refine DW.ret ?_
    exact RetD.v1 rfl rfl
theorem markPieceS_dm : DMut Try.prog 30 2 gMark := by
  have hE : EnvOK Try.prog [] := EnvOK.nil
  refine DMut.of tauOK (fn := Try.f30) Try.func30 rfl (by kernel_rfl) rfl rfl ?_
  intro C A cap n e xs vs y xs' hg hl hsz hn
  unfold gMark at hg
  split at hg
  case h_2 => cases hg
  rename_i k
  split at hg
  case isFalse => cases hg
  rename_i hb
  obtain ⟨hb1, hb2⟩ := hb
  cases hg
  refine ⟨by simp, seqF_len _ _, ?_⟩
  refine DW.seq ?_
  refine DW.region ?_
  refine DL.go0 tauOK hE rfl (GStep.assign rfl) rfl rfl ?_
  refine DL.nil ?_
  refine DW.sub (T' := [(0, _), (1, _)]) (Sub.cons rfl (Sub.cons rfl Sub.nil)) (Sub.refl _) ?_
  refine DW.seq ?_
  refine DW.seq ?_
  refine DW.region ?_
  refine DL.go0 tauOK hE rfl (GStep.assign rfl) rfl rfl ?_
  refine DL.nil ?_
  refine DW.sub (T' := [(0, _), (1, _), (5, _)]) (Sub.cons rfl (Sub.cons rfl (Sub.cons rfl Sub.nil))) (Sub.refl _) ?_
  have e0 : xs = seqF k 0 ++ xs.drop 0 := by simp [seqF]
  refine DW.block ?_
  refine DW.loop (α := Nat × Int) (fun (i, v) => [(0, .sl 0 0 n), (1, .val (.int .i64 v)), (5, .val (.int .i64 (i : Nat)))]) (fun (i, v) => [(0, .prow A cap e 2 (seqF k (i * 2) ++ xs.drop (i * 2)))]) (fun (i, v) => i ≤ n ∧ v = k + (i * 2 : Nat)) (fun (i, v) => n - i) (0, k) (⟨by omega, by simp⟩) (Sub.cons rfl (Sub.cons rfl (Sub.cons rfl Sub.nil))) (Sub.cons rfl Sub.nil) ?_
  rintro ⟨i, v⟩ ⟨hi, hv⟩
  skip
  refine DW.seq ?_
  refine DW.seq ?_
  refine DW.region ?_
  refine DL.go0 tauOK hE rfl (GStep.move rfl) rfl rfl ?_
  refine DL.go0 tauOK hE rfl (GStep.move rfl) rfl rfl ?_
  first | refine DL.go0 tauOK hE rfl (GStep.len rfl rfl rfl) rfl rfl ?_ | refine DL.go0 tauOK hE rfl (GStep.lenNil rfl rfl) rfl rfl ?_
  refine DL.go0 tauOK hE rfl (GStep.binI rfl rfl rfl) rfl rfl ?_
  refine DL.nil ?_
  refine DW.sub (T' := [(0, _), (1, _), (5, _), (9, _)]) (Sub.cons rfl (Sub.cons rfl (Sub.cons rfl (Sub.cons rfl Sub.nil)))) (Sub.refl _) ?_
  refine DW.cond rfl (fun hlt => ?_) (fun hlt => ?_)
  · skip
    have hlt : i < n := by simpa using hlt
    have hset : ((seqF k (i * 2) ++ xs.drop (i * 2)).set (i * 2 + 0) v).set (i * 2 + 1) (v + 1) = seqF k ((i + 1) * 2) ++ xs.drop ((i + 1) * 2) := by rw [hv, Nat.add_zero, seqF_set2 k xs (by omega), show (i + 1) * 2 = i * 2 + 2 from by omega]
    refine DW.skip ?_
    refine DW.seq ?_
    refine DW.block ?_
    refine DW.seq ?_
    refine DW.region ?_
    refine DL.go0 tauOK hE rfl (GStep.move rfl) rfl rfl ?_
    refine DL.go0 tauOK hE rfl (GStep.move rfl) rfl rfl ?_
    refine DL.go0 tauOK hE rfl (GStep.move rfl) rfl rfl ?_
    refine DL.go0 tauOK hE rfl (G.ia2 rfl rfl rfl rfl rfl rfl rfl (by omega)) rfl rfl ?_
    refine DL.go0 tauOK hE rfl (G.fa rfl rfl rfl (by decide)) rfl rfl ?_
    refine DL.sp2 tauOK rfl rfl rfl rfl rfl rfl rfl (by simp [seqF_len]; omega) ?_
    refine DL.nil ?_
    refine DW.sub (T' := [(0, _), (1, _), (5, _)]) (Sub.cons rfl (Sub.cons rfl (Sub.cons rfl Sub.nil))) (Sub.refl _) ?_
    refine DW.seq ?_
    refine DW.region ?_
    refine DL.go0 tauOK hE rfl (GStep.move rfl) rfl rfl ?_
    first | refine DL.go0 tauOK hE rfl (G.add rfl rfl (by omega)) rfl rfl ?_ | refine DL.go0 tauOK hE rfl (GStep.binI rfl rfl rfl) rfl rfl ?_
    refine DL.go0 tauOK hE rfl (GStep.assign rfl) rfl rfl ?_
    refine DL.nil ?_
    refine DW.sub (T' := [(0, _), (1, _), (5, _)]) (Sub.cons rfl (Sub.cons rfl (Sub.cons rfl Sub.nil))) (Sub.refl _) ?_
    refine DW.seq ?_
    refine DW.region ?_
    refine DL.go0 tauOK hE rfl (GStep.move rfl) rfl rfl ?_
    refine DL.go0 tauOK hE rfl (GStep.move rfl) rfl rfl ?_
    refine DL.go0 tauOK hE rfl (GStep.move rfl) rfl rfl ?_
    refine DL.go0 tauOK hE rfl (G.ia2 rfl rfl rfl rfl rfl rfl rfl (by omega)) rfl rfl ?_
    refine DL.go0 tauOK hE rfl (G.fa rfl rfl rfl (by decide)) rfl rfl ?_
    refine DL.sp2 tauOK rfl rfl rfl rfl rfl rfl rfl (by simp [seqF_len]; omega) ?_
    refine DL.nil ?_
    refine DW.sub (T' := [(0, _), (1, _), (5, _)]) (Sub.cons rfl (Sub.cons rfl (Sub.cons rfl Sub.nil))) (Sub.refl _) ?_
    rw [hset]
    refine DW.region ?_
    refine DL.go0 tauOK hE rfl (GStep.move rfl) rfl rfl ?_
    first | refine DL.go0 tauOK hE rfl (G.add rfl rfl (by omega)) rfl rfl ?_ | refine DL.go0 tauOK hE rfl (GStep.binI rfl rfl rfl) rfl rfl ?_
    refine DL.go0 tauOK hE rfl (GStep.assign rfl) rfl rfl ?_
    refine DL.nil ?_
    refine DW.sub (T' := [(0, _), (1, _), (5, _)]) (Sub.cons rfl (Sub.cons rfl (Sub.cons rfl Sub.nil))) (Sub.refl _) ?_
    refine DW.region ?_
    refine DL.go0 tauOK hE rfl (GStep.move rfl) rfl rfl ?_
    first | refine DL.go0 tauOK hE rfl (G.add rfl rfl (by omega)) rfl rfl ?_ | refine DL.go0 tauOK hE rfl (GStep.binI rfl rfl rfl) rfl rfl ?_
    refine DL.go0 tauOK hE rfl (GStep.assign rfl) rfl rfl ?_
    refine DL.nil ?_
    refine ⟨(i + 1, v + 1 + 1), ⟨hlt, by omega⟩, by first | omega | (dsimp only; omega), ?_, ?_⟩
    · exact Sub.cons rfl (Sub.cons rfl (Sub.cons rfl Sub.nil))
    · exact Sub.cons rfl Sub.nil
  · skip
    have hlt : i = n := by simp at hlt; omega
    subst hlt
    refine DW.exit ?_
    dsimp only
    have e1 : seqF k (i * 2) ++ xs.drop (i * 2) = seqF k xs.length := by rw [List.drop_of_length_le (by omega), List.append_nil, hl]
    have e2 : k + ((i * 2 : Nat) : Int) = k + xs.length := by rw [hl]
    rw [e1, hv, e2]
    refine DW.seq ?_
    refine DW.region ?_
    refine DL.go0 tauOK hE rfl (GStep.move rfl) rfl rfl ?_
    refine DL.go0 tauOK hE rfl (GStep.assign rfl) rfl rfl ?_
    refine DL.nil ?_
    refine DW.sub (T' := [(4, _)]) (Sub.cons rfl Sub.nil) (Sub.refl _) ?_
    refine DW.ret ?_
    exact ⟨rfl, RetD.v1 rfl rfl⟩
theorem heldPieceS_dl : DFun Try.prog 31 gHeldP := by
  have hE : EnvOK Try.prog [] := EnvOK.nil
  refine DFun.of tauOK (fn := Try.f31) Try.func31 rfl (by kernel_rfl) rfl rfl ?_
  intro C ds r hg hl
  unfold gHeldP at hg
  split at hg
  case h_2 => cases hg
  rename_i n l k
  split at hg
  case isFalse => cases hg
  rename_i hb
  obtain ⟨hb1, hb2, hb3⟩ := hb
  cases hg
  refine ⟨by simp, ?_⟩
  obtain ⟨hn, hm, _⟩ := hl
  refine DW.seq ?_
  refine DW.region ?_
  refine DL.go0 tauOK hE rfl (GStep.assign rfl) rfl rfl ?_
  refine DL.nil ?_
  refine DW.sub (T' := [(0, _), (1, _)]) (Sub.cons rfl (Sub.cons rfl Sub.nil)) (Sub.refl _) ?_
  refine DW.seq ?_
  refine DW.seq ?_
  refine DW.region ?_
  refine DL.go0 tauOK hE rfl (GStep.assign rfl) rfl rfl ?_
  refine DL.nil ?_
  refine DW.sub (T' := [(0, _), (1, _), (5, _)]) (Sub.cons rfl (Sub.cons rfl (Sub.cons rfl Sub.nil))) (Sub.refl _) ?_
  refine DW.block ?_
  refine DW.loop (α := Nat × Int) (fun (i, v) => [(0, .sl 0 0 n), (1, .val (.int .i64 v)), (5, .val (.int .i64 (i : Nat)))]) (fun (i, v) => [(0, .ro .i64 2 l)]) (fun (i, v) => i ≤ n ∧ v = k + (i * 2 : Nat)) (fun (i, v) => n - i) (0, k) (⟨by omega, by simp⟩) (Sub.cons rfl (Sub.cons rfl (Sub.cons rfl Sub.nil))) (Sub.cons rfl Sub.nil) ?_
  rintro ⟨i, v⟩ ⟨hi, hv⟩
  skip
  refine DW.seq ?_
  refine DW.seq ?_
  refine DW.region ?_
  refine DL.go0 tauOK hE rfl (GStep.move rfl) rfl rfl ?_
  refine DL.go0 tauOK hE rfl (GStep.move rfl) rfl rfl ?_
  first | refine DL.go0 tauOK hE rfl (GStep.len rfl rfl rfl) rfl rfl ?_ | refine DL.go0 tauOK hE rfl (GStep.lenNil rfl rfl) rfl rfl ?_
  refine DL.go0 tauOK hE rfl (GStep.binI rfl rfl rfl) rfl rfl ?_
  refine DL.nil ?_
  refine DW.sub (T' := [(0, _), (1, _), (5, _), (9, _)]) (Sub.cons rfl (Sub.cons rfl (Sub.cons rfl (Sub.cons rfl Sub.nil)))) (Sub.refl _) ?_
  refine DW.cond rfl (fun hlt => ?_) (fun hlt => ?_)
  · skip
    have hlt : i < n := by simpa using hlt
    have e1 : l.getD (i * 2 + 0) 0 = v := by rw [hb3, seqF_at k (by omega), hv]; omega
    have e2 : l.getD (i * 2 + 1) 0 = v + 1 := by rw [hb3, seqF_at k (by omega), hv]; omega
    refine DW.skip ?_
    refine DW.seq ?_
    refine DW.block ?_
    refine DW.seq ?_
    refine DW.seq ?_
    refine DW.region ?_
    refine DL.go0 tauOK hE rfl (GStep.move rfl) rfl rfl ?_
    refine DL.go0 tauOK hE rfl (GStep.move rfl) rfl rfl ?_
    refine DL.go0 tauOK hE rfl (G.ia2 rfl rfl rfl rfl rfl rfl rfl (by omega)) rfl rfl ?_
    refine DL.go0 tauOK hE rfl (G.fa rfl rfl rfl (by decide)) rfl rfl ?_
    refine DL.go0 tauOK hE rfl (G.le1r rfl rfl rfl (by omega)) rfl rfl ?_
    refine DL.go0 tauOK hE rfl (GStep.move rfl) rfl rfl ?_
    refine DL.go0 tauOK hE rfl (G.fl (GStep.binI rfl rfl rfl) (by rw [e1]; simp)) rfl rfl ?_
    refine DL.nil ?_
    refine DW.sub (T' := [(0, _), (1, _), (5, _), (18, _)]) (Sub.cons rfl (Sub.cons rfl (Sub.cons rfl (Sub.cons rfl Sub.nil)))) (Sub.refl _) ?_
    refine DW.condF rfl ?_
    refine DW.skip ?_
    refine DW.seq ?_
    refine DW.region ?_
    refine DL.go0 tauOK hE rfl (GStep.move rfl) rfl rfl ?_
    first | refine DL.go0 tauOK hE rfl (G.add rfl rfl (by omega)) rfl rfl ?_ | refine DL.go0 tauOK hE rfl (GStep.binI rfl rfl rfl) rfl rfl ?_
    refine DL.go0 tauOK hE rfl (GStep.assign rfl) rfl rfl ?_
    refine DL.nil ?_
    refine DW.sub (T' := [(0, _), (1, _), (5, _)]) (Sub.cons rfl (Sub.cons rfl (Sub.cons rfl Sub.nil))) (Sub.refl _) ?_
    refine DW.seq ?_
    refine DW.seq ?_
    refine DW.region ?_
    refine DL.go0 tauOK hE rfl (GStep.move rfl) rfl rfl ?_
    refine DL.go0 tauOK hE rfl (GStep.move rfl) rfl rfl ?_
    refine DL.go0 tauOK hE rfl (G.ia2 rfl rfl rfl rfl rfl rfl rfl (by omega)) rfl rfl ?_
    refine DL.go0 tauOK hE rfl (G.fa rfl rfl rfl (by decide)) rfl rfl ?_
    refine DL.go0 tauOK hE rfl (G.le1r rfl rfl rfl (by omega)) rfl rfl ?_
    refine DL.go0 tauOK hE rfl (GStep.move rfl) rfl rfl ?_
    refine DL.go0 tauOK hE rfl (G.fl (GStep.binI rfl rfl rfl) (by rw [e2]; simp)) rfl rfl ?_
    refine DL.nil ?_
    refine DW.sub (T' := [(0, _), (1, _), (5, _), (27, _)]) (Sub.cons rfl (Sub.cons rfl (Sub.cons rfl (Sub.cons rfl Sub.nil)))) (Sub.refl _) ?_
    refine DW.condF rfl ?_
    refine DW.skip ?_
    refine DW.region ?_
    refine DL.go0 tauOK hE rfl (GStep.move rfl) rfl rfl ?_
    first | refine DL.go0 tauOK hE rfl (G.add rfl rfl (by omega)) rfl rfl ?_ | refine DL.go0 tauOK hE rfl (GStep.binI rfl rfl rfl) rfl rfl ?_
    refine DL.go0 tauOK hE rfl (GStep.assign rfl) rfl rfl ?_
    refine DL.nil ?_
    refine DW.sub (T' := [(0, _), (1, _), (5, _)]) (Sub.cons rfl (Sub.cons rfl (Sub.cons rfl Sub.nil))) (Sub.refl _) ?_
    refine DW.region ?_
    refine DL.go0 tauOK hE rfl (GStep.move rfl) rfl rfl ?_
    first | refine DL.go0 tauOK hE rfl (G.add rfl rfl (by omega)) rfl rfl ?_ | refine DL.go0 tauOK hE rfl (GStep.binI rfl rfl rfl) rfl rfl ?_
    refine DL.go0 tauOK hE rfl (GStep.assign rfl) rfl rfl ?_
    refine DL.nil ?_
    refine ⟨(i + 1, v + 1 + 1), ⟨hlt, by omega⟩, by first | omega | (dsimp only; omega), ?_, ?_⟩
    · exact Sub.cons rfl (Sub.cons rfl (Sub.cons rfl Sub.nil))
    · exact Sub.cons rfl Sub.nil
  · skip
    have hlt : i = n := by simp at hlt; omega
    subst hlt
    refine DW.exit ?_
    dsimp only
    have e2 : k + ((i * 2 : Nat) : Int) = k + l.length := by rw [hn]
    rw [hv, e2]
    refine DW.seq ?_
    refine DW.region ?_
    refine DL.go0 tauOK hE rfl (GStep.move rfl) rfl rfl ?_
    refine DL.go0 tauOK hE rfl (GStep.assign rfl) rfl rfl ?_
    refine DL.nil ?_
    refine DW.sub (T' := [(4, _)]) (Sub.cons rfl Sub.nil) (Sub.refl _) ?_
    refine DW.ret ?_
    exact RetD.v1 rfl rfl
theorem eqPiece_dl : DFun Try.prog 47 gEqF := by
  have hE : EnvOK Try.prog [] := EnvOK.nil
  refine DFun.of tauOK (fn := Try.f47) Try.func47 rfl (by kernel_rfl) rfl rfl ?_
  intro C ds r hg hl
  unfold gEqF at hg
  split at hg
  case h_2 => cases hg
  rename_i a b c d
  cases hg
  refine ⟨by simp, ?_⟩
  refine DW.seq ?_
  refine DW.region ?_
  refine DL.go1 tauOK hE rfl (GStep.box2 rfl) rfl rfl rfl ?_
  refine DL.go1 tauOK hE rfl (GStep.box2 rfl) rfl rfl rfl ?_
  refine DL.go0 tauOK hE rfl (GStep.assign rfl) rfl rfl ?_
  refine DL.nil ?_
  refine DW.sub (T' := [(2, _), (3, _)]) (Sub.cons rfl (Sub.cons rfl Sub.nil)) (Sub.refl _) ?_
  refine DW.seq ?_
  refine DW.seq ?_
  refine DW.region ?_
  refine DL.go0 tauOK hE rfl (G.fa rfl rfl rfl (by decide)) rfl rfl ?_
  refine DL.go0 tauOK hE rfl (G.lbf0 rfl rfl rfl) rfl rfl ?_
  refine DL.go0 tauOK hE rfl (G.fa rfl rfl rfl (by decide)) rfl rfl ?_
  refine DL.go0 tauOK hE rfl (G.lbf0 rfl rfl rfl) rfl rfl ?_
  refine DL.go0 tauOK hE rfl (GStep.binI rfl rfl rfl) rfl rfl ?_
  refine DL.nil ?_
  refine DW.sub (T' := [(2, _), (3, _), (9, _)]) (Sub.cons rfl (Sub.cons rfl (Sub.cons rfl Sub.nil))) (Sub.refl _) ?_
  refine DW.cond rfl (fun h1 => ?_) (fun h1 => ?_)
  · skip
    have e : (a == c && b == d) = false := by simp at h1; simp [h1]
    rw [e]
    refine DW.seq ?_
    refine DW.region ?_
    refine DL.go0 tauOK hE rfl (GStep.assign rfl) rfl rfl ?_
    refine DL.nil ?_
    refine DW.sub (T' := [(4, _)]) (Sub.cons rfl Sub.nil) (Sub.refl _) ?_
    refine DW.ret ?_
    exact RetD.v1 rfl rfl
  · skip
    have h1 : a = c := by simpa using h1
    refine DW.skip ?_
    refine DW.seq ?_
    refine DW.seq ?_
    refine DW.region ?_
    refine DL.go0 tauOK hE rfl (G.fa rfl rfl rfl (by decide)) rfl rfl ?_
    refine DL.go0 tauOK hE rfl (G.lbf1 rfl rfl rfl) rfl rfl ?_
    refine DL.go0 tauOK hE rfl (G.fa rfl rfl rfl (by decide)) rfl rfl ?_
    refine DL.go0 tauOK hE rfl (G.lbf1 rfl rfl rfl) rfl rfl ?_
    refine DL.go0 tauOK hE rfl (GStep.binI rfl rfl rfl) rfl rfl ?_
    refine DL.nil ?_
    refine DW.sub (T' := [(14, _)]) (Sub.cons rfl Sub.nil) (Sub.refl _) ?_
    refine DW.cond rfl (fun h2 => ?_) (fun h2 => ?_)
    · skip
      have e : (a == c && b == d) = false := by simp at h2; simp [h2]
      rw [e]
      refine DW.seq ?_
      refine DW.region ?_
      refine DL.go0 tauOK hE rfl (GStep.assign rfl) rfl rfl ?_
      refine DL.nil ?_
      refine DW.sub (T' := [(4, _)]) (Sub.cons rfl Sub.nil) (Sub.refl _) ?_
      refine DW.ret ?_
      exact RetD.v1 rfl rfl
    · skip
      have h2 : b = d := by simpa using h2
      have e : (a == c && b == d) = true := by simp [h1, h2]
      rw [e]
      refine DW.skip ?_
      refine DW.seq ?_
      refine DW.region ?_
      refine DL.go0 tauOK hE rfl (GStep.assign rfl) rfl rfl ?_
      refine DL.nil ?_
      refine DW.sub (T' := [(4, _)]) (Sub.cons rfl Sub.nil) (Sub.refl _) ?_
      refine DW.ret ?_
      exact RetD.v1 rfl rfl
theorem eqPieceS_dl : DFun Try.prog 29 gEqP := by
  have hE : EnvOK Try.prog [(47, gEqF)] := EnvOK.cons eqPiece_dl EnvOK.nil
  refine DFun.of tauOK (fn := Try.f29) Try.func29 rfl (by kernel_rfl) rfl rfl ?_
  intro C ds r hg hl
  unfold gEqP at hg
  split at hg
  case h_2 => cases hg
  rename_i n l m l'
  cases hg
  refine ⟨by simp, ?_⟩
  obtain ⟨hn, hm, hn', hm', _⟩ := hl
  obtain ⟨c, rfl, rfl⟩ := flat_ex hn
  obtain ⟨d, rfl, rfl⟩ := flat_ex hn'
  clear hn hn'
  refine DW.seq ?_
  refine DW.region ?_
  refine DL.go0 tauOK hE rfl (GStep.assign rfl) rfl rfl ?_
  refine DL.nil ?_
  refine DW.sub (T' := [(0, _), (1, _)]) (Sub.cons rfl (Sub.cons rfl Sub.nil)) (Sub.refl _) ?_
  refine DW.seq ?_
  refine DW.seq ?_
  refine DW.region ?_
  refine DL.go0 tauOK hE rfl (GStep.move rfl) rfl rfl ?_
  first | refine DL.go0 tauOK hE rfl (GStep.len rfl rfl rfl) rfl rfl ?_ | refine DL.go0 tauOK hE rfl (GStep.lenNil rfl rfl) rfl rfl ?_
  refine DL.go0 tauOK hE rfl (GStep.move rfl) rfl rfl ?_
  first | refine DL.go0 tauOK hE rfl (GStep.len rfl rfl rfl) rfl rfl ?_ | refine DL.go0 tauOK hE rfl (GStep.lenNil rfl rfl) rfl rfl ?_
  refine DL.go0 tauOK hE rfl (GStep.binI rfl rfl rfl) rfl rfl ?_
  refine DL.nil ?_
  refine DW.sub (T' := [(0, _), (1, _), (10, _)]) (Sub.cons rfl (Sub.cons rfl (Sub.cons rfl Sub.nil))) (Sub.refl _) ?_
  refine DW.cond rfl (fun hb => ?_) (fun hb => ?_)
  · skip
    have e : false = decide (flat c = flat d) := by
      symm
      simp only [decide_eq_false_iff_not]
      intro h
      obtain rfl := flat_inj h
      simp at hb
    rw [← e]
    refine DW.seq ?_
    refine DW.region ?_
    refine DL.go0 tauOK hE rfl (GStep.assign rfl) rfl rfl ?_
    refine DL.nil ?_
    refine DW.sub (T' := [(4, _)]) (Sub.cons rfl Sub.nil) (Sub.refl _) ?_
    refine DW.ret ?_
    exact RetD.v1 rfl rfl
  · skip
    have hb : c.length = d.length := by simp at hb; omega
    refine DW.skip ?_
    refine DW.seq ?_
    refine DW.seq ?_
    refine DW.region ?_
    refine DL.go0 tauOK hE rfl (GStep.assign rfl) rfl rfl ?_
    refine DL.nil ?_
    refine DW.sub (T' := [(0, _), (1, _), (5, _)]) (Sub.cons rfl (Sub.cons rfl (Sub.cons rfl Sub.nil))) (Sub.refl _) ?_
    refine DW.block ?_
    refine DW.loop (α := Nat) (fun k => [(0, .sl 0 0 c.length), (1, .sl 1 0 d.length), (5, .val (.int .i64 (k : Nat)))]) (fun k => [(0, .ro .i64 2 (flat c)), (1, .ro .i64 2 (flat d))]) (fun k => k ≤ c.length ∧ ∀ j, j < k → c.getD j (0, 0) = d.getD j (0, 0)) (fun k => c.length - k) 0 (⟨by omega, fun j hj => by omega⟩) (Sub.cons rfl (Sub.cons rfl (Sub.cons rfl Sub.nil))) (Sub.cons rfl (Sub.cons rfl Sub.nil)) ?_
    rintro k ⟨hk, hok⟩
    skip
    refine DW.seq ?_
    refine DW.seq ?_
    refine DW.region ?_
    refine DL.go0 tauOK hE rfl (GStep.move rfl) rfl rfl ?_
    refine DL.go0 tauOK hE rfl (GStep.move rfl) rfl rfl ?_
    first | refine DL.go0 tauOK hE rfl (GStep.len rfl rfl rfl) rfl rfl ?_ | refine DL.go0 tauOK hE rfl (GStep.lenNil rfl rfl) rfl rfl ?_
    refine DL.go0 tauOK hE rfl (GStep.binI rfl rfl rfl) rfl rfl ?_
    refine DL.nil ?_
    refine DW.sub (T' := [(0, _), (1, _), (5, _), (14, _)]) (Sub.cons rfl (Sub.cons rfl (Sub.cons rfl (Sub.cons rfl Sub.nil)))) (Sub.refl _) ?_
    refine DW.cond rfl (fun hlt => ?_) (fun hlt => ?_)
    · skip
      have hlt : k < c.length := by simpa using hlt
      refine DW.skip ?_
      refine DW.seq ?_
      refine DW.block ?_
      refine DW.seq ?_
      refine DW.draw tauOK hE mixed 10 (by kernel_rfl) ?_
      refine DR.go0 rfl (GStep.move rfl) rfl rfl ?_
      refine DR.go0 rfl (GStep.move rfl) rfl rfl ?_
      refine DR.go0 rfl (G.ia2 rfl rfl rfl rfl rfl rfl rfl (by omega)) rfl rfl ?_
      first | refine DR.go0 rfl (G.le2r rfl rfl rfl (by omega)) rfl rfl ?_ | refine DR.go0 rfl (G.le2w rfl rfl rfl (by omega)) rfl rfl ?_
      refine DR.go0 rfl (GStep.move rfl) rfl rfl ?_
      refine DR.go0 rfl (GStep.move rfl) rfl rfl ?_
      refine DR.go0 rfl (G.ia2 rfl rfl rfl rfl rfl rfl rfl (by omega)) rfl rfl ?_
      first | refine DR.go0 rfl (G.le2r rfl rfl rfl (by omega)) rfl rfl ?_ | refine DR.go0 rfl (G.le2w rfl rfl rfl (by omega)) rfl rfl ?_
      refine DR.go0 rfl (G.call (v := .val _) (news := []) rfl (All2.cons (ArgOf.v rfl) (All2.cons (ArgOf.v rfl) All2.nil)) (rfl) rfl rfl) rfl rfl ?_
      refine DR.go0 rfl (GStep.not rfl) rfl rfl ?_
      refine DR.nil ?_
      refine DL.nil ?_
      refine DW.sub (T' := [(0, _), (1, _), (5, _), (26, _)]) (Sub.cons rfl (Sub.cons rfl (Sub.cons rfl (Sub.cons rfl Sub.nil)))) (Sub.refl _) ?_
      refine DW.cond rfl (fun hq => ?_) (fun hq => ?_)
      · skip
        have e : false = decide (flat c = flat d) := by
          symm
          simp only [decide_eq_false_iff_not]
          intro h
          obtain rfl := flat_inj h
          simp at hq
        rw [← e]
        refine DW.seq ?_
        refine DW.region ?_
        refine DL.go0 tauOK hE rfl (GStep.assign rfl) rfl rfl ?_
        refine DL.nil ?_
        refine DW.sub (T' := [(4, _)]) (Sub.cons rfl Sub.nil) (Sub.refl _) ?_
        refine DW.ret ?_
        exact RetD.v1 rfl rfl
      · skip
        have hq : c.getD k (0, 0) = d.getD k (0, 0) := by simp [-List.getD_eq_getElem?_getD] at hq; exact Prod.ext hq.1 hq.2
        refine DW.skip ?_
        refine DW.region ?_
        refine DL.go0 tauOK hE rfl (GStep.move rfl) rfl rfl ?_
        first | refine DL.go0 tauOK hE rfl (G.add rfl rfl (by omega)) rfl rfl ?_ | refine DL.go0 tauOK hE rfl (GStep.binI rfl rfl rfl) rfl rfl ?_
        refine DL.go0 tauOK hE rfl (GStep.assign rfl) rfl rfl ?_
        refine DL.nil ?_
        refine ⟨k + 1, ⟨hlt, fun j hj => (Nat.lt_succ_iff_lt_or_eq.1 hj).elim (hok j) (fun e => e ▸ hq)⟩, by first | omega | (dsimp only; omega), ?_, ?_⟩
        · exact Sub.cons rfl (Sub.cons rfl (Sub.cons rfl Sub.nil))
        · exact Sub.cons rfl (Sub.cons rfl Sub.nil)
    · skip
      have hlt : k = c.length := by simp at hlt; omega
      subst hlt
      refine DW.exit ?_
      have e : true = decide (flat c = flat d) := by
        symm
        simp only [decide_eq_true_eq]
        exact congrArg flat (eq_of_getD2 hb hok)
      rw [← e]
      refine DW.seq ?_
      refine DW.region ?_
      refine DL.go0 tauOK hE rfl (GStep.assign rfl) rfl rfl ?_
      refine DL.nil ?_
      refine DW.sub (T' := [(4, _)]) (Sub.cons rfl Sub.nil) (Sub.refl _) ?_
      refine DW.ret ?_
      exact RetD.v1 rfl rfl
theorem sameCore_dl : DFun Try.prog 16 gEqP := by
  have hE : EnvOK Try.prog [] := EnvOK.nil
  refine DFun.of tauOK (fn := Try.f16) Try.func16 rfl (by kernel_rfl) rfl rfl ?_
  intro C ds r hg hl
  unfold gEqP at hg
  split at hg
  case h_2 => cases hg
  rename_i n l m l'
  cases hg
  refine ⟨by simp, ?_⟩
  obtain ⟨hn, hm, hn', hm', _⟩ := hl
  obtain ⟨c, rfl, rfl⟩ := flat_ex hn
  obtain ⟨d, rfl, rfl⟩ := flat_ex hn'
  clear hn hn'
  refine DW.seq ?_
  refine DW.region ?_
  refine DL.go0 tauOK hE rfl (GStep.assign rfl) rfl rfl ?_
  refine DL.nil ?_
  refine DW.sub (T' := [(0, _), (1, _)]) (Sub.cons rfl (Sub.cons rfl Sub.nil)) (Sub.refl _) ?_
  refine DW.seq ?_
  refine DW.seq ?_
  refine DW.region ?_
  refine DL.go0 tauOK hE rfl (GStep.move rfl) rfl rfl ?_
  first | refine DL.go0 tauOK hE rfl (GStep.len rfl rfl rfl) rfl rfl ?_ | refine DL.go0 tauOK hE rfl (GStep.lenNil rfl rfl) rfl rfl ?_
  refine DL.go0 tauOK hE rfl (GStep.move rfl) rfl rfl ?_
  first | refine DL.go0 tauOK hE rfl (GStep.len rfl rfl rfl) rfl rfl ?_ | refine DL.go0 tauOK hE rfl (GStep.lenNil rfl rfl) rfl rfl ?_
  refine DL.go0 tauOK hE rfl (GStep.binI rfl rfl rfl) rfl rfl ?_
  refine DL.nil ?_
  refine DW.sub (T' := [(0, _), (1, _), (10, _)]) (Sub.cons rfl (Sub.cons rfl (Sub.cons rfl Sub.nil))) (Sub.refl _) ?_
  refine DW.cond rfl (fun hb => ?_) (fun hb => ?_)
  · skip
    have e : false = decide (flat c = flat d) := by
      symm
      simp only [decide_eq_false_iff_not]
      intro h
      obtain rfl := flat_inj h
      simp at hb
    rw [← e]
    refine DW.seq ?_
    refine DW.region ?_
    refine DL.go0 tauOK hE rfl (GStep.assign rfl) rfl rfl ?_
    refine DL.nil ?_
    refine DW.sub (T' := [(4, _)]) (Sub.cons rfl Sub.nil) (Sub.refl _) ?_
    refine DW.ret ?_
    exact RetD.v1 rfl rfl
  · skip
    have hb : c.length = d.length := by simp at hb; omega
    refine DW.skip ?_
    refine DW.seq ?_
    refine DW.seq ?_
    refine DW.region ?_
    refine DL.go0 tauOK hE rfl (GStep.assign rfl) rfl rfl ?_
    refine DL.nil ?_
    refine DW.sub (T' := [(0, _), (1, _), (5, _)]) (Sub.cons rfl (Sub.cons rfl (Sub.cons rfl Sub.nil))) (Sub.refl _) ?_
    refine DW.block ?_
    refine DW.loop (α := Nat) (fun k => [(0, .sl 0 0 c.length), (1, .sl 1 0 d.length), (5, .val (.int .i64 (k : Nat)))]) (fun k => [(0, .ro .i64 2 (flat c)), (1, .ro .i64 2 (flat d))]) (fun k => k ≤ c.length ∧ ∀ j, j < k → c.getD j (0, 0) = d.getD j (0, 0)) (fun k => c.length - k) 0 (⟨by omega, fun j hj => by omega⟩) (Sub.cons rfl (Sub.cons rfl (Sub.cons rfl Sub.nil))) (Sub.cons rfl (Sub.cons rfl Sub.nil)) ?_
    rintro k ⟨hk, hok⟩
    skip
    refine DW.seq ?_
    refine DW.seq ?_
    refine DW.region ?_
    refine DL.go0 tauOK hE rfl (GStep.move rfl) rfl rfl ?_
    refine DL.go0 tauOK hE rfl (GStep.move rfl) rfl rfl ?_
    first | refine DL.go0 tauOK hE rfl (GStep.len rfl rfl rfl) rfl rfl ?_ | refine DL.go0 tauOK hE rfl (GStep.lenNil rfl rfl) rfl rfl ?_
    refine DL.go0 tauOK hE rfl (GStep.binI rfl rfl rfl) rfl rfl ?_
    refine DL.nil ?_
    refine DW.sub (T' := [(0, _), (1, _), (5, _), (14, _)]) (Sub.cons rfl (Sub.cons rfl (Sub.cons rfl (Sub.cons rfl Sub.nil)))) (Sub.refl _) ?_
    refine DW.cond rfl (fun hlt => ?_) (fun hlt => ?_)
    · skip
      have hlt : k < c.length := by simpa using hlt
      refine DW.skip ?_
      refine DW.seq ?_
      refine DW.block ?_
      refine DW.seq ?_
      refine DW.draw tauOK hE mixed 9 (by kernel_rfl) ?_
      refine DR.go0 rfl (GStep.move rfl) rfl rfl ?_
      refine DR.go0 rfl (GStep.move rfl) rfl rfl ?_
      refine DR.go0 rfl (G.ia2 rfl rfl rfl rfl rfl rfl rfl (by omega)) rfl rfl ?_
      first | refine DR.go0 rfl (G.le2r rfl rfl rfl (by omega)) rfl rfl ?_ | refine DR.go0 rfl (G.le2w rfl rfl rfl (by omega)) rfl rfl ?_
      refine DR.go0 rfl (GStep.move rfl) rfl rfl ?_
      refine DR.go0 rfl (GStep.move rfl) rfl rfl ?_
      refine DR.go0 rfl (G.ia2 rfl rfl rfl rfl rfl rfl rfl (by omega)) rfl rfl ?_
      first | refine DR.go0 rfl (G.le2r rfl rfl rfl (by omega)) rfl rfl ?_ | refine DR.go0 rfl (G.le2w rfl rfl rfl (by omega)) rfl rfl ?_
      refine DR.go0 rfl (GStep.neqP rfl rfl rfl) rfl rfl ?_
      refine DR.nil ?_
      refine DL.nil ?_
      refine DW.sub (T' := [(0, _), (1, _), (5, _), (25, _)]) (Sub.cons rfl (Sub.cons rfl (Sub.cons rfl (Sub.cons rfl Sub.nil)))) (Sub.refl _) ?_
      refine DW.cond rfl (fun hq => ?_) (fun hq => ?_)
      · skip
        have e : false = decide (flat c = flat d) := by
          symm
          simp only [decide_eq_false_iff_not]
          intro h
          obtain rfl := flat_inj h
          simp at hq
        rw [← e]
        refine DW.seq ?_
        refine DW.region ?_
        refine DL.go0 tauOK hE rfl (GStep.assign rfl) rfl rfl ?_
        refine DL.nil ?_
        refine DW.sub (T' := [(4, _)]) (Sub.cons rfl Sub.nil) (Sub.refl _) ?_
        refine DW.ret ?_
        exact RetD.v1 rfl rfl
      · skip
        have hq : c.getD k (0, 0) = d.getD k (0, 0) := by simp [-List.getD_eq_getElem?_getD] at hq; exact Prod.ext hq.1 hq.2
        refine DW.skip ?_
        refine DW.region ?_
        refine DL.go0 tauOK hE rfl (GStep.move rfl) rfl rfl ?_
        first | refine DL.go0 tauOK hE rfl (G.add rfl rfl (by omega)) rfl rfl ?_ | refine DL.go0 tauOK hE rfl (GStep.binI rfl rfl rfl) rfl rfl ?_
        refine DL.go0 tauOK hE rfl (GStep.assign rfl) rfl rfl ?_
        refine DL.nil ?_
        refine ⟨k + 1, ⟨hlt, fun j hj => (Nat.lt_succ_iff_lt_or_eq.1 hj).elim (hok j) (fun e => e ▸ hq)⟩, by first | omega | (dsimp only; omega), ?_, ?_⟩
        · exact Sub.cons rfl (Sub.cons rfl (Sub.cons rfl Sub.nil))
        · exact Sub.cons rfl (Sub.cons rfl Sub.nil)
    · skip
      have hlt : k = c.length := by simp at hlt; omega
      subst hlt
      refine DW.exit ?_
      have e : true = decide (flat c = flat d) := by
        symm
        simp only [decide_eq_true_eq]
        exact congrArg flat (eq_of_getD2 hb hok)
      rw [← e]
      refine DW.seq ?_
      refine DW.region ?_
      refine DL.go0 tauOK hE rfl (GStep.assign rfl) rfl rfl ?_
      refine DL.nil ?_
      refine DW.sub (T' := [(4, _)]) (Sub.cons rfl Sub.nil) (Sub.refl _) ?_
      refine DW.ret ?_
      exact RetD.v1 rfl rfl
end Go.Proofs.Ytionljjdfgeggaa
