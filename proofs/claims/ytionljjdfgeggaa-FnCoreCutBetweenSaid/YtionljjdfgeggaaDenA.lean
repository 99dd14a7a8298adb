/-
  The plain machine, tenth part: a slice compared with nil; slices.Clone; slices.Delete off the shelf.
-/
import Derived.Test.YtionljjdfgeggaaPick
import Derived.Test.YtionljjdfgeggaaTy
import Derived.Lib.SliceRun
namespace Go.Proofs.Ytionljjdfgeggaa
open Go.RowKit
set_option linter.unusedVariables false
set_option linter.unusedSimpArgs false
section
variable {P : Program} {C : Ctx} {N : Nat} {QD : Exit → DT → DH → Prop} {T : DT} {H : DH} {τ : List (Nat × TK)} {ops : Array Oper} {o : Oper} {l : List Oper} {d : Nat}
theorem DL.nilEq (hτ : TyOK P τ) {t t' e : TypeId} {x : Operand} {id off n : Nat} {ob : DO} (ho : o.op = .binOp .eql t x (.const (.slice none 0 0)) t') (hgd : o.guard = none) (hd : o.dst = some d) (hN : Nat.blt d N = true) (ht : lk τ t = some (.sl e)) (hx : ev T x = some (.sl id off n)) (hg : lk H id = some ob)
    (h : ∀ b : Bool, (b = true → n = 0) → DL P C N ops QD l ((d, .val (.bool b)) :: T) H) : DL P C N ops QD (o :: l) T H := by
  intro a w ⟨ρ, hs⟩
  obtain ⟨A, c, e1, b1, b2, b3, _⟩ := hs.ev x (.sl id off n) (by rw [← ev_eq]; exact hx) _ hg
  have hrun := Lib.run_eql_slice_nil (P := P) w t e A n c 0 0 (hτ t _ ht)
  have hrun' : (execOp a.eval o).run P w = .ok (.value (.bool A.isNone)) w := by
    unfold execOp
    have e2 : a.eval (.const (.slice none 0 0)) = .slice none 0 0 := rfl
    simp [ho, e1, e2, eqGuard, hrun]
  refine wpList_plain hgd fun K hK => wp_value hrun' (hK _ _ ?_)
  rw [hd]
  refine h A.isNone (fun hb => ?_) _ _ ⟨ρ, ?_⟩
  · rcases Nat.eq_zero_or_pos n with h0 | h0
    · exact h0
    · obtain ⟨b, f, _, r2⟩ := b3 h0
      rw [r2] at hb; cases hb
  · rw [lk_tup]
    exact hs.step (P := P) (v := .val (.bool A.isNone)) (news := []) (Nat.le_of_ble_eq_true hN) (fun _ _ _ _ k hk => absurd hk (by simp)) hs.heap rfl (fun _ _ => ⟨rfl, rfl⟩)
end
def gClone1 : List AD → Option RD
  | [.sl .i64 1 n l] => if n ≤ 1000000 then some (.one (.row 3 1 n l)) else none
  | _ => none
end Go.Proofs.Ytionljjdfgeggaa
