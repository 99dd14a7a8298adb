/-
  The draws of records, as relations of the plain machine.
-/
import Derived.Test.YtpaemnambphldaaDen5
import Derived.Test.YtpaemnambphldaaLawH
import Derived.Test.YtpaemnambphldaaDraw3
namespace Go.Proofs.Ytpaemnambphldaa
open Go.RowKit
set_option linter.unusedVariables false
set_option linter.unusedSimpArgs false

theorem rb_of_arel {w : World} {n : Nat} {bs : List Int} {y : Value} (h : ARel w (.sl .u8 1 n bs) y) (hb : bytesB bs = true) : ∃ A c, y = .slice A n c ∧ n ≤ c ∧ c ≤ 9223372036854775807 ∧ RB w A n := by
  obtain ⟨A, c, e, h1, h2, h3, _, h4⟩ := h
  refine ⟨A, c, e, h1, h2, fun hn => ?_⟩
  obtain ⟨b, off, e1, e2, hc⟩ := h4 (by omega)
  refine ⟨b, off, e1, e2, fun j hj => ⟨bs.getD j 0, ?_, ?_, hc j (by omega)⟩⟩
  all_goals
    have hm : bs.getD j 0 ∈ bs := by simp [List.getD_eq_getElem?_getD, List.getElem?_eq_getElem (show j < bs.length by omega)]
    have := List.all_eq_true.1 hb _ hm
    simp [-List.getD_eq_getElem?_getD] at this
    omega
theorem oi_row {w : World} {base : Nat} {A : Option Addr} {n c : Nat} {l : List Int} (h : OI w base A n c l) : RCRel base w (.row 3 1 n l) (.slice A n c) := ⟨A, c, rfl, h, by omega⟩
theorem dis_sep {A B : Option Addr} {n c m d : Nat} (h : Dis A B) : SepV [.slice A n c, .slice B m d] := by
  simp only [SepV, List.pairwise_cons, List.mem_cons, List.not_mem_nil, or_false, forall_eq]
  refine ⟨?_, fun _ h => h.elim, List.Pairwise.nil⟩
  rw [blk_own, blk_own]
  exact h.ne
/-- a drawn record -/
def RecR (r : RD) : Prop := ∃ l a : List Int, r = .tup [.row 3 1 l.length l, .row 3 1 a.length a] ∧ 2 ≤ l.length ∧ l.length ≤ 6 ∧ 1 ≤ a.length ∧ a.length ≤ 6 ∧ Small 100000 l ∧ Small 100000 a
def gDrawR : List AD → Option (RD → Prop)
  | [.sl .u8 1 _ bs] => if bytesB bs = true then some RecR else none
  | _ => none
theorem DrawRecordValid_ds : DRelF Try.prog 19 gDrawR := by
  refine DRelF.ofC Try.func19 rfl (by kernel_rfl) ?_
  intro w ds args R ha hg
  unfold gDrawR at hg
  split at hg
  case h_2 => cases hg
  rename_i n bs
  split at hg
  case isFalse => cases hg
  rename_i hb
  cases hg
  rcases args with _ | ⟨y, _ | ⟨z, args⟩⟩
  · exact ha.elim
  · obtain ⟨A, c, rfl, h1, h2, h3⟩ := rb_of_arel ha.1 hb
    refine (DrawRecordValid_s A n c w h3 h1 h2).mono ?_
    rintro e w' ⟨A', n', c', B', m', d', l, a, rfl, oE, oF, hD, e1, e2, f1, f2, sl, sa, hb⟩
    have h4 := oE.len
    have h5 := oF.len
    subst h4 h5
    exact ⟨_, _, ⟨l, a, rfl, e1, e2, f1, f2, sl, sa⟩, rfl, hb, _, rfl, ⟨oi_row oE, oi_row oF, trivial⟩, dis_sep hD⟩
  · exact ha.2.elim
theorem DrawRecordTotal_ds : DRelF Try.prog 20 gDrawR := by
  refine DRelF.ofC Try.func20 rfl (by kernel_rfl) ?_
  intro w ds args R ha hg
  unfold gDrawR at hg
  split at hg
  case h_2 => cases hg
  rename_i n bs
  split at hg
  case isFalse => cases hg
  rename_i hb
  cases hg
  rcases args with _ | ⟨y, _ | ⟨z, args⟩⟩
  · exact ha.elim
  · obtain ⟨A, c, rfl, h1, h2, h3⟩ := rb_of_arel ha.1 hb
    refine (DrawRecordTotal_s A n c w h3 h1 h2).mono ?_
    rintro e w' ⟨A', n', c', B', m', d', l, a, rfl, oE, oF, hD, e1, e2, f1, f2, sl, sa, hb⟩
    have h4 := oE.len
    have h5 := oF.len
    subst h4 h5
    exact ⟨_, _, ⟨l, a, rfl, e1, e2, f1, f2, sl, sa⟩, rfl, hb, _, rfl, ⟨oi_row oE, oi_row oF, trivial⟩, dis_sep hD⟩
  · exact ha.2.elim
end Go.Proofs.Ytpaemnambphldaa
