/-
  The plain machine: steps whose value is said anew; ends of statements.
-/
import Derived.Test.YtionljjdfgeggaaDen9
import Derived.Test.YtionljjdfgeggaaLawH
namespace Go.Proofs.Ytionljjdfgeggaa
open Go.RowKit
set_option linter.unusedVariables false
set_option linter.unusedSimpArgs false
section
variable {τ : List (Nat × TK)} {E : Env} {ev : Operand → Option DV} {gt : DG} {nid : Nat} {op : Op}
theorem G.tr {b : Bool} (h : GStep τ E ev gt nid op (.val (.bool b)) []) (hb : b = true) : GStep τ E ev gt nid op (.val (.bool true)) [] := hb ▸ h
theorem G.fl {b : Bool} (h : GStep τ E ev gt nid op (.val (.bool b)) []) (hb : b = false) : GStep τ E ev gt nid op (.val (.bool false)) [] := hb ▸ h
theorem G.iv {a b : Int} (h : GStep τ E ev gt nid op (.val (.int .i64 a)) []) (hb : a = b) : GStep τ E ev gt nid op (.val (.int .i64 b)) [] := hb ▸ h
end
theorem RetD.vb {τ : List (Nat × TK)} {T : DT} {H : DH} {t : Nat} {b c : Bool} (h : lk T t = some (.val (.bool b))) (hb : b = c) : RetD τ [.tmp t] (.one (.v (.bool c))) T H := hb ▸ RetD.v1 h rfl
theorem RetD.vi {τ : List (Nat × TK)} {T : DT} {H : DH} {t : Nat} {b c : Int} (h : lk T t = some (.val (.int .i64 b))) (hb : b = c) : RetD τ [.tmp t] (.one (.v (.int .i64 c))) T H := hb ▸ RetD.v1 h rfl
/-! ## Parts of rows as arguments; what is appended -/
theorem ArgOf.roP {ev : Operand → Option DV} {gt : DG} {x : Operand} {id off len sz : Nat} {k : IntKind} {l m : List Int} (h : ev x = some (.sl id off len)) (hg : gt id = some (.ro k sz l)) (e : (l.drop (off * sz)).take (len * sz) = m) : ArgOf ev gt x (.sl k sz len m) := e ▸ .part h hg
theorem ArgOf.rowP {ev : Operand → Option DV} {gt : DG} {x : Operand} {id off len sz : Nat} {t : TypeId} {l m : List Int} (h : ev x = some (.sl id off len)) (hg : gt id = some (.row t sz l)) (e : (l.drop (off * sz)).take (len * sz) = m) : ArgOf ev gt x (.sl .i64 sz len m) := e ▸ .part h hg
theorem ys_all {xs : List Int} {n sz : Nat} (h : xs.length = n * sz) : (xs.drop (0 * sz)).take (n * sz) = xs := by rw [Nat.zero_mul, List.drop_zero, ← h, List.take_length]
theorem ys_row {t : TypeId} {xs : List Int} {n sz sz' : Nat} (h : xs.length = n * sz) : ((DO.row t sz' xs).cells.drop (0 * sz)).take (n * sz) = xs := ys_all h
theorem ys_ro {k : IntKind} {xs : List Int} {n sz sz' : Nat} (h : xs.length = n * sz) : ((DO.ro k sz' xs).cells.drop (0 * sz)).take (n * sz) = xs := ys_all h
theorem drop_all {xs : List Int} {k n : Nat} (h : n = xs.length - k) : (xs.drop ((0 + k) * 1)).take (n * 1) = xs.drop k := by rw [Nat.mul_one, Nat.mul_one, Nat.zero_add, List.take_of_length_le (by simp; omega)]
/-! ## What statements are asked -/
def gL1 : List AD → Option RD
  | [.sl .u8 1 _ bs] => if bytesB bs = true then some (.one (.v (.bool true))) else none
  | _ => none
def gL2 : List AD → Option RD
  | [.sl .u8 1 _ bs, .sl .u8 1 _ ms] => if bytesB bs = true then some (.one (.v (.bool true))) else none
  | _ => none
theorem gL1_inv {ds : List AD} {r : RD} (h : gL1 ds = some r) (hl : lensOK ds) : ∃ bs, ds = [.sl .u8 1 bs.length bs] ∧ r = .one (.v (.bool true)) ∧ bytesB bs = true ∧ bs.length ≤ 9223372036854775807 := by
  unfold gL1 at h
  split at h
  case h_2 => cases h
  rename_i n bs
  split at h
  case isFalse => cases h
  rename_i hb
  cases h
  obtain ⟨h1, h2, _⟩ := hl
  obtain rfl : n = bs.length := by omega
  exact ⟨bs, rfl, rfl, hb, by omega⟩
theorem gL2_inv {ds : List AD} {r : RD} (h : gL2 ds = some r) (hl : lensOK ds) : ∃ bs ms, ds = [.sl .u8 1 bs.length bs, .sl .u8 1 ms.length ms] ∧ r = .one (.v (.bool true)) ∧ bytesB bs = true ∧ bs.length ≤ 9223372036854775807 ∧ ms.length ≤ 9223372036854775807 := by
  unfold gL2 at h
  split at h
  case h_2 => cases h
  rename_i n bs m ms
  split at h
  case isFalse => cases h
  rename_i hb
  cases h
  obtain ⟨h1, h2, h3, h4, _⟩ := hl
  obtain rfl : n = bs.length := by omega
  obtain rfl : m = ms.length := by omega
  exact ⟨bs, ms, rfl, rfl, hb, by omega, by omega⟩
theorem gEqI_refl {n m : Nat} {l : List Int} : gEqI [.sl .i64 1 n l, .sl .i64 1 m l] = some (.one (.v (.bool true))) := by simp [gEqI]
theorem gEqI_of {n m : Nat} {l l' : List Int} (h : l = l') : gEqI [.sl .i64 1 n l, .sl .i64 1 m l'] = some (.one (.v (.bool true))) := by subst h; exact gEqI_refl
theorem gToI_eq {n : Nat} {l : List Int} (hn : l.length = n) (h : n ≤ 1048576) : gToI [.sl .i64 1 n l] = some (.one (.row 3 1 n l)) := by subst hn; exact if_pos h
theorem bool_ne_self (b : Bool) : (!(b == b)) = false := by simp
end Go.Proofs.Ytionljjdfgeggaa
