/-
  slices.Insert of one pair into a row of pairs that the call owns: walked over the library's own text.
-/
import Derived.Test.YtionljjdfgeggaaDenF
import Derived.Laws.CopyRow
import Derived.Lib.AppendZerosOnto
import Derived.Lib.Overlaps
import Derived.Lib.JoinLaws
import Derived.Laws.Externs
import Derived.Laws.NewBlocks
import Derived.Shelf.Spec.SlicesInsert
namespace Go.Proofs.Ytionljjdfgeggaa
open Go.RowKit Go.Lib
set_option linter.unusedVariables false
set_option linter.unusedSimpArgs false

/-- 'copy' of elements of two cells into a row that is known whole -/
theorem run_copy_row2 {P : Program} (w : World) (dT sT ty elem : TypeId) (g o dLen dCap : Nat) (a : Addr) (sLen sCap : Nat) (cur : Array Value) (t : TypeId) (cs : List Value)
    (hu : P.underlying dT = some (.slice elem)) (hs : (P.info? elem).map (·.size) = some 2)
    (hg : w.heap[g]? = some (.cells cur t (0, 0))) (hn : cs.length = Nat.min sLen dLen * 2)
    (hsrc : ∀ j v, cs[j]? = some v → w.cell? (a.add j) = some v) (hfit : o + cs.length ≤ cur.size) (h1 : ∀ v ∈ cs, v.oneCell' = true) :
    (Builtin.copy_ #[dT, sT] ty #[.slice (some ⟨g, o, none⟩) dLen dCap, .slice (some a) sLen sCap]).run P w =
      .ok (goInt (Nat.min sLen dLen : Nat)) (w.setRow g (cur.toList.take o ++ cs ++ cur.toList.drop (o + cs.length)).toArray) := by
  have hl := run_loadCells_list (P := P) w a cs hsrc
  have hst := run_storeCells_at P g o t cs 0 cur w hg (by simpa using hfit) h1
  cases hq : P.info? elem with
  | none => simp [hq] at hs
  | some i =>
    have hi : i.size = 2 := by simpa [hq] using hs
    simp [Builtin.copy_, run_underlying hu, Builtin.lenOf, Builtin.firstCells, sizeOf, typeInfo, hq, hi, ← hn, hl, hst]

theorem int_one (l : List Int) : ∀ v ∈ l.map (Value.int .i64), v.oneCell' = true := by
  intro v hv
  obtain ⟨z, _, rfl⟩ := List.mem_map.1 hv
  rfl
/-- what a row's cells are -/
theorem row_cell {w : World} {g : Nat} {cur : Array Value} {e : TypeId} {xs : List Value} {m : Nat} (hg : w.heap[g]? = some (.cells cur e (0, 0))) (hx : cur.toList.take m = xs) : ∀ j v, xs[j]? = some v → w.cell? ⟨g, j, none⟩ = some v := by
  intro j v hj
  have hlt : j < xs.length := by
    rcases Nat.lt_or_ge j xs.length with h | h
    · exact h
    · rw [List.getElem?_eq_none h] at hj; cases hj
  have hm : j < m := by rw [← hx, List.length_take] at hlt; omega
  rw [← hx, List.getElem?_take, if_pos hm, Array.getElem?_toList] at hj
  simp [World.cell?, hg, hj]
theorem shift_list {α : Type} {cur xs vs : List α} {k m : Nat} (hk : k ≤ m) (hv : vs.length = 2) (hx : cur.take m = xs) (hl : m + 2 ≤ cur.length) {R2 R3 : List α} (e2 : R2 = cur.take (k + 2) ++ xs.drop k ++ cur.drop (k + 2 + (xs.drop k).length)) (e3 : R3 = R2.take k ++ vs ++ R2.drop (k + vs.length)) :
    R3.take (m + 2) = xs.take k ++ vs ++ xs.drop k ∧ R2.length = cur.length ∧ R3.length = cur.length := by
  have hxl : xs.length = m := by rw [← hx, List.length_take]; omega
  have a1 : (cur.take (k + 2)).length = k + 2 := by rw [List.length_take]; omega
  have a2 : (xs.drop k).length = m - k := by rw [List.length_drop]; omega
  have l2 : R2.length = cur.length := by rw [e2]; simp only [List.length_append, a1, a2, List.length_drop]; omega
  have t2 : R2.take k = xs.take k := by
    rw [e2, List.append_assoc, List.take_append_of_le_length (by omega), List.take_take, ← hx, List.take_take]
    congr 1; omega
  have d2 : R2.drop (k + vs.length) = xs.drop k ++ cur.drop (k + 2 + (xs.drop k).length) := by
    rw [e2, hv, List.append_assoc, List.drop_append_of_le_length (by omega), List.drop_of_length_le (by omega), List.nil_append]
  have l3 : R3.length = cur.length := by
    rw [e3, t2, d2]
    simp only [List.length_append, List.length_take, List.length_drop, hv, hxl]; omega
  refine ⟨?_, l2, l3⟩
  rw [e3, t2, d2, ← List.append_assoc]
  rw [List.take_append_of_le_length (by simp only [List.length_append, List.length_take, List.length_drop, hv, hxl]; omega)]
  rw [List.take_of_length_le (by simp only [List.length_append, List.length_take, List.length_drop, hv, hxl]; omega)]
theorem grow_list {α : Type} {xs vs Z : List α} {k m : Nat} (hk : k ≤ m) (hv : vs.length = 2) (hxl : xs.length = m) (hl : m + 2 - k ≤ Z.length) {ROW R2 R3 : List α} (e1 : ROW = xs.take k ++ Z) (e2 : R2 = ROW.take k ++ vs ++ ROW.drop (k + vs.length)) (e3 : R3 = R2.take (k + 2) ++ xs.drop k ++ R2.drop (k + 2 + (xs.drop k).length)) :
    R3.take (m + 2) = xs.take k ++ vs ++ xs.drop k ∧ R2.length = k + Z.length ∧ R3.length = k + Z.length := by
  have a0 : (xs.take k).length = k := by rw [List.length_take]; omega
  have a2 : (xs.drop k).length = m - k := by rw [List.length_drop]; omega
  have t1 : ROW.take k = xs.take k := by rw [e1, List.take_append_of_le_length (by omega), List.take_of_length_le (by omega)]
  have l2 : R2.length = k + Z.length := by
    rw [e2, t1, e1]; simp only [List.length_append, List.length_drop, a0, hv]; omega
  have t2 : R2.take (k + 2) = xs.take k ++ vs := by
    rw [e2, t1, List.take_append_of_le_length (by simp only [List.length_append, a0, hv]; omega), List.take_of_length_le (by simp only [List.length_append, a0, hv]; omega)]
  have l3 : R3.length = k + Z.length := by
    rw [e3, t2]; simp only [List.length_append, List.length_drop, a0, hv, l2, hxl]; omega
  refine ⟨?_, l2, l3⟩
  rw [e3, t2]
  rw [List.take_append_of_le_length (by simp only [List.length_append, List.length_drop, a0, hv, hxl]; omega)]
  rw [List.take_of_length_le (by simp only [List.length_append, List.length_drop, a0, hv, hxl]; omega)]
theorem pairInfoPiece : ∃ i, Try.prog.info? 38 = some i ∧ i.zero = some (.agg #[.int .i64 0, .int .i64 0]) ∧ i.size = 2 ∧ i.bytes = 16 := (show TPair Try.prog 38 from tauOK 38 _ rfl).info
set_option maxHeartbeats 4000000 in
set_option maxRecDepth 100000 in
theorem ins_endPiece (w : World) (g n c g2 c2 : Nat) (xs : List Int) (y z : Int) (hl : xs.length = n * 2) (hb : n ≤ 100000) (own : w.ownsRow 0 38 2 (.slice (some ⟨g, 0, none⟩) n c) n (xs.map (Value.int .i64)))
    (hv : ∀ j, j < 2 → w.cell? ⟨g2, 0 + j, none⟩ = some (.int .i64 ([y, z].getD j 0))) :
    Calls Try.prog 45 #[.slice (some ⟨g, 0, none⟩) n c, .int .i64 (n : Int), .slice (some ⟨g2, 0, none⟩) 1 c2] w (RetIns w ⟨some ⟨g, 0, none⟩, c, none⟩ 38 (xs ++ [y, z])) := by
  obtain ⟨A', c', w', hrun, h1, h2, h3⟩ := run_app (P := Try.prog) (t := 23) (e := 38) (sz := 2) Try.underlying23 (ty_elem tauOK (e := 38) rfl rfl) w 23 (some ⟨g, 0, none⟩) n c xs own (some ⟨g2, 0, none⟩) 1 c2 [y, z] rfl (fun _ => ⟨g2, 0, rfl, hv⟩) (fun _ => by simp) (by omega)
  have hn : n ≤ c := (own_bounds own).2.1
  have hc : c ≤ 9223372036854775807 := (own_bounds own).2.2.1
  have hin : (n : Int) ≤ (c : Int) := by omega
  clear own hv
  have R := Lib.hid hrun
  have R1 := Lib.hid h1
  have R2 := Lib.hid h2
  have R3 := Lib.hid h3
  clear hrun h1 h2 h3
  go_enter Try.func45, Try.ntmps45
  go_wp2_with (at_builtin; refine Lib.wpList_append_run _ rfl _ _ _ _ rfl _ _ rfl rfl _ _ R.out ?_)
  all_goals (go_ret; exact ⟨A', n + 1, c', rfl, R1.out, R2.out, R3.out.imp id (fun h => ⟨_, h, Nat.le_refl _⟩)⟩)
set_option maxHeartbeats 4000000 in
set_option maxRecDepth 100000 in
theorem ins_shiftPiece (w : World) (g n c i g2 c2 : Nat) (xs : List Int) (y z : Int) (cur cur2 : Array Value) (hl : xs.length = n * 2) (hb : n ≤ 100000) (hi : i < n) (hroom : n + 1 ≤ c) (hc63 : c ≤ maxLen) (hne : g2 ≠ g)
    (hg : w.heap[g]? = some (.cells cur 38 (0, 0))) (hcs : cur.size = c * 2) (htake : cur.toList.take (n * 2) = xs.map (Value.int .i64))
    (hg2 : w.heap[g2]? = some (.cells cur2 38 (0, 0))) (htake2 : cur2.toList.take 2 = [y, z].map (Value.int .i64)) :
    Calls Try.prog 45 #[.slice (some ⟨g, 0, none⟩) n c, .int .i64 (i : Int), .slice (some ⟨g2, 0, none⟩) 1 c2] w (RetIns w ⟨some ⟨g, 0, none⟩, c, none⟩ 38 (xs.take (i * 2) ++ [y, z] ++ xs.drop (i * 2))) := by
  have hsz : (Try.prog.info? 38).map (·.size) = some 2 := by obtain ⟨i0, h1, _, h2, _⟩ := pairInfoPiece; rw [h1]; simp [h2]
  have hzo : ∀ w, (Go.sizeOf 38).run Try.prog w = .ok 2 w := fun w => by obtain ⟨i0, h1, _, h2, _⟩ := pairInfoPiece; rw [run_sizeOf' h1, h2]
  unfold maxLen at hc63
  have hov : ∀ lb cb, (callFunc 51 #[.slice (some ⟨g2, 0, none⟩) 1 c2, .slice (some ⟨g, (i + 1) * 2, none⟩) lb cb]).run Try.prog w = .ok (.value (.bool false)) w := fun lb cb => by
    rw [run_callFunc_extern Try.func51 (by kernel_rfl) (by kernel_rfl) (by kernel_rfl) (e := Extern.SlicesOverlaps.overlaps #[23, 23] #[4]) (by kernel_rfl),
      Lib.run_overlaps_apart w 23 4 38 Try.underlying23 2 hzo ⟨g2, 0, none⟩ ⟨g, (i + 1) * 2, none⟩ 1 c2 lb cb hne 38 38 cur2.size cur.size (by simp [World.shape?, hg2]) (by simp [World.shape?, hg]) (by omega) (by simp [World.frozen?, hg2]) (by simp [World.frozen?, hg2])]
    rfl
  have m1 : Nat.min (n + 1 - i) (n - i) = n - i := by show min _ _ = _; omega
  have m2 : Nat.min 1 (n + 1 - i) = 1 := by show min _ _ = _; omega
  have hsrc1 : ∀ j v, ((xs.drop (i * 2)).map (Value.int .i64))[j]? = some v → w.cell? ((⟨g, i * 2, none⟩ : Addr).add j) = some v := fun j v hj => by
    rw [Addr.add_lit]
    refine row_cell hg htake _ v ?_
    rw [List.getElem?_map, List.getElem?_drop] at hj
    rw [List.getElem?_map]; exact hj
  have hln1 : ((xs.drop (i * 2)).map (Value.int .i64)).length = Nat.min (n + 1 - i) (n - i) * 2 := by
    rw [List.length_map, List.length_drop, hl, m1]; omega
  obtain ⟨R2, hR2⟩ : ∃ R2 : Array Value, R2 = (cur.toList.take ((i + 1) * 2) ++ (xs.drop (i * 2)).map (Value.int .i64) ++ cur.toList.drop ((i + 1) * 2 + ((xs.drop (i * 2)).map (Value.int .i64)).length)).toArray := ⟨_, rfl⟩
  have hcp1 : ∀ W : World, W.heap = w.heap → ∀ ty dc sc, (Builtin.copy_ #[23, 23] ty #[.slice (some ⟨g, (i + 1) * 2, none⟩) (n - i) dc, .slice (some ⟨g, i * 2, none⟩) (n + 1 - i) sc]).run Try.prog W = .ok (goInt (Nat.min (n + 1 - i) (n - i) : Nat)) (W.setRow g R2) := fun W hW ty dc sc => by
    rw [hR2]
    exact run_copy_row2 W _ _ ty 38 g ((i + 1) * 2) (n - i) dc ⟨g, i * 2, none⟩ (n + 1 - i) sc cur 38 _ Try.underlying23 hsz (by rw [hW]; exact hg) hln1
      (fun j v hj => by have := hsrc1 j v hj; simp only [World.cell?] at this ⊢; rw [hW]; exact this) (by rw [hln1, m1]; omega) (int_one _)
  have hR2s : R2.size = c * 2 := by
    rw [hR2]
    simp only [List.size_toArray, List.length_append, List.length_take, List.length_drop, List.length_map, Array.length_toList, hcs, hl]
    omega
  obtain ⟨R3, hR3⟩ : ∃ R3 : Array Value, R3 = (R2.toList.take (i * 2) ++ [y, z].map (Value.int .i64) ++ R2.toList.drop (i * 2 + ([y, z].map (Value.int .i64)).length)).toArray := ⟨_, rfl⟩
  have hgl : g < w.heap.size := (Array.getElem?_eq_some_iff.1 hg).1
  have hcp2 : ∀ W : World, W.heap[g]? = some (.cells R2 38 (0, 0)) → W.heap[g2]? = w.heap[g2]? → ∀ ty dc, (Builtin.copy_ #[23, 23] ty #[.slice (some ⟨g, i * 2, none⟩) (n + 1 - i) dc, .slice (some ⟨g2, 0, none⟩) 1 c2]).run Try.prog W = .ok (goInt (Nat.min 1 (n + 1 - i) : Nat)) (W.setRow g R3) := fun W hW hW2 ty dc => by
    rw [hR3]
    exact run_copy_row2 W _ _ ty 38 g (i * 2) (n + 1 - i) dc ⟨g2, 0, none⟩ 1 c2 R2 38 _ Try.underlying23 hsz hW (by rw [m2]; rfl)
      (fun j v hj => by rw [Addr.add_lit, Nat.zero_add]; exact row_cell (hW2.trans hg2) htake2 j v hj) (by simp [hR2s]; omega) (int_one _)
  have hcp2' : ∀ W : World, W.heap = (w.setRow g R2).heap → ∀ ty dc, (Builtin.copy_ #[23, 23] ty #[.slice (some ⟨g, i * 2, none⟩) (n + 1 - i) dc, .slice (some ⟨g2, 0, none⟩) 1 c2]).run Try.prog W = .ok (goInt (Nat.min 1 (n + 1 - i) : Nat)) (W.setRow g R3) := fun W hW ty dc =>
    hcp2 W (by rw [hW]; exact setRow_heap w g _ _ _ _ hg) (by rw [hW]; exact setRow_other w g g2 R2 hne) ty dc
  have hfin : R3.toList.take ((n + 1) * 2) = (xs.take (i * 2) ++ [y, z] ++ xs.drop (i * 2)).map (Value.int .i64) ∧ R3.size = c * 2 := by
    have := shift_list (cur := cur.toList) (xs := xs.map (Value.int .i64)) (vs := [y, z].map (Value.int .i64)) (k := i * 2) (m := n * 2) (by omega) (by simp) htake (by simp; omega) (R2 := R2.toList) (R3 := R3.toList) (by rw [hR2, List.map_drop]; simp [show (i + 1) * 2 = i * 2 + 2 by omega]) (by rw [hR3])
    refine ⟨?_, ?_⟩
    · rw [show (n + 1) * 2 = n * 2 + 2 by omega, this.1]; simp [List.map_take, List.map_drop]
    · have h3 := this.2.2; simp at h3; omega
  have hend : ∀ W : World, W.os = w.os → W.tape = w.tape → W.output = w.output → W.heap = ((w.setRow g R2).setRow g R3).heap → RetIns w ⟨some ⟨g, 0, none⟩, c, none⟩ 38 (xs.take (i * 2) ++ [y, z] ++ xs.drop (i * 2)) (.returned (.slice (some ⟨g, 0, none⟩) (n + 1) c)) W := fun W h1 h2 h3 h4 => by
    refine ⟨_, _, _, rfl, ⟨by simp [hl]; omega, .inr ⟨g, c, R3, rfl, Nat.zero_le _, ?_, by omega, by unfold maxLen; omega, hfin.2, hfin.1⟩⟩, ⟨h1, h2, h3, by rw [h4]; simp [World.setRow], fun k hk hne' => ?_⟩, .inl rfl⟩
    · rw [h4]; exact setRow_heap _ g _ _ _ _ (setRow_heap w g _ _ _ _ hg)
    · have hkg : k ≠ g := fun e => hne' (by rw [e]; rfl)
      rw [h4, setRow_other _ g k _ hkg, setRow_other _ g k _ hkg]
  have hin : i ≤ n := by omega
  have E := Lib.hid hend
  have hw1 : IntKind.i64.wrap ((i : Int) + 1) = (i : Int) + 1 := by rw [IntKind.wrap_i64]; omega
  have hb1 : (0 : Int) ≤ (i : Int) + 1 := by omega
  have htn : ((i : Int) + 1).toNat = i + 1 := by omega
  have hb2 : ¬ (c = i + 1) := by omega
  have hb3 : (i : Int) ≤ (n : Int) + 1 := by omega
  have hb4 : ¬ (c = i) := by omega
  have mixed := mixed
  have hcpd := fun ty dc sc => hcp1 w.drew rfl ty dc sc
  have hcpe := fun ty dc => hcp2' (w.drew.setRow g R2) rfl ty dc
  clear hcp1 hcp2 hcp2' hfin hend
  clear hsrc1 hln1 hR2 hR3 hg hg2 htake htake2
  go_enter Try.func45, Try.ntmps45
  go_wp2_with (simp only [hov])
  go_region_law_o (refine step_copy_runI rfl _ _ 23 23 rfl _ _ (by simp [Act.eval, Act.put]) (by simp [Act.eval, Act.put]) (hcpd _ _ _) ?_)
  go_wp2_with (at_builtin; refine wpList_copy_runI _ rfl _ _ 23 23 rfl _ _ rfl rfl (hcpe _ _) ?_)
  go_ret
  exact E.out _ rfl rfl rfl rfl
set_option maxHeartbeats 4000000 in
set_option maxRecDepth 100000 in
theorem ins_growPiece (w : World) (g n c i g2 c2 : Nat) (xs : List Int) (y z : Int) (cur cur2 : Array Value) (hl : xs.length = n * 2) (hb : n ≤ 100000) (hi : i < n) (hroom : c < n + 1) (hnc : n ≤ c) (hne : g2 ≠ g)
    (hg : w.heap[g]? = some (.cells cur 38 (0, 0))) (hcs : cur.size = c * 2) (htake : cur.toList.take (n * 2) = xs.map (Value.int .i64))
    (hg2 : w.heap[g2]? = some (.cells cur2 38 (0, 0))) (htake2 : cur2.toList.take 2 = [y, z].map (Value.int .i64)) :
    Calls Try.prog 45 #[.slice (some ⟨g, 0, none⟩) n c, .int .i64 (i : Int), .slice (some ⟨g2, 0, none⟩) 1 c2] w (RetIns w ⟨some ⟨g, 0, none⟩, c, none⟩ 38 (xs.take (i * 2) ++ [y, z] ++ xs.drop (i * 2))) := by
  obtain ⟨i0, hi0, hz0, hzs, hzb⟩ := pairInfoPiece
  have hsz : (Try.prog.info? 38).map (·.size) = some 2 := by rw [hi0]; simp [hzs]
  have tint : TInt Try.prog 3 := tauOK 3 _ rfl
  have hgl : g < w.heap.size := (Array.getElem?_eq_some_iff.1 hg).1
  have hgl2 : g2 < w.heap.size := (Array.getElem?_eq_some_iff.1 hg2).1
  have m1 : Nat.min 1 (n + 1 - i) = 1 := by show min _ _ = _; omega
  have m2 : Nat.min (n - i) (n - i) = n - i := by show min _ _ = _; omega
  have hold : (Builtin.firstCells i0.size i (.slice (some ⟨g, 0, none⟩) i c)).run Try.prog w.drew = .ok ((xs.take (i * 2)).map (Value.int .i64)).toArray w.drew := by
    rw [hzs]
    exact run_firstCells_some w.drew 2 i ⟨g, 0, none⟩ i c ((xs.take (i * 2)).map (Value.int .i64)) (by simp; omega) (fun j v hj => by
      rw [Addr.add_lit, Nat.zero_add]
      refine row_cell (w := w) hg htake j v ?_
      rw [List.getElem?_map, List.getElem?_take] at hj
      rw [List.getElem?_map]
      split at hj
      · exact hj
      · cases hj)
  obtain ⟨G, hG⟩ : ∃ G, G = grownCap w (n + 1) c 38 := ⟨_, rfl⟩
  have hGn : n + 1 ≤ G := by rw [hG]; exact grownCap_ge w _ _ _
  have hG63 : G ≤ maxLen := by rw [hG]; exact grownCap_le_maxLen w (n + 1) c _ (by unfold maxLen; omega)
  obtain ⟨Z, hZ⟩ : ∃ Z : Array Value, Z = Builtin.zeroCells (Value.agg #[.int .i64 0, .int .i64 0]).cells (n + 1 - i) ++ Builtin.zeroCells (Value.agg #[.int .i64 0, .int .i64 0]).cells (G - (n + 1)) := ⟨_, rfl⟩
  have hZs : Z.size = (G - i) * 2 := by
    rw [hZ]; simp [Builtin.zeroCells, Value.cells]; omega
  obtain ⟨ROW, hROW⟩ : ∃ ROW : Array Value, ROW = ((xs.take (i * 2)).map (Value.int .i64)).toArray ++ Z := ⟨_, rfl⟩
  have hrz : ∀ ty, (Builtin.append_ #[23, 3] ty #[.slice (some ⟨g, 0, none⟩) i c, .int .i64 ((n : Int) + 1 - (i : Int))]).run Try.prog w = .ok (.slice (some ⟨w.heap.size, 0, none⟩) (n + 1) G) (w.drew.alloc (.cells ROW 38)) := fun ty => by
    have h := Lib.run_append_grow_zeros w 23 3 ty 38 i0 _ .i64 .i64 Try.underlying23 tint.und hi0 hz0 (some ⟨g, 0, none⟩) i c ((xs.take (i * 2)).map (Value.int .i64)) hold (n + 1 - i) (by omega) (by omega) (by omega) (by omega) (by rw [hzb]; omega)
      (by rw [hzb, show i + (n + 1 - i) = n + 1 by omega]; exact growslice_fits (by omega) (by omega))
    rw [show i + (n + 1 - i) = n + 1 by omega, ← hG] at h
    rw [show (n : Int) + 1 - (i : Int) = ((n + 1 - i : Nat) : Int) by omega, hROW, hZ, ← Array.append_assoc]
    exact h
  obtain ⟨R2, hR2⟩ : ∃ R2 : Array Value, R2 = (ROW.toList.take (i * 2) ++ [y, z].map (Value.int .i64) ++ ROW.toList.drop (i * 2 + ([y, z].map (Value.int .i64)).length)).toArray := ⟨_, rfl⟩
  obtain ⟨R3, hR3⟩ : ∃ R3 : Array Value, R3 = (R2.toList.take ((i + 1) * 2) ++ (xs.drop (i * 2)).map (Value.int .i64) ++ R2.toList.drop ((i + 1) * 2 + ((xs.drop (i * 2)).map (Value.int .i64)).length)).toArray := ⟨_, rfl⟩
  have hlist := grow_list (xs := xs.map (Value.int .i64)) (vs := [y, z].map (Value.int .i64)) (Z := Z.toList) (k := i * 2) (m := n * 2) (by omega) (by simp) (by simp [hl]) (by simp [hZs]; omega) (ROW := ROW.toList) (R2 := R2.toList) (R3 := R3.toList) (by rw [hROW]; simp [List.map_take]) (by rw [hR2]) (by rw [hR3]; simp [List.map_drop, show (i + 1) * 2 = i * 2 + 2 by omega])
  have hROWs : ROW.size = G * 2 := by rw [hROW]; simp [hZs]; omega
  have hR2s : R2.size = G * 2 := by have := hlist.2.1; simp [hZs] at this; omega
  have hR3s : R3.size = G * 2 := by have := hlist.2.2; simp [hZs] at this; omega
  have hA : (w.alloc (.cells ROW 38)).drew.heap[w.heap.size]? = some (.cells ROW 38 (0, 0)) := heap_alloc_new w _
  have hB : ∀ k, k < w.heap.size → (w.alloc (.cells ROW 38)).drew.heap[k]? = w.heap[k]? := fun k hk => by
    show (w.heap.push _)[k]? = _
    rw [Array.getElem?_push_lt hk, Array.getElem?_eq_getElem hk]
  have hcpA := fun ty dc => show (Builtin.copy_ #[23, 23] ty #[.slice (some ⟨w.heap.size, i * 2, none⟩) (n + 1 - i) dc, .slice (some ⟨g2, 0, none⟩) 1 c2]).run Try.prog (w.alloc (.cells ROW 38)).drew = .ok (goInt (Nat.min 1 (n + 1 - i) : Nat)) ((w.alloc (.cells ROW 38)).drew.setRow w.heap.size R2) by
    rw [hR2]
    exact run_copy_row2 _ _ _ ty 38 w.heap.size (i * 2) (n + 1 - i) dc ⟨g2, 0, none⟩ 1 c2 ROW 38 _ Try.underlying23 hsz hA (by rw [m1]; rfl)
      (fun j v hj => by rw [Addr.add_lit, Nat.zero_add]; exact row_cell ((hB g2 hgl2).trans hg2) htake2 j v hj) (by simp [hROWs]; omega) (int_one _)
  have hA2 : ((w.alloc (.cells ROW 38)).drew.setRow w.heap.size R2).drew.heap[w.heap.size]? = some (.cells R2 38 (0, 0)) := setRow_heap _ _ _ _ _ _ hA
  have hB2 : ∀ k, k < w.heap.size → ((w.alloc (.cells ROW 38)).drew.setRow w.heap.size R2).drew.heap[k]? = w.heap[k]? := fun k hk => (setRow_other _ _ k _ (by omega)).trans (hB k hk)
  have hcpB := fun ty dc sc => show (Builtin.copy_ #[23, 23] ty #[.slice (some ⟨w.heap.size, (i + 1) * 2, none⟩) (n - i) dc, .slice (some ⟨g, i * 2, none⟩) (n - i) sc]).run Try.prog ((w.alloc (.cells ROW 38)).drew.setRow w.heap.size R2).drew = .ok (goInt (Nat.min (n - i) (n - i) : Nat)) (((w.alloc (.cells ROW 38)).drew.setRow w.heap.size R2).drew.setRow w.heap.size R3) by
    rw [hR3]
    exact run_copy_row2 _ _ _ ty 38 w.heap.size ((i + 1) * 2) (n - i) dc ⟨g, i * 2, none⟩ (n - i) sc R2 38 _ Try.underlying23 hsz hA2 (by rw [m2]; simp; omega)
      (fun j v hj => by
        rw [Addr.add_lit]
        refine row_cell ((hB2 g hgl).trans hg) htake _ v ?_
        rw [List.getElem?_map, List.getElem?_drop] at hj
        rw [List.getElem?_map]; exact hj) (by simp [hR2s]; omega) (int_one _)
  have hend : ∀ W : World, W.os = w.os → W.tape = w.tape → W.output = w.output → W.heap = (((w.alloc (.cells ROW 38)).drew.setRow w.heap.size R2).drew.setRow w.heap.size R3).heap → RetIns w ⟨some ⟨g, 0, none⟩, c, none⟩ 38 (xs.take (i * 2) ++ [y, z] ++ xs.drop (i * 2)) (.returned (.slice (some ⟨w.heap.size, 0, none⟩) (n + 1) G)) W := fun W h1 h2 h3 h4 => by
    refine ⟨_, _, _, rfl, ⟨by simp [hl]; omega, .inr ⟨w.heap.size, G, R3, rfl, Nat.zero_le _, ?_, hGn, hG63, hR3s, ?_⟩⟩, ⟨h1, h2, h3, by rw [h4]; simp [World.setRow], fun k hk hne' => ?_⟩, .inr ⟨_, rfl, Nat.le_refl _⟩⟩
    · rw [h4]; exact setRow_heap _ _ _ _ _ _ hA2
    · rw [show (n + 1) * 2 = n * 2 + 2 by omega, hlist.1]; simp [List.map_take, List.map_drop]
    · rw [h4]; exact (setRow_other _ _ k _ (by omega)).trans (hB2 k hk)
  have E := Lib.hid hend
  unfold maxLen at hG63
  have hw1 : IntKind.i64.wrap ((i : Int) + 1) = (i : Int) + 1 := by rw [IntKind.wrap_i64]; omega
  have hb1 : (0 : Int) ≤ (i : Int) + 1 := by omega
  have htn : ((i : Int) + 1).toNat = i + 1 := by omega
  have hz3 : (c : Int) < (n : Int) + 1 := by omega
  have hc63 : c ≤ 9223372036854775807 := by omega
  have hGi : ¬ (G = i) := by omega
  have hGim : ¬ (G = i + 1) := by omega
  have hci : ¬ (c = i) := by omega
  have hin : i ≤ n := by omega
  have mixed := mixed
  clear hold hG hZ hZs hROW hR2 hR3 hlist hROWs hR2s hR3s hA hB hA2 hB2 hend hg hg2 htake htake2 hcs
  go_enter Try.func45, Try.ntmps45
  go_wp2_with (first
    | (at_builtin; refine Lib.wpList_append_run _ rfl _ _ _ _ rfl _ _ rfl rfl _ _ (hrz _) ?_)
    | (at_builtin; refine wpList_copy_runI _ rfl _ _ 23 23 rfl _ _ rfl rfl (hcpA _ _) ?_))
  go_region_law_o (refine step_copy_runI rfl _ _ 23 23 rfl _ _ (by simp [Act.eval, Act.put]) (by simp [Act.eval, Act.put]) (hcpB _ _ _) ?_)
  go_wp2
  go_ret
  exact E.out _ rfl rfl rfl rfl
theorem DIns.ofCPiece {fn : Func} {c : Code} (hf : Try.prog.funcs[45]? = some fn) (hb : fn.body = some c) (hname : (fn.name == "runtime.NumGoroutine") = false)
    (h : ∀ (w : World) (r r2 : Loc) (n i : Nat) (xs : List Int) (y z : Int), xs.length = n * 2 → n ≤ 100000 → 0 < n → i ≤ n → ORel w r (.row 38 2 xs) → ORel w r2 (.row 38 2 [y, z]) → (∀ g, r.blk = some g → r2.blk ≠ some g) →
      Calls Try.prog 45 #[.slice r.a n r.cap, .int .i64 (i : Int), .slice r2.a 1 r2.cap] w (RetIns w r 38 (xs.take (i * 2) ++ [y, z] ++ xs.drop (i * 2)))) : DIns Try.prog 45 38 where
  ent args w := by
    have hn : ¬ fn.name = "runtime.NumGoroutine" := by simpa using hname
    simp [callFunc, hf, hb, hn]
  calls := h
theorem ins_dPiece : DIns Try.prog 45 38 := by
  refine DIns.ofCPiece Try.func45 rfl (by kernel_rfl) ?_
  intro w r r2 n i xs y z hl hb hn0 hi h1 h2 hne
  obtain ⟨n0, hown⟩ := h1
  obtain ⟨n1, hown2⟩ := h2
  obtain rfl : n0 = n := by
    have h3 : xs.length = n0 * 2 := by simpa using hown.1
    omega
  have hn1 : n1 = 1 := by
    have h3 : [y, z].length = n1 * 2 := by simpa using hown2.1
    simp at h3; omega
  subst hn1
  obtain ⟨ra, rc, rb⟩ := r
  obtain ⟨ra2, rc2, rb2⟩ := r2
  dsimp only at hown hown2
  rcases hown.2 with ⟨_, h0⟩ | ⟨g, cap, cur, e1, _, e3, e4, e5, e6, e7⟩
  · omega
  rcases hown2.2 with ⟨_, h0⟩ | ⟨g2, cap2, cur2, f1, _, f3, f4, f5, f6, f7⟩
  · omega
  injection e1 with e1 _ ec
  injection f1 with f1 _ fc
  subst e1 ec f1 fc
  have hgg : g2 ≠ g := fun e => hne g rfl (by rw [e]; rfl)
  have key : ∀ (r : Loc) (e : Nat) , True := fun _ _ => trivial
  show Calls _ _ #[.slice (some ⟨g, 0, none⟩) n0 rc, .int .i64 (i : Int), .slice (some ⟨g2, 0, none⟩) 1 rc2] w _
  by_cases hin : i = n0
  · subst hin
    have h3 := ins_endPiece w g i rc g2 rc2 xs y z hl hb hown (fun j hj => by
      have h4 := row_cell f3 f7 j (.int .i64 ([y, z].getD j 0)) (by
        have : j = 0 ∨ j = 1 := by omega
        rcases this with rfl | rfl <;> rfl)
      rw [Nat.zero_add]; exact h4)
    rw [List.take_of_length_le (by omega), List.drop_of_length_le (by omega), List.append_nil]
    exact h3.mono fun e w' h => h
  · by_cases hroom : n0 + 1 ≤ rc
    · exact (ins_shiftPiece w g n0 rc i g2 rc2 xs y z cur cur2 hl hb (by omega) hroom e5 hgg e3 e6 e7 f3 f7).mono fun e w' h => h
    · exact (ins_growPiece w g n0 rc i g2 rc2 xs y z cur cur2 hl hb (by omega) (by omega) e4 hgg e3 e6 e7 f3 f7).mono fun e w' h => h
end Go.Proofs.Ytionljjdfgeggaa
