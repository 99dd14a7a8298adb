/-
  Closed facts on this seat's program that the last step of every row asks: what the head of the translation says, and that nothing bars the entry. Each is proved apart, so that no one of them wants much memory.
-/
import Derived.Test.YtidcomcnieggaaaRows
import Derived.ProofKit
import Derived.JoinedOf
namespace Go.Proofs.Ytidcomcnieggaaa

theorem words_cons (r : List Char) : ∀ w : List Char, w.all (fun c => !(c == Char.ofNat 32)) = true → wordsSigns (w ++ Char.ofNat 32 :: r) = w :: wordsSigns r
  | [], _ => rfl
  | c :: w, h => by
    simp only [List.all_cons, Bool.and_eq_true, Bool.not_eq_true'] at h
    have hc : c ≠ Char.ofNat 32 := by
      have := h.1
      simpa using this
    have ih := words_cons r w h.2
    rw [List.cons_append, wordsSigns, ih]
    exact hc
set_option maxRecDepth 100000 in
theorem initL : Try.prog.initOrder.toList = [Char.ofNat 104, Char.ofNat 97, Char.ofNat 114, Char.ofNat 110, Char.ofNat 101, Char.ofNat 115, Char.ofNat 115] ++ Char.ofNat 32 :: ([Char.ofNat 99, Char.ofNat 53, Char.ofNat 52, Char.ofNat 48, Char.ofNat 98, Char.ofNat 100, Char.ofNat 56, Char.ofNat 50, Char.ofNat 56, Char.ofNat 97, Char.ofNat 98, Char.ofNat 100, Char.ofNat 57, Char.ofNat 50, Char.ofNat 51, Char.ofNat 55, Char.ofNat 57, Char.ofNat 100, Char.ofNat 97, Char.ofNat 57, Char.ofNat 100, Char.ofNat 48, Char.ofNat 53, Char.ofNat 99, Char.ofNat 100, Char.ofNat 53, Char.ofNat 52, Char.ofNat 53, Char.ofNat 49, Char.ofNat 50, Char.ofNat 52, Char.ofNat 48, Char.ofNat 50, Char.ofNat 98, Char.ofNat 57, Char.ofNat 54, Char.ofNat 52, Char.ofNat 101, Char.ofNat 55, Char.ofNat 55, Char.ofNat 53, Char.ofNat 50, Char.ofNat 49, Char.ofNat 54, Char.ofNat 55, Char.ofNat 54, Char.ofNat 54, Char.ofNat 54, Char.ofNat 102, Char.ofNat 54, Char.ofNat 51, Char.ofNat 97, Char.ofNat 98, Char.ofNat 53, Char.ofNat 53, Char.ofNat 51, Char.ofNat 50, Char.ofNat 97, Char.ofNat 99, Char.ofNat 54, Char.ofNat 54, Char.ofNat 56, Char.ofNat 54, Char.ofNat 102] ++ Char.ofNat 32 :: ([Char.ofNat 99, Char.ofNat 117, Char.ofNat 116] ++ Char.ofNat 32 :: [Char.ofNat 97, Char.ofNat 116, Char.ofNat 32, Char.ofNat 108, Char.ofNat 111, Char.ofNat 111, Char.ofNat 112, Char.ofNat 46, Char.ofNat 101, Char.ofNat 120, Char.ofNat 97, Char.ofNat 109, Char.ofNat 112, Char.ofNat 108, Char.ofNat 101, Char.ofNat 47, Char.ofNat 105, Char.ofNat 99, Char.ofNat 101, Char.ofNat 99, Char.ofNat 111, Char.ofNat 114, Char.ofNat 101, Char.ofNat 115, Char.ofNat 47, Char.ofNat 108, Char.ofNat 97, Char.ofNat 119, Char.ofNat 115, Char.ofNat 46, Char.ofNat 70, Char.ofNat 110, Char.ofNat 67, Char.ofNat 117, Char.ofNat 114, Char.ofNat 118, Char.ofNat 101, Char.ofNat 65, Char.ofNat 100, Char.ofNat 100, Char.ofNat 32, Char.ofNat 108, Char.ofNat 111, Char.ofNat 111, Char.ofNat 112, Char.ofNat 46, Char.ofNat 101, Char.ofNat 120, Char.ofNat 97, Char.ofNat 109, Char.ofNat 112, Char.ofNat 108, Char.ofNat 101, Char.ofNat 47, Char.ofNat 105, Char.ofNat 99, Char.ofNat 101, Char.ofNat 99, Char.ofNat 111, Char.ofNat 114, Char.ofNat 101, Char.ofNat 115, Char.ofNat 47, Char.ofNat 108, Char.ofNat 97, Char.ofNat 119, Char.ofNat 115, Char.ofNat 46, Char.ofNat 70, Char.ofNat 110, Char.ofNat 67, Char.ofNat 117, Char.ofNat 114, Char.ofNat 118, Char.ofNat 101, Char.ofNat 84, Char.ofNat 117, Char.ofNat 114, Char.ofNat 110, Char.ofNat 84, Char.ofNat 104, Char.ofNat 101, Char.ofNat 110, Char.ofNat 32, Char.ofNat 108, Char.ofNat 111, Char.ofNat 111, Char.ofNat 112, Char.ofNat 46, Char.ofNat 101, Char.ofNat 120, Char.ofNat 97, Char.ofNat 109, Char.ofNat 112, Char.ofNat 108, Char.ofNat 101, Char.ofNat 47, Char.ofNat 105, Char.ofNat 99, Char.ofNat 101, Char.ofNat 99, Char.ofNat 111, Char.ofNat 114, Char.ofNat 101, Char.ofNat 115, Char.ofNat 47, Char.ofNat 108, Char.ofNat 97, Char.ofNat 119, Char.ofNat 115, Char.ofNat 46, Char.ofNat 70, Char.ofNat 110, Char.ofNat 76, Char.ofNat 101, Char.ofNat 97, Char.ofNat 110, Char.ofNat 32, Char.ofNat 108, Char.ofNat 111, Char.ofNat 111, Char.ofNat 112, Char.ofNat 46, Char.ofNat 101, Char.ofNat 120, Char.ofNat 97, Char.ofNat 109, Char.ofNat 112, Char.ofNat 108, Char.ofNat 101, Char.ofNat 47, Char.ofNat 105, Char.ofNat 99, Char.ofNat 101, Char.ofNat 99, Char.ofNat 111, Char.ofNat 114, Char.ofNat 101, Char.ofNat 115, Char.ofNat 47, Char.ofNat 108, Char.ofNat 97, Char.ofNat 119, Char.ofNat 115, Char.ofNat 46, Char.ofNat 70, Char.ofNat 110, Char.ofNat 65, Char.ofNat 116, Char.ofNat 69, Char.ofNat 110, Char.ofNat 100, Char.ofNat 115, Char.ofNat 32, Char.ofNat 108, Char.ofNat 111, Char.ofNat 111, Char.ofNat 112, Char.ofNat 46, Char.ofNat 101, Char.ofNat 120, Char.ofNat 97, Char.ofNat 109, Char.ofNat 112, Char.ofNat 108, Char.ofNat 101, Char.ofNat 47, Char.ofNat 105, Char.ofNat 99, Char.ofNat 101, Char.ofNat 99, Char.ofNat 111, Char.ofNat 114, Char.ofNat 101, Char.ofNat 115, Char.ofNat 47, Char.ofNat 108, Char.ofNat 97, Char.ofNat 119, Char.ofNat 115, Char.ofNat 46, Char.ofNat 70, Char.ofNat 110, Char.ofNat 69, Char.ofNat 120, Char.ofNat 97, Char.ofNat 99, Char.ofNat 116, Char.ofNat 67, Char.ofNat 117, Char.ofNat 114, Char.ofNat 118, Char.ofNat 101, Char.ofNat 84, Char.ofNat 104, Char.ofNat 101, Char.ofNat 110, Char.ofNat 32, Char.ofNat 108, Char.ofNat 111, Char.ofNat 111, Char.ofNat 112, Char.ofNat 46, Char.ofNat 101, Char.ofNat 120, Char.ofNat 97, Char.ofNat 109, Char.ofNat 112, Char.ofNat 108, Char.ofNat 101, Char.ofNat 47, Char.ofNat 105, Char.ofNat 99, Char.ofNat 101, Char.ofNat 99, Char.ofNat 111, Char.ofNat 114, Char.ofNat 101, Char.ofNat 115, Char.ofNat 47, Char.ofNat 108, Char.ofNat 97, Char.ofNat 119, Char.ofNat 115, Char.ofNat 46, Char.ofNat 70, Char.ofNat 110, Char.ofNat 84, Char.ofNat 104, Char.ofNat 101, Char.ofNat 110, Char.ofNat 32, Char.ofNat 108, Char.ofNat 111, Char.ofNat 111, Char.ofNat 112, Char.ofNat 46, Char.ofNat 101, Char.ofNat 120, Char.ofNat 97, Char.ofNat 109, Char.ofNat 112, Char.ofNat 108, Char.ofNat 101, Char.ofNat 47, Char.ofNat 105, Char.ofNat 99, Char.ofNat 101, Char.ofNat 99, Char.ofNat 111, Char.ofNat 114, Char.ofNat 101, Char.ofNat 115, Char.ofNat 47, Char.ofNat 108, Char.ofNat 97, Char.ofNat 119, Char.ofNat 115, Char.ofNat 46, Char.ofNat 70, Char.ofNat 110, Char.ofNat 84, Char.ofNat 104, Char.ofNat 101, Char.ofNat 110, Char.ofNat 82, Char.ofNat 105, Char.ofNat 115, Char.ofNat 101, Char.ofNat 115, Char.ofNat 32, Char.ofNat 108, Char.ofNat 111, Char.ofNat 111, Char.ofNat 112, Char.ofNat 46, Char.ofNat 101, Char.ofNat 120, Char.ofNat 97, Char.ofNat 109, Char.ofNat 112, Char.ofNat 108, Char.ofNat 101, Char.ofNat 47, Char.ofNat 105, Char.ofNat 99, Char.ofNat 101, Char.ofNat 99, Char.ofNat 111, Char.ofNat 114, Char.ofNat 101, Char.ofNat 115, Char.ofNat 47, Char.ofNat 108, Char.ofNat 97, Char.ofNat 119, Char.ofNat 115, Char.ofNat 46, Char.ofNat 70, Char.ofNat 110, Char.ofNat 84, Char.ofNat 104, Char.ofNat 101, Char.ofNat 110, Char.ofNat 76, Char.ofNat 105, Char.ofNat 110, Char.ofNat 101, Char.ofNat 32, Char.ofNat 108, Char.ofNat 111, Char.ofNat 111, Char.ofNat 112, Char.ofNat 46, Char.ofNat 101, Char.ofNat 120, Char.ofNat 97, Char.ofNat 109, Char.ofNat 112, Char.ofNat 108, Char.ofNat 101, Char.ofNat 47, Char.ofNat 105, Char.ofNat 99, Char.ofNat 101, Char.ofNat 99, Char.ofNat 111, Char.ofNat 114, Char.ofNat 101, Char.ofNat 115, Char.ofNat 47, Char.ofNat 108, Char.ofNat 97, Char.ofNat 119, Char.ofNat 115, Char.ofNat 46, Char.ofNat 70, Char.ofNat 110, Char.ofNat 84, Char.ofNat 104, Char.ofNat 101, Char.ofNat 110, Char.ofNat 66, Char.ofNat 97, Char.ofNat 99, Char.ofNat 107])) := String.toList_ofList
theorem initW : ∃ rest, wordsSigns Try.prog.initOrder.toList = [Char.ofNat 104, Char.ofNat 97, Char.ofNat 114, Char.ofNat 110, Char.ofNat 101, Char.ofNat 115, Char.ofNat 115] :: [Char.ofNat 99, Char.ofNat 53, Char.ofNat 52, Char.ofNat 48, Char.ofNat 98, Char.ofNat 100, Char.ofNat 56, Char.ofNat 50, Char.ofNat 56, Char.ofNat 97, Char.ofNat 98, Char.ofNat 100, Char.ofNat 57, Char.ofNat 50, Char.ofNat 51, Char.ofNat 55, Char.ofNat 57, Char.ofNat 100, Char.ofNat 97, Char.ofNat 57, Char.ofNat 100, Char.ofNat 48, Char.ofNat 53, Char.ofNat 99, Char.ofNat 100, Char.ofNat 53, Char.ofNat 52, Char.ofNat 53, Char.ofNat 49, Char.ofNat 50, Char.ofNat 52, Char.ofNat 48, Char.ofNat 50, Char.ofNat 98, Char.ofNat 57, Char.ofNat 54, Char.ofNat 52, Char.ofNat 101, Char.ofNat 55, Char.ofNat 55, Char.ofNat 53, Char.ofNat 50, Char.ofNat 49, Char.ofNat 54, Char.ofNat 55, Char.ofNat 54, Char.ofNat 54, Char.ofNat 54, Char.ofNat 102, Char.ofNat 54, Char.ofNat 51, Char.ofNat 97, Char.ofNat 98, Char.ofNat 53, Char.ofNat 53, Char.ofNat 51, Char.ofNat 50, Char.ofNat 97, Char.ofNat 99, Char.ofNat 54, Char.ofNat 54, Char.ofNat 56, Char.ofNat 54, Char.ofNat 102] :: [Char.ofNat 99, Char.ofNat 117, Char.ofNat 116] :: rest := by
  rw [initL, words_cons _ _ rfl, words_cons _ _ rfl, words_cons _ _ rfl]
  exact ⟨_, rfl⟩
theorem behindM (rest : List (List Char)) : behindMainWord ([Char.ofNat 104, Char.ofNat 97, Char.ofNat 114, Char.ofNat 110, Char.ofNat 101, Char.ofNat 115, Char.ofNat 115] :: [Char.ofNat 99, Char.ofNat 53, Char.ofNat 52, Char.ofNat 48, Char.ofNat 98, Char.ofNat 100, Char.ofNat 56, Char.ofNat 50, Char.ofNat 56, Char.ofNat 97, Char.ofNat 98, Char.ofNat 100, Char.ofNat 57, Char.ofNat 50, Char.ofNat 51, Char.ofNat 55, Char.ofNat 57, Char.ofNat 100, Char.ofNat 97, Char.ofNat 57, Char.ofNat 100, Char.ofNat 48, Char.ofNat 53, Char.ofNat 99, Char.ofNat 100, Char.ofNat 53, Char.ofNat 52, Char.ofNat 53, Char.ofNat 49, Char.ofNat 50, Char.ofNat 52, Char.ofNat 48, Char.ofNat 50, Char.ofNat 98, Char.ofNat 57, Char.ofNat 54, Char.ofNat 52, Char.ofNat 101, Char.ofNat 55, Char.ofNat 55, Char.ofNat 53, Char.ofNat 50, Char.ofNat 49, Char.ofNat 54, Char.ofNat 55, Char.ofNat 54, Char.ofNat 54, Char.ofNat 54, Char.ofNat 102, Char.ofNat 54, Char.ofNat 51, Char.ofNat 97, Char.ofNat 98, Char.ofNat 53, Char.ofNat 53, Char.ofNat 51, Char.ofNat 50, Char.ofNat 97, Char.ofNat 99, Char.ofNat 54, Char.ofNat 54, Char.ofNat 56, Char.ofNat 54, Char.ofNat 102] :: [Char.ofNat 99, Char.ofNat 117, Char.ofNat 116] :: rest) = [Char.ofNat 99, Char.ofNat 117, Char.ofNat 116] :: rest := by kernel_rfl
theorem stripC (rest : List (List Char)) : stripLifts liftWords ([Char.ofNat 99, Char.ofNat 117, Char.ofNat 116] :: rest) = ([], [Char.ofNat 99, Char.ofNat 117, Char.ofNat 116] :: rest) := by kernel_rfl
theorem noLater : Try.prog.laysLater = false := by kernel_rfl
theorem noReflect : Try.prog.bearsReflect = false := by kernel_rfl
theorem doorOk : Try.prog.doorFits [] = true := by kernel_rfl
theorem mayEnter_of {P : Program} {rest : List (List Char)} (h : behindMainWord (wordsSigns P.initOrder.toList) = [Char.ofNat 99, Char.ofNat 117, Char.ofNat 116] :: rest) (h1 : P.laysLater = false) (h2 : P.bearsReflect = false) (h3 : P.doorFits [] = true) : P.mayEnter = true := by
  unfold Program.mayEnter
  rw [h]
  dsimp only
  rw [stripC, h1, h2, h3]
  rfl
theorem lifts_of {P : Program} {rest : List (List Char)} (h : behindMainWord (wordsSigns P.initOrder.toList) = [Char.ofNat 99, Char.ofNat 117, Char.ofNat 116] :: rest) : P.liftsFinal = false := by
  unfold Program.liftsFinal Program.headLifts
  rw [h]
  dsimp only
  rw [stripC]
  rfl
theorem make_of {P : Program} {rest : List (List Char)} (h : behindMainWord (wordsSigns P.initOrder.toList) = [Char.ofNat 99, Char.ofNat 117, Char.ofNat 116] :: rest) : P.make = some .cut := by
  unfold Program.make
  rw [h]
  rfl
theorem initB : ∃ rest, behindMainWord (wordsSigns Try.prog.initOrder.toList) = [Char.ofNat 99, Char.ofNat 117, Char.ofNat 116] :: rest := by
  obtain ⟨rest, h⟩ := initW
  exact ⟨rest, by rw [h, behindM]⟩
theorem mayEnter_ok : Try.prog.mayEnter = true := by
  obtain ⟨rest, h⟩ := initB
  exact mayEnter_of h noLater noReflect doorOk
theorem lifts_ok : Try.prog.liftsFinal = false := by
  obtain ⟨rest, h⟩ := initB
  exact lifts_of h
theorem make_ok : Try.prog.make = some .cut := by
  obtain ⟨rest, h⟩ := initB
  exact make_of h
theorem laidOut_ok : laidOutB Try.prog = true := by kernel_rfl
theorem mapsRowed_ok : mapsRowed Try.prog = true := by kernel_rfl
theorem stopsHeard_ok : Try.prog.stopsHeard = true := by kernel_rfl
theorem own_ok : ownKnob Try.prog.godebug = none := by kernel_rfl
theorem aa {a b : Bool} (h1 : a = true) (h2 : b = true) : (a && b) = true := by rw [h1, h2]; rfl
end Go.Proofs.Ytidcomcnieggaaa
