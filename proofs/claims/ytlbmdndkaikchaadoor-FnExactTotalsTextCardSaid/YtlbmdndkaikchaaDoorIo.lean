/- The head of the dump as a list of words, and what the claims ask of it. -/
import Derived.Test.YtlbmdndkaikchaaDoorRows
import Derived.ProofKit
import Derived.SizedLaws
namespace Go.Proofs.YtlbmdndkaikchaaDoor
open Go Go.RowKit
set_option maxRecDepth 100000
theorem words_cons (s : List Char) : ∀ w : List Char, w.all (· != Char.ofNat 32) = true → wordsSigns (w ++ Char.ofNat 32 :: s) = w :: wordsSigns s
  | [], _ => rfl
  | c :: w, h => by
    simp only [List.all_cons, Bool.and_eq_true, bne_iff_ne, ne_eq] at h
    have ih := words_cons s w h.2
    show wordsSigns (c :: (w ++ Char.ofNat 32 :: s)) = _
    conv => lhs; unfold wordsSigns
    split
    · next e => cases e
    · next e => injection e with e1 e2; exact absurd e1 h.1
    · next c' r' _ e => injection e with e1 e2; subst e1; subst e2; rw [ih]
theorem io : Tryd.pinned.checked.prog.initOrder.toList = [Char.ofNat 104, Char.ofNat 97, Char.ofNat 114, Char.ofNat 110, Char.ofNat 101, Char.ofNat 115, Char.ofNat 115] ++ Char.ofNat 32 :: ([Char.ofNat 53, Char.ofNat 101, Char.ofNat 99, Char.ofNat 52, Char.ofNat 53, Char.ofNat 50, Char.ofNat 50, Char.ofNat 102, Char.ofNat 101, Char.ofNat 98, Char.ofNat 48, Char.ofNat 48, Char.ofNat 98, Char.ofNat 55, Char.ofNat 99, Char.ofNat 101, Char.ofNat 98, Char.ofNat 57, Char.ofNat 52, Char.ofNat 100, Char.ofNat 102, Char.ofNat 48, Char.ofNat 51, Char.ofNat 56, Char.ofNat 100, Char.ofNat 51, Char.ofNat 101, Char.ofNat 100, Char.ofNat 97, Char.ofNat 101, Char.ofNat 52, Char.ofNat 50, Char.ofNat 55, Char.ofNat 102, Char.ofNat 48, Char.ofNat 51, Char.ofNat 99, Char.ofNat 53, Char.ofNat 55, Char.ofNat 99, Char.ofNat 54, Char.ofNat 53, Char.ofNat 98, Char.ofNat 54, Char.ofNat 100, Char.ofNat 97, Char.ofNat 49, Char.ofNat 52, Char.ofNat 54, Char.ofNat 99, Char.ofNat 98, Char.ofNat 50, Char.ofNat 99, Char.ofNat 102, Char.ofNat 102, Char.ofNat 100, Char.ofNat 49, Char.ofNat 98, Char.ofNat 98, Char.ofNat 57, Char.ofNat 49, Char.ofNat 99, Char.ofNat 99, Char.ofNat 53] ++ Char.ofNat 32 :: ([Char.ofNat 99, Char.ofNat 117, Char.ofNat 116] ++ Char.ofNat 32 :: [Char.ofNat 97, Char.ofNat 116, Char.ofNat 32, Char.ofNat 108, Char.ofNat 111, Char.ofNat 111, Char.ofNat 112, Char.ofNat 46, Char.ofNat 101, Char.ofNat 120, Char.ofNat 97, Char.ofNat 109, Char.ofNat 112, Char.ofNat 108, Char.ofNat 101, Char.ofNat 47, Char.ofNat 103, Char.ofNat 48, Char.ofNat 49, Char.ofNat 50, Char.ofNat 55, Char.ofNat 56, Char.ofNat 47, Char.ofNat 108, Char.ofNat 97, Char.ofNat 119, Char.ofNat 115, Char.ofNat 46, Char.ofNat 70, Char.ofNat 110, Char.ofNat 69, Char.ofNat 120, Char.ofNat 97, Char.ofNat 99, Char.ofNat 116, Char.ofNat 84, Char.ofNat 111, Char.ofNat 116, Char.ofNat 97, Char.ofNat 108, Char.ofNat 115, Char.ofNat 84, Char.ofNat 101, Char.ofNat 120, Char.ofNat 116])) := by
  have h : Tryd.pinned.checked.prog.initOrder = String.ofList ([Char.ofNat 104, Char.ofNat 97, Char.ofNat 114, Char.ofNat 110, Char.ofNat 101, Char.ofNat 115, Char.ofNat 115] ++ Char.ofNat 32 :: ([Char.ofNat 53, Char.ofNat 101, Char.ofNat 99, Char.ofNat 52, Char.ofNat 53, Char.ofNat 50, Char.ofNat 50, Char.ofNat 102, Char.ofNat 101, Char.ofNat 98, Char.ofNat 48, Char.ofNat 48, Char.ofNat 98, Char.ofNat 55, Char.ofNat 99, Char.ofNat 101, Char.ofNat 98, Char.ofNat 57, Char.ofNat 52, Char.ofNat 100, Char.ofNat 102, Char.ofNat 48, Char.ofNat 51, Char.ofNat 56, Char.ofNat 100, Char.ofNat 51, Char.ofNat 101, Char.ofNat 100, Char.ofNat 97, Char.ofNat 101, Char.ofNat 52, Char.ofNat 50, Char.ofNat 55, Char.ofNat 102, Char.ofNat 48, Char.ofNat 51, Char.ofNat 99, Char.ofNat 53, Char.ofNat 55, Char.ofNat 99, Char.ofNat 54, Char.ofNat 53, Char.ofNat 98, Char.ofNat 54, Char.ofNat 100, Char.ofNat 97, Char.ofNat 49, Char.ofNat 52, Char.ofNat 54, Char.ofNat 99, Char.ofNat 98, Char.ofNat 50, Char.ofNat 99, Char.ofNat 102, Char.ofNat 102, Char.ofNat 100, Char.ofNat 49, Char.ofNat 98, Char.ofNat 98, Char.ofNat 57, Char.ofNat 49, Char.ofNat 99, Char.ofNat 99, Char.ofNat 53] ++ Char.ofNat 32 :: ([Char.ofNat 99, Char.ofNat 117, Char.ofNat 116] ++ Char.ofNat 32 :: [Char.ofNat 97, Char.ofNat 116, Char.ofNat 32, Char.ofNat 108, Char.ofNat 111, Char.ofNat 111, Char.ofNat 112, Char.ofNat 46, Char.ofNat 101, Char.ofNat 120, Char.ofNat 97, Char.ofNat 109, Char.ofNat 112, Char.ofNat 108, Char.ofNat 101, Char.ofNat 47, Char.ofNat 103, Char.ofNat 48, Char.ofNat 49, Char.ofNat 50, Char.ofNat 55, Char.ofNat 56, Char.ofNat 47, Char.ofNat 108, Char.ofNat 97, Char.ofNat 119, Char.ofNat 115, Char.ofNat 46, Char.ofNat 70, Char.ofNat 110, Char.ofNat 69, Char.ofNat 120, Char.ofNat 97, Char.ofNat 99, Char.ofNat 116, Char.ofNat 84, Char.ofNat 111, Char.ofNat 116, Char.ofNat 97, Char.ofNat 108, Char.ofNat 115, Char.ofNat 84, Char.ofNat 101, Char.ofNat 120, Char.ofNat 116]))) := by kernel_rfl
  rw [h, String.toList_ofList]
theorem io_words : ∃ rest, wordsSigns Tryd.pinned.checked.prog.initOrder.toList = [Char.ofNat 104, Char.ofNat 97, Char.ofNat 114, Char.ofNat 110, Char.ofNat 101, Char.ofNat 115, Char.ofNat 115] :: [Char.ofNat 53, Char.ofNat 101, Char.ofNat 99, Char.ofNat 52, Char.ofNat 53, Char.ofNat 50, Char.ofNat 50, Char.ofNat 102, Char.ofNat 101, Char.ofNat 98, Char.ofNat 48, Char.ofNat 48, Char.ofNat 98, Char.ofNat 55, Char.ofNat 99, Char.ofNat 101, Char.ofNat 98, Char.ofNat 57, Char.ofNat 52, Char.ofNat 100, Char.ofNat 102, Char.ofNat 48, Char.ofNat 51, Char.ofNat 56, Char.ofNat 100, Char.ofNat 51, Char.ofNat 101, Char.ofNat 100, Char.ofNat 97, Char.ofNat 101, Char.ofNat 52, Char.ofNat 50, Char.ofNat 55, Char.ofNat 102, Char.ofNat 48, Char.ofNat 51, Char.ofNat 99, Char.ofNat 53, Char.ofNat 55, Char.ofNat 99, Char.ofNat 54, Char.ofNat 53, Char.ofNat 98, Char.ofNat 54, Char.ofNat 100, Char.ofNat 97, Char.ofNat 49, Char.ofNat 52, Char.ofNat 54, Char.ofNat 99, Char.ofNat 98, Char.ofNat 50, Char.ofNat 99, Char.ofNat 102, Char.ofNat 102, Char.ofNat 100, Char.ofNat 49, Char.ofNat 98, Char.ofNat 98, Char.ofNat 57, Char.ofNat 49, Char.ofNat 99, Char.ofNat 99, Char.ofNat 53] :: [Char.ofNat 99, Char.ofNat 117, Char.ofNat 116] :: rest := by
  rw [io, words_cons _ _ (by decide), words_cons _ _ (by decide), words_cons _ _ (by decide)]; exact ⟨_, rfl⟩
theorem io_main : ∃ rest, behindMainWord (wordsSigns Tryd.pinned.checked.prog.initOrder.toList) = [Char.ofNat 99, Char.ofNat 117, Char.ofNat 116] :: rest := by
  obtain ⟨rest, h⟩ := io_words; rw [h]; exact ⟨rest, by kernel_rfl⟩
theorem head_of {P : Program} {rest : List (List Char)} (h : behindMainWord (wordsSigns P.initOrder.toList) = [Char.ofNat 99, Char.ofNat 117, Char.ofNat 116] :: rest) : P.headLifts = [] := by
  unfold Program.headLifts; rw [h]; kernel_rfl
theorem lifts_of {P : Program} {rest : List (List Char)} (h : behindMainWord (wordsSigns P.initOrder.toList) = [Char.ofNat 99, Char.ofNat 117, Char.ofNat 116] :: rest) : P.liftsFinal = false := by
  unfold Program.liftsFinal; rw [head_of h, h]; kernel_rfl
theorem make_of {P : Program} {rest : List (List Char)} (h : behindMainWord (wordsSigns P.initOrder.toList) = [Char.ofNat 99, Char.ofNat 117, Char.ofNat 116] :: rest) : P.make = some .cut := by
  unfold Program.make; rw [head_of h, h]; kernel_rfl
theorem enter_of {P : Program} {rest : List (List Char)} (h : behindMainWord (wordsSigns P.initOrder.toList) = [Char.ofNat 99, Char.ofNat 117, Char.ofNat 116] :: rest) (h1 : P.laysLater = false) (h2 : P.bearsReflect = false) (h3 : P.doorFits [] = true) : P.mayEnter = true := by
  unfold Program.mayEnter; rw [h, h1, h2]
  have e : stripLifts liftWords ([Char.ofNat 99, Char.ofNat 117, Char.ofNat 116] :: rest) = ([], [Char.ofNat 99, Char.ofNat 117, Char.ofNat 116] :: rest) := by kernel_rfl
  simp only [e, h3]; rfl
theorem io_lifts : Tryd.pinned.checked.prog.liftsFinal = false := by obtain ⟨rest, h⟩ := io_main; exact lifts_of h
theorem io_make : Tryd.pinned.checked.prog.make = some .cut := by obtain ⟨rest, h⟩ := io_main; exact make_of h
theorem io_later : Tryd.pinned.checked.prog.laysLater = false := by kernel_rfl
theorem io_reflect : Tryd.pinned.checked.prog.bearsReflect = false := by kernel_rfl
theorem io_door : Tryd.pinned.checked.prog.doorFits [] = true := by kernel_rfl
theorem io_enter : Tryd.pinned.checked.prog.mayEnter = true := by obtain ⟨rest, h⟩ := io_main; exact enter_of h io_later io_reflect io_door
end Go.Proofs.YtlbmdndkaikchaaDoor
