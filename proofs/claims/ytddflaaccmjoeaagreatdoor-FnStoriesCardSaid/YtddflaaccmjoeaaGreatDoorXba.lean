/- Several texts, one behind the other. -/
import Derived.Test.YtddflaaccmjoeaaGreatDoorRows
import Derived.ProofKit
import Derived.SizedLaws
import Derived.Test.YtddflaaccmjoeaaGreatDoorProg
import Derived.Test.YtddflaaccmjoeaaGreatDoorXaa
import Derived.Test.YtddflaaccmjoeaaGreatDoorXab
/- The head of the dump as a list of words, and what the claims ask of it. -/
namespace Go.Proofs.YtddflaaccmjoeaaGreatDoor
open Go Go.RowKit
set_option maxRecDepth 100000
theorem words_cons (s : List Char) : ∀ w : List Char, w.all (· != Char.ofNat 32) = true → wordsSigns (w ++ Char.ofNat 32 :: s) = w :: wordsSigns s
  | [], _ => rfl
  | c :: w, h => by
    simp only [List.all_cons, Bool.and_eq_true, bne_iff_ne, ne_eq] at h
    have ih := words_cons s w h.2
    show wordsSigns (c :: (w ++ Char.ofNat 32 :: s)) = _
    conv => lhs; unfold wordsSigns
    split
    · next e => cases e
    · next e => injection e with e1 e2; exact absurd e1 h.1
    · next c' r' _ e => injection e with e1 e2; subst e1; subst e2; rw [ih]
theorem io : Tryz.pinned.checked.prog.initOrder.toList = [Char.ofNat 104, Char.ofNat 97, Char.ofNat 114, Char.ofNat 110, Char.ofNat 101, Char.ofNat 115, Char.ofNat 115] ++ Char.ofNat 32 :: ([Char.ofNat 99, Char.ofNat 57, Char.ofNat 98, Char.ofNat 51, Char.ofNat 101, Char.ofNat 52, Char.ofNat 102, Char.ofNat 49, Char.ofNat 51, Char.ofNat 56, Char.ofNat 50, Char.ofNat 50, Char.ofNat 54, Char.ofNat 97, Char.ofNat 53, Char.ofNat 102, Char.ofNat 48, Char.ofNat 99, Char.ofNat 51, Char.ofNat 51, Char.ofNat 50, Char.ofNat 97, Char.ofNat 56, Char.ofNat 99, Char.ofNat 49, Char.ofNat 98, Char.ofNat 52, Char.ofNat 100, Char.ofNat 101, Char.ofNat 52, Char.ofNat 49, Char.ofNat 99, Char.ofNat 100, Char.ofNat 54, Char.ofNat 54, Char.ofNat 102, Char.ofNat 53, Char.ofNat 99, Char.ofNat 51, Char.ofNat 52, Char.ofNat 102, Char.ofNat 102, Char.ofNat 55, Char.ofNat 53, Char.ofNat 51, Char.ofNat 100, Char.ofNat 97, Char.ofNat 51, Char.ofNat 54, Char.ofNat 55, Char.ofNat 98, Char.ofNat 52, Char.ofNat 52, Char.ofNat 98, Char.ofNat 55, Char.ofNat 100, Char.ofNat 54, Char.ofNat 98, Char.ofNat 53, Char.ofNat 56, Char.ofNat 100, Char.ofNat 99, Char.ofNat 99, Char.ofNat 99] ++ Char.ofNat 32 :: ([Char.ofNat 99, Char.ofNat 117, Char.ofNat 116] ++ Char.ofNat 32 :: [Char.ofNat 97, Char.ofNat 116, Char.ofNat 32, Char.ofNat 108, Char.ofNat 111, Char.ofNat 111, Char.ofNat 112, Char.ofNat 46, Char.ofNat 101, Char.ofNat 120, Char.ofNat 97, Char.ofNat 109, Char.ofNat 112, Char.ofNat 108, Char.ofNat 101, Char.ofNat 47, Char.ofNat 103, Char.ofNat 48, Char.ofNat 49, Char.ofNat 50, Char.ofNat 55, Char.ofNat 56, Char.ofNat 47, Char.ofNat 108, Char.ofNat 97, Char.ofNat 119, Char.ofNat 115, Char.ofNat 46, Char.ofNat 70, Char.ofNat 110, Char.ofNat 83, Char.ofNat 116, Char.ofNat 111, Char.ofNat 114, Char.ofNat 105, Char.ofNat 101, Char.ofNat 115])) := by
  have h : Tryz.pinned.checked.prog.initOrder = String.ofList ([Char.ofNat 104, Char.ofNat 97, Char.ofNat 114, Char.ofNat 110, Char.ofNat 101, Char.ofNat 115, Char.ofNat 115] ++ Char.ofNat 32 :: ([Char.ofNat 99, Char.ofNat 57, Char.ofNat 98, Char.ofNat 51, Char.ofNat 101, Char.ofNat 52, Char.ofNat 102, Char.ofNat 49, Char.ofNat 51, Char.ofNat 56, Char.ofNat 50, Char.ofNat 50, Char.ofNat 54, Char.ofNat 97, Char.ofNat 53, Char.ofNat 102, Char.ofNat 48, Char.ofNat 99, Char.ofNat 51, Char.ofNat 51, Char.ofNat 50, Char.ofNat 97, Char.ofNat 56, Char.ofNat 99, Char.ofNat 49, Char.ofNat 98, Char.ofNat 52, Char.ofNat 100, Char.ofNat 101, Char.ofNat 52, Char.ofNat 49, Char.ofNat 99, Char.ofNat 100, Char.ofNat 54, Char.ofNat 54, Char.ofNat 102, Char.ofNat 53, Char.ofNat 99, Char.ofNat 51, Char.ofNat 52, Char.ofNat 102, Char.ofNat 102, Char.ofNat 55, Char.ofNat 53, Char.ofNat 51, Char.ofNat 100, Char.ofNat 97, Char.ofNat 51, Char.ofNat 54, Char.ofNat 55, Char.ofNat 98, Char.ofNat 52, Char.ofNat 52, Char.ofNat 98, Char.ofNat 55, Char.ofNat 100, Char.ofNat 54, Char.ofNat 98, Char.ofNat 53, Char.ofNat 56, Char.ofNat 100, Char.ofNat 99, Char.ofNat 99, Char.ofNat 99] ++ Char.ofNat 32 :: ([Char.ofNat 99, Char.ofNat 117, Char.ofNat 116] ++ Char.ofNat 32 :: [Char.ofNat 97, Char.ofNat 116, Char.ofNat 32, Char.ofNat 108, Char.ofNat 111, Char.ofNat 111, Char.ofNat 112, Char.ofNat 46, Char.ofNat 101, Char.ofNat 120, Char.ofNat 97, Char.ofNat 109, Char.ofNat 112, Char.ofNat 108, Char.ofNat 101, Char.ofNat 47, Char.ofNat 103, Char.ofNat 48, Char.ofNat 49, Char.ofNat 50, Char.ofNat 55, Char.ofNat 56, Char.ofNat 47, Char.ofNat 108, Char.ofNat 97, Char.ofNat 119, Char.ofNat 115, Char.ofNat 46, Char.ofNat 70, Char.ofNat 110, Char.ofNat 83, Char.ofNat 116, Char.ofNat 111, Char.ofNat 114, Char.ofNat 105, Char.ofNat 101, Char.ofNat 115]))) := by kernel_rfl
  rw [h, String.toList_ofList]
theorem io_words : ∃ rest, wordsSigns Tryz.pinned.checked.prog.initOrder.toList = [Char.ofNat 104, Char.ofNat 97, Char.ofNat 114, Char.ofNat 110, Char.ofNat 101, Char.ofNat 115, Char.ofNat 115] :: [Char.ofNat 99, Char.ofNat 57, Char.ofNat 98, Char.ofNat 51, Char.ofNat 101, Char.ofNat 52, Char.ofNat 102, Char.ofNat 49, Char.ofNat 51, Char.ofNat 56, Char.ofNat 50, Char.ofNat 50, Char.ofNat 54, Char.ofNat 97, Char.ofNat 53, Char.ofNat 102, Char.ofNat 48, Char.ofNat 99, Char.ofNat 51, Char.ofNat 51, Char.ofNat 50, Char.ofNat 97, Char.ofNat 56, Char.ofNat 99, Char.ofNat 49, Char.ofNat 98, Char.ofNat 52, Char.ofNat 100, Char.ofNat 101, Char.ofNat 52, Char.ofNat 49, Char.ofNat 99, Char.ofNat 100, Char.ofNat 54, Char.ofNat 54, Char.ofNat 102, Char.ofNat 53, Char.ofNat 99, Char.ofNat 51, Char.ofNat 52, Char.ofNat 102, Char.ofNat 102, Char.ofNat 55, Char.ofNat 53, Char.ofNat 51, Char.ofNat 100, Char.ofNat 97, Char.ofNat 51, Char.ofNat 54, Char.ofNat 55, Char.ofNat 98, Char.ofNat 52, Char.ofNat 52, Char.ofNat 98, Char.ofNat 55, Char.ofNat 100, Char.ofNat 54, Char.ofNat 98, Char.ofNat 53, Char.ofNat 56, Char.ofNat 100, Char.ofNat 99, Char.ofNat 99, Char.ofNat 99] :: [Char.ofNat 99, Char.ofNat 117, Char.ofNat 116] :: rest := by
  rw [io, words_cons _ _ (by decide), words_cons _ _ (by decide), words_cons _ _ (by decide)]; exact ⟨_, rfl⟩
theorem io_main : ∃ rest, behindMainWord (wordsSigns Tryz.pinned.checked.prog.initOrder.toList) = [Char.ofNat 99, Char.ofNat 117, Char.ofNat 116] :: rest := by
  obtain ⟨rest, h⟩ := io_words; rw [h]; exact ⟨rest, by kernel_rfl⟩
theorem head_of {P : Program} {rest : List (List Char)} (h : behindMainWord (wordsSigns P.initOrder.toList) = [Char.ofNat 99, Char.ofNat 117, Char.ofNat 116] :: rest) : P.headLifts = [] := by
  unfold Program.headLifts; rw [h]; kernel_rfl
theorem lifts_of {P : Program} {rest : List (List Char)} (h : behindMainWord (wordsSigns P.initOrder.toList) = [Char.ofNat 99, Char.ofNat 117, Char.ofNat 116] :: rest) : P.liftsFinal = false := by
  unfold Program.liftsFinal; rw [head_of h, h]; kernel_rfl
theorem make_of {P : Program} {rest : List (List Char)} (h : behindMainWord (wordsSigns P.initOrder.toList) = [Char.ofNat 99, Char.ofNat 117, Char.ofNat 116] :: rest) : P.make = some .cut := by
  unfold Program.make; rw [head_of h, h]; kernel_rfl
theorem enter_of {P : Program} {rest : List (List Char)} (h : behindMainWord (wordsSigns P.initOrder.toList) = [Char.ofNat 99, Char.ofNat 117, Char.ofNat 116] :: rest) (h1 : P.laysLater = false) (h2 : P.bearsReflect = false) (h3 : P.doorFits [] = true) : P.mayEnter = true := by
  unfold Program.mayEnter; rw [h, h1, h2]
  have e : stripLifts liftWords ([Char.ofNat 99, Char.ofNat 117, Char.ofNat 116] :: rest) = ([], [Char.ofNat 99, Char.ofNat 117, Char.ofNat 116] :: rest) := by kernel_rfl
  simp only [e, h3]; rfl
theorem io_lifts : Tryz.pinned.checked.prog.liftsFinal = false := by obtain ⟨rest, h⟩ := io_main; exact lifts_of h
theorem io_make : Tryz.pinned.checked.prog.make = some .cut := by obtain ⟨rest, h⟩ := io_main; exact make_of h
theorem io_later : Tryz.pinned.checked.prog.laysLater = false := by kernel_rfl
theorem io_reflect : Tryz.pinned.checked.prog.bearsReflect = false := by kernel_rfl
theorem io_door : Tryz.pinned.checked.prog.doorFits [] = true := by kernel_rfl
theorem io_enter : Tryz.pinned.checked.prog.mayEnter = true := by obtain ⟨rest, h⟩ := io_main; exact enter_of h io_later io_reflect io_door
end Go.Proofs.YtddflaaccmjoeaaGreatDoor

/- Arguments, opened by their types. -/
namespace Go.Proofs.YtddflaaccmjoeaaGreatDoor
open Go Go.Sx Go.W Go.RowKit
set_option maxRecDepth 100000
theorem o_Stack {W : World} {cs : List Value} (h : Cl Tryz.prog W 22 cs) : ∃ (A : Option Addr) (c : Nat) (s : List Int), cs = [.slice A s.length c] ∧ s.length ≤ maxLen ∧ (Nums 255 s) ∧ Rd W A (s.flatMap (eI .u8)) := by
  obtain ⟨A, n, c, e, hn, els, hlen, hall, hr⟩ := h.slice rfl (of_decide_eq_true (by kernel_rfl))
  obtain ⟨s, e2, l2, p2⟩ := each (f := eI .u8) (p := fun k => 0 ≤ k ∧ k ≤ 255) (fun x hx => by obtain ⟨k, e, w⟩ := ((hall x hx).2).int rfl; exact ⟨k, e, bounds_u8 w⟩)
  rw [e2] at hr
  obtain rfl : n = s.length := by omega
  exact ⟨A, c, s, e, hn, p2, hr⟩
end Go.Proofs.YtddflaaccmjoeaaGreatDoor

/- What these functions of the program hand back, each proved by walking its operations. -/
set_option linter.unusedVariables false
set_option linter.unusedSimpArgs false
set_option maxRecDepth 4000
namespace Go.Proofs.YtddflaaccmjoeaaGreatDoor
open Go Go.Sx Go.RowKit Go.W Go.Proofs
attribute [local irreducible] Ex ExL ExD Op1 Free RetQ MutQ Reads CellO SegO LoadsAs
theorem e_58 : Enters Tryz.prog 58 := Enters.of Tryz.func58 rfl
theorem c_l00Min (a b : Int) : Ret Tryz.prog 58 [.int .i64 a, .int .i64 b] (fun w => True) (fun x : Unit => .int .i64 (min a b)) (fun x => []) (fun x => True) := by
  refine Ret.of e_58 Tryz.func58 rfl Tryz.ntmps58 rfl rfl (fun w hpre => ?_)
  refine Ex.regSeq (ExL.pures 1 rfl ?_)
  refine ExL.nil ?_
  refine Ex.seq ?_
  refine Ex.regSeq (ExL.pures 2 rfl ?_)
  refine ExL.lss rfl rfl rfl rfl rfl rfl (fun h1 => ?_) (fun h1 => ?_)
  · refine ExL.nil ?_
    refine Ex.cond_t rfl ?_
    refine Ex.regSeq (ExL.pures 2 rfl ?_)
    refine ExL.nil ?_
    refine Ex.ret ?_
    refine RetQ.mk () rfl (.tmp rfl .nil) (tI (by omega)) [] (rfl) rfl (trivial)
  · refine ExL.nil ?_
    refine Ex.cond_f rfl ?_
    refine Ex.skip ?_
    refine Ex.regSeq (ExL.pures 2 rfl ?_)
    refine ExL.nil ?_
    refine Ex.ret ?_
    refine RetQ.mk () rfl (.tmp rfl .nil) (tI (by omega)) [] (rfl) rfl (trivial)
theorem e_97 : Enters Tryz.prog 97 := Enters.of Tryz.func97 rfl
theorem c_l00In (a b c : Int) : Ret Tryz.prog 97 [.int .i64 a, .int .i64 b, .int .i64 c] (fun w => True) (fun x : Unit => .bool (decide (b ≤ a ∧ a ≤ c))) (fun x => []) (fun x => True) := by
  refine Ret.of e_97 Tryz.func97 rfl Tryz.ntmps97 rfl rfl (fun w hpre => ?_)
  refine Ex.regSeq (ExL.pures 1 rfl ?_)
  refine ExL.nil ?_
  refine Ex.regSeq (ExL.pures 2 rfl ?_)
  refine ExL.geq rfl rfl rfl rfl rfl rfl (fun h1 => ?_) (fun h1 => ?_)
  · refine ExL.pures 3 rfl ?_
    refine ExL.leq rfl rfl rfl rfl rfl rfl (fun h2 => ?_) (fun h2 => ?_)
    · refine ExL.pures 2 rfl ?_
      refine ExL.nil ?_
      refine Ex.ret ?_
      refine RetQ.mk () rfl (.tmp rfl .nil) (tB (by simp; omega)) [] (rfl) rfl (trivial)
    · refine ExL.pures 2 rfl ?_
      refine ExL.nil ?_
      refine Ex.ret ?_
      refine RetQ.mk () rfl (.tmp rfl .nil) (tB (by simp; omega)) [] (rfl) rfl (trivial)
  · refine ExL.pures 6 rfl ?_
    refine ExL.nil ?_
    refine Ex.ret ?_
    refine RetQ.mk () rfl (.tmp rfl .nil) (tB (by simp; omega)) [] (rfl) rfl (trivial)
theorem e_59 : Enters Tryz.prog 59 := Enters.of Tryz.func59 rfl
theorem c_within (a b c : Int) : Ret Tryz.prog 59 [.int .i64 a, .int .i64 b, .int .i64 c] (fun w => True) (fun x : Unit => .bool (decide (b ≤ a ∧ a ≤ c))) (fun x => []) (fun x => True) := by
  refine Ret.of e_59 Tryz.func59 rfl Tryz.ntmps59 rfl rfl (fun w hpre => ?_)
  refine Ex.regSeq (ExL.pures 1 rfl ?_)
  refine ExL.nil ?_
  refine Ex.regSeq (ExL.pures 2 rfl ?_)
  refine ExL.leq rfl rfl rfl rfl rfl rfl (fun h1 => ?_) (fun h1 => ?_)
  · refine ExL.pures 3 rfl ?_
    refine ExL.leq rfl rfl rfl rfl rfl rfl (fun h2 => ?_) (fun h2 => ?_)
    · refine ExL.pures 2 rfl ?_
      refine ExL.nil ?_
      refine Ex.ret ?_
      refine RetQ.mk () rfl (.tmp rfl .nil) (tB (by simp; omega)) [] (rfl) rfl (trivial)
    · refine ExL.pures 2 rfl ?_
      refine ExL.nil ?_
      refine Ex.ret ?_
      refine RetQ.mk () rfl (.tmp rfl .nil) (tB (by simp; omega)) [] (rfl) rfl (trivial)
  · refine ExL.pures 6 rfl ?_
    refine ExL.nil ?_
    refine Ex.ret ?_
    refine RetQ.mk () rfl (.tmp rfl .nil) (tB (by simp; omega)) [] (rfl) rfl (trivial)
theorem e_62 : Enters Tryz.prog 62 := Enters.of Tryz.func62 rfl
theorem c_l01Size (s : List Int) (hu : Nums 255 s) (As : Option Addr) (cs : Nat) (hl : s.length ≤ maxLen) : Ret Tryz.prog 62 [.slice As s.length cs] (fun w => Rd w As (s.flatMap (eI .u8))) (fun x : Unit => .int .i64 (size s)) (fun x => []) (fun x => True) := by
  refine Ret.of e_62 Tryz.func62 rfl Tryz.ntmps62 rfl rfl (fun w hpre => ?_)
  unfold maxLen at hl
  have hs := hpre.base
  refine Ex.regSeq (ExL.pures 1 rfl ?_)
  refine ExL.nil ?_
  refine Ex.regSeq (ExL.pures 1 rfl ?_)
  refine ExL.nil ?_
  refine Ex.seq ?_
  refine Ex.regSeq (ExL.pures 1 rfl ?_)
  refine ExL.nil ?_
  refine Ex.block ?_
  refine Ex.loopK (X := Nat) (fun k => [(3, .int .i64 (size (s.take k))), (4, .int .i64 k)]) (fun k => []) (fun k => k ≤ s.length) (fun k => s.length - k) 0 [(0, _), (2, _)] [] 0 [] ⟨rfl, rfl, trivial⟩ ⟨rfl, rfl, trivial⟩ (rfl) rfl (Nat.zero_le _) (fun k hI => ?_)
  have hI : k ≤ s.length := hI
  have hb := size_bd hu k
  have hm := size_mul hu k
  have hx := hu.at_ (by omega) k
  refine Ex.seq ?_
  refine Ex.regSeq (ExL.pures 3 rfl ?_)
  refine ExL.lss rfl rfl rfl rfl rfl rfl (fun h1 => ?_) (fun h1 => ?_)
  · refine ExL.nil ?_
    refine Ex.cond_t rfl ?_
    refine Ex.skip ?_
    refine Ex.seq ?_
    refine Ex.block ?_
    refine Ex.region (ExL.pures 3 rfl ?_)
    refine ExL.free (fr_indexAddrF (Reads.old hs) (eI_len .u8) rfl rfl rfl rfl rfl rfl (by omega)) rfl rfl rfl ?_
    refine ExL.free (fr_load rfl rfl rfl rfl (by first | exact cellN (Reads.old hs) (eI_len .u8) 0 0 rfl (by omega) rfl | exact cellF (Reads.old hs) (eI_len .u8) 0 0 rfl (by omega) rfl)) rfl rfl rfl ?_
    refine ExL.free (by first | exact fr_conv64 rfl rfl rfl rfl (by omega) | exact fr_conv rfl rfl rfl rfl) rfl rfl rfl ?_
    refine ExL.free (by first | exact fr_mul64 rfl rfl rfl (by omega) | exact fr_mul rfl rfl rfl) rfl rfl rfl ?_
    refine ExL.op rfl (op_ret rfl rfl rfl (c_l00Min _ _) (fun _ _ => trivial) rfl rfl (fun x2 hx2 => ?_))
    refine ExL.pures 1 rfl ?_
    refine ExL.nil ?_
    refine Ex.region (ExL.pures 1 rfl ?_)
    refine ExL.free (by first | exact fr_add64 rfl rfl rfl (by omega) | exact fr_add rfl rfl rfl) rfl rfl rfl ?_
    refine ExL.pures 1 rfl ?_
    refine ExL.nil ?_
    refine Hand.mk (k + 1) 0 [] ⟨agI (size_snoc s k (by omega)).symm, rfl, trivial⟩ ⟨rfl, rfl, trivial⟩ (rfl) rfl (by omega) (by omega)
  · refine ExL.nil ?_
    refine Ex.cond_f rfl ?_
    refine Ex.exit ?_
    refine Ex.regSeq (ExL.pures 2 rfl ?_)
    refine ExL.nil ?_
    refine Ex.ret ?_
    refine RetQ.mk () rfl (.tmp rfl .nil) (tI (by rw [List.take_of_length_le (by omega)])) [] (rfl) rfl (trivial)
theorem e_76 : Enters Tryz.prog 76 := Enters.of Tryz.func76 rfl
theorem c_size (s : List Int) (hu : Nums 255 s) (As : Option Addr) (cs : Nat) (hl : s.length ≤ maxLen) : Ret Tryz.prog 76 [.slice As s.length cs] (fun w => Rd w As (s.flatMap (eI .u8))) (fun x : Unit => .int .i64 (size s)) (fun x => []) (fun x => True) := by
  refine Ret.of e_76 Tryz.func76 rfl Tryz.ntmps76 rfl rfl (fun w hpre => ?_)
  unfold maxLen at hl
  have hs := hpre.base
  refine Ex.regSeq (ExL.pures 1 rfl ?_)
  refine ExL.nil ?_
  refine Ex.regSeq (ExL.pures 1 rfl ?_)
  refine ExL.nil ?_
  refine Ex.seq ?_
  refine Ex.regSeq (ExL.pures 3 rfl ?_)
  refine ExL.nil ?_
  refine Ex.block ?_
  refine Ex.loopK (X := Nat) (fun k => [(3, .int .i64 (size (s.take k))), (8, .int .i64 k)]) (fun k => []) (fun k => k ≤ s.length) (fun k => s.length - k) 0 [(2, _), (6, _), (7, _)] [] 0 [] ⟨rfl, rfl, trivial⟩ ⟨rfl, rfl, rfl, trivial⟩ (rfl) rfl (Nat.zero_le _) (fun k hI => ?_)
  have hI : k ≤ s.length := hI
  have hb := size_bd hu k
  have hm := size_mul hu k
  have hx := hu.at_ (by omega) k
  refine Ex.regSeq (ExL.pures 0 rfl ?_)
  refine ExL.lss rfl rfl rfl rfl rfl rfl (fun h1 => ?_) (fun h1 => ?_)
  · refine ExL.nil ?_
    refine Ex.seq ?_
    refine Ex.cond_t rfl ?_
    refine Ex.skip ?_
    refine Ex.seq ?_
    refine Ex.block ?_
    refine Ex.regSeq (ExL.pures 0 rfl ?_)
    refine ExL.free (fr_indexAddrF (Reads.old hs) (eI_len .u8) rfl rfl rfl rfl rfl rfl (by omega)) rfl rfl rfl ?_
    refine ExL.free (fr_load rfl rfl rfl rfl (by first | exact cellN (Reads.old hs) (eI_len .u8) 0 0 rfl (by omega) rfl | exact cellF (Reads.old hs) (eI_len .u8) 0 0 rfl (by omega) rfl)) rfl rfl rfl ?_
    refine ExL.pures 1 rfl ?_
    refine ExL.nil ?_
    refine Ex.region (ExL.pures 2 rfl ?_)
    refine ExL.free (by first | exact fr_conv64 rfl rfl rfl rfl (by omega) | exact fr_conv rfl rfl rfl rfl) rfl rfl rfl ?_
    refine ExL.free (by first | exact fr_mul64 rfl rfl rfl (by omega) | exact fr_mul rfl rfl rfl) rfl rfl rfl ?_
    refine ExL.free (fr_min rfl rfl rfl) rfl rfl rfl ?_
    refine ExL.pures 1 rfl ?_
    refine ExL.nil ?_
    refine Ex.region (ExL.pures 0 rfl ?_)
    refine ExL.free (by first | exact fr_add64 rfl rfl rfl (by omega) | exact fr_add rfl rfl rfl) rfl rfl rfl ?_
    refine ExL.pures 1 rfl ?_
    refine ExL.nil ?_
    refine Hand.mk (k + 1) 0 [] ⟨agI (size_snoc s k (by omega)).symm, rfl, trivial⟩ ⟨rfl, rfl, rfl, trivial⟩ (rfl) rfl (by omega) (by omega)
  · refine ExL.nil ?_
    refine Ex.seq ?_
    refine Ex.cond_f rfl ?_
    refine Ex.exit ?_
    refine Ex.regSeq (ExL.pures 2 rfl ?_)
    refine ExL.nil ?_
    refine Ex.ret ?_
    refine RetQ.mk () rfl (.tmp rfl .nil) (tI (by rw [List.take_of_length_le (by omega)])) [] (rfl) rfl (trivial)
theorem e_73 : Enters Tryz.prog 73 := Enters.of Tryz.func73 rfl
theorem c_wheels (s : List Int) (As : Option Addr) (cs : Nat) : Ret Tryz.prog 73 [.slice As s.length cs] (fun w => True) (fun x : Unit => .int .i64 s.length) (fun x => []) (fun x => True) := by
  refine Ret.of e_73 Tryz.func73 rfl Tryz.ntmps73 rfl rfl (fun w hpre => ?_)
  refine Ex.regSeq (ExL.pures 1 rfl ?_)
  refine ExL.nil ?_
  refine Ex.regSeq (ExL.pures 3 rfl ?_)
  refine ExL.nil ?_
  refine Ex.ret ?_
  refine RetQ.mk () rfl (.tmp rfl .nil) (rfl) [] (rfl) rfl (trivial)
theorem e_95 : Enters Tryz.prog 95 := Enters.of Tryz.func95 rfl
theorem c_l01Ok (s : List Int) (hu : Nums 255 s) (As : Option Addr) (cs : Nat) (hl : s.length ≤ maxLen) : Ret Tryz.prog 95 [.slice As s.length cs] (fun w => Rd w As (s.flatMap (eI .u8))) (fun x : Unit => .bool (validStack s)) (fun x => []) (fun x => True) := by
  refine Ret.of e_95 Tryz.func95 rfl Tryz.ntmps95 rfl rfl (fun w hpre => ?_)
  unfold maxLen at hl
  have hs := hpre.base
  refine Ex.regSeq (ExL.pures 1 rfl ?_)
  refine ExL.nil ?_
  refine Ex.seq ?_
  refine Ex.regSeq (ExL.pures 2 rfl ?_)
  refine ExL.op rfl (op_ret rfl rfl rfl (c_l00In _ _ _) (fun _ _ => trivial) rfl rfl (fun x1 hx1 => ?_))
  refine ExL.pures 1 rfl ?_
  refine ExL.nil ?_
  refine Ex.cond rfl (fun hb2 => ?_) (fun hb2 => ?_)
  · replace hb2 := nd_t hb2
    refine Ex.regSeq (ExL.pures 1 rfl ?_)
    refine ExL.nil ?_
    refine Ex.ret ?_
    refine RetQ.mk () rfl (.tmp rfl .nil) (tB (by first | exact vs_len (by assumption) | exact vs_base (k := k) (by omega) (by omega) | (have hkl : k = s.length := (by omega); subst hkl; first | exact vs_yes (by assumption) hall (by omega) | exact vs_size (by omega)))) [] (rfl) rfl (trivial)
  · replace hb2 := nd_f hb2
    refine Ex.skip ?_
    refine Ex.seq ?_
    refine Ex.regSeq (ExL.pures 1 rfl ?_)
    refine ExL.nil ?_
    refine Ex.block ?_
    refine Ex.loopK (X := Nat) (fun k => [(3, .int .i64 k)]) (fun k => []) (fun k => k ≤ s.length ∧ ∀ i, i < k → 2 ≤ s.getD i 0 ∧ s.getD i 0 ≤ 100) (fun k => s.length - k) 0 [(0, _)] [] 0 [] ⟨rfl, trivial⟩ ⟨rfl, trivial⟩ (rfl) rfl ⟨Nat.zero_le _, fun i hi => by omega⟩ (fun k hI => ?_)
    have hI : k ≤ s.length ∧ ∀ i, i < k → 2 ≤ s.getD i 0 ∧ s.getD i 0 ≤ 100 := hI
    obtain ⟨hk, hall⟩ := hI
    refine Ex.seq ?_
    refine Ex.regSeq (ExL.pures 3 rfl ?_)
    refine ExL.lss rfl rfl rfl rfl rfl rfl (fun h3 => ?_) (fun h3 => ?_)
    · refine ExL.nil ?_
      refine Ex.cond_t rfl ?_
      refine Ex.skip ?_
      refine Ex.seq ?_
      refine Ex.block ?_
      refine Ex.regSeq (ExL.pures 2 rfl ?_)
      refine ExL.free (fr_indexAddrF (Reads.old hs) (eI_len .u8) rfl rfl rfl rfl rfl rfl (by omega)) rfl rfl rfl ?_
      refine ExL.free (fr_load rfl rfl rfl rfl (by first | exact cellN (Reads.old hs) (eI_len .u8) 0 0 rfl (by omega) rfl | exact cellF (Reads.old hs) (eI_len .u8) 0 0 rfl (by omega) rfl)) rfl rfl rfl ?_
      refine ExL.lss rfl rfl rfl rfl rfl rfl (fun h4 => ?_) (fun h4 => ?_)
      · refine ExL.pures 7 rfl ?_
        refine ExL.nil ?_
        refine Ex.cond_t rfl ?_
        refine Ex.regSeq (ExL.pures 1 rfl ?_)
        refine ExL.nil ?_
        refine Ex.ret ?_
        refine RetQ.mk () rfl (.tmp rfl .nil) (tB (by first | exact vs_len (by assumption) | exact vs_base (k := k) (by omega) (by omega) | (have hkl : k = s.length := (by omega); subst hkl; first | exact vs_yes (by assumption) hall (by omega) | exact vs_size (by omega)))) [] (rfl) rfl (trivial)
      · refine ExL.pures 3 rfl ?_
        refine ExL.free (fr_indexAddrF (Reads.old hs) (eI_len .u8) rfl rfl rfl rfl rfl rfl (by omega)) rfl rfl rfl ?_
        refine ExL.free (fr_load rfl rfl rfl rfl (by first | exact cellN (Reads.old hs) (eI_len .u8) 0 0 rfl (by omega) rfl | exact cellF (Reads.old hs) (eI_len .u8) 0 0 rfl (by omega) rfl)) rfl rfl rfl ?_
        refine ExL.gtr rfl rfl rfl rfl rfl rfl (fun h5 => ?_) (fun h5 => ?_)
        · refine ExL.pures 1 rfl ?_
          refine ExL.nil ?_
          refine Ex.cond_t rfl ?_
          refine Ex.regSeq (ExL.pures 1 rfl ?_)
          refine ExL.nil ?_
          refine Ex.ret ?_
          refine RetQ.mk () rfl (.tmp rfl .nil) (tB (by first | exact vs_len (by assumption) | exact vs_base (k := k) (by omega) (by omega) | (have hkl : k = s.length := (by omega); subst hkl; first | exact vs_yes (by assumption) hall (by omega) | exact vs_size (by omega)))) [] (rfl) rfl (trivial)
        · refine ExL.pures 1 rfl ?_
          refine ExL.nil ?_
          refine Ex.cond_f rfl ?_
          refine Ex.skip ?_
          refine Ex.region (ExL.pures 1 rfl ?_)
          refine ExL.free (by first | exact fr_add64 rfl rfl rfl (by omega) | exact fr_add rfl rfl rfl) rfl rfl rfl ?_
          refine ExL.pures 1 rfl ?_
          refine ExL.nil ?_
          refine Hand.mk (k + 1) 0 [] ⟨rfl, trivial⟩ ⟨rfl, trivial⟩ (rfl) rfl (⟨by omega, all_snoc hall (by omega)⟩) (by omega)
    · refine ExL.nil ?_
      refine Ex.cond_f rfl ?_
      refine Ex.exit ?_
      refine Ex.regSeq (ExL.pures 1 rfl ?_)
      refine ExL.op rfl (op_ret rfl rfl rfl (c_l01Size _ (by assumption) _ _ (by first | assumption | omega | (unfold maxLen; omega))) (Reads.get (Reads.old hs)) rfl rfl (fun x6 hx6 => ?_))
      refine ExL.leq rfl rfl rfl rfl rfl rfl (fun h7 => ?_) (fun h7 => ?_)
      · refine ExL.pures 1 rfl ?_
        refine ExL.nil ?_
        refine Ex.ret ?_
        refine RetQ.mk () rfl (.tmp rfl .nil) (tB (by first | exact vs_len (by assumption) | exact vs_base (k := k) (by omega) (by omega) | (have hkl : k = s.length := (by omega); subst hkl; first | exact vs_yes (by assumption) hall (by omega) | exact vs_size (by omega)))) [] (rfl) rfl (trivial)
      · refine ExL.pures 1 rfl ?_
        refine ExL.nil ?_
        refine Ex.ret ?_
        refine RetQ.mk () rfl (.tmp rfl .nil) (tB (by first | exact vs_len (by assumption) | exact vs_base (k := k) (by omega) (by omega) | (have hkl : k = s.length := (by omega); subst hkl; first | exact vs_yes (by assumption) hall (by omega) | exact vs_size (by omega)))) [] (rfl) rfl (trivial)
end Go.Proofs.YtddflaaccmjoeaaGreatDoor

/- What these functions of the program hand back, each proved by walking its operations. -/
set_option linter.unusedVariables false
set_option linter.unusedSimpArgs false
set_option maxRecDepth 4000
namespace Go.Proofs.YtddflaaccmjoeaaGreatDoor
open Go Go.Sx Go.RowKit Go.W Go.Proofs
attribute [local irreducible] Ex ExL ExD Op1 Free RetQ MutQ Reads CellO SegO LoadsAs
end Go.Proofs.YtddflaaccmjoeaaGreatDoor

/- What these functions of the program hand back, each proved by walking its operations. -/
set_option linter.unusedVariables false
set_option linter.unusedSimpArgs false
set_option maxRecDepth 4000
namespace Go.Proofs.YtddflaaccmjoeaaGreatDoor
open Go Go.Sx Go.RowKit Go.W Go.Proofs
attribute [local irreducible] Ex ExL ExD Op1 Free RetQ MutQ Reads CellO SegO LoadsAs
end Go.Proofs.YtddflaaccmjoeaaGreatDoor

/- What these functions of the program hand back, each proved by walking its operations. -/
set_option linter.unusedVariables false
set_option linter.unusedSimpArgs false
set_option maxRecDepth 4000
namespace Go.Proofs.YtddflaaccmjoeaaGreatDoor
open Go Go.Sx Go.RowKit Go.W Go.Proofs
attribute [local irreducible] Ex ExL ExD Op1 Free RetQ MutQ Reads CellO SegO LoadsAs
end Go.Proofs.YtddflaaccmjoeaaGreatDoor

/- What these functions of the program hand back, each proved by walking its operations. -/
set_option linter.unusedVariables false
set_option linter.unusedSimpArgs false
set_option maxRecDepth 4000
namespace Go.Proofs.YtddflaaccmjoeaaGreatDoor
open Go Go.Sx Go.RowKit Go.W Go.Proofs
attribute [local irreducible] Ex ExL ExD Op1 Free RetQ MutQ Reads CellO SegO LoadsAs
end Go.Proofs.YtddflaaccmjoeaaGreatDoor

/- What these functions of the program hand back, each proved by walking its operations. -/
set_option linter.unusedVariables false
set_option linter.unusedSimpArgs false
set_option maxRecDepth 4000
namespace Go.Proofs.YtddflaaccmjoeaaGreatDoor
open Go Go.Sx Go.RowKit Go.W Go.Proofs
attribute [local irreducible] Ex ExL ExD Op1 Free RetQ MutQ Reads CellO SegO LoadsAs
theorem e_98 : Enters Tryz.prog 98 := Enters.of Tryz.func98 rfl
theorem c_slIndexFunc (s : List Int) (hu : ∀ x, x ∈ s → 0 ≤ x ∧ x ≤ 255) (As : Option Addr) (cs : Nat) (hls : s.length ≤ maxLen) (g : FuncId) (cap : List Value) (Pr : World → Prop) (hPr : ∀ w w', Pr w → Below w.heap.size w w' → Pr w') (p : Int → Bool) (hp : ∀ x : Int, 0 ≤ x ∧ x ≤ 255 → Ret Tryz.prog g ([.int .u8 x] ++ cap) Pr (fun _ : Unit => .bool (p x)) (fun _ => []) (fun _ => True)) : Ret Tryz.prog 98 [.slice As s.length cs, .func (.func g) #[] cap.toArray] (fun w => Rd w As (s.flatMap (eI .u8)) ∧ Pr w) (fun x : Unit => .int .i64 (idxF p s)) (fun x => []) (fun x => True) := by
  refine Ret.of e_98 Tryz.func98 rfl Tryz.ntmps98 rfl rfl (fun w hpre => ?_)
  have hs := hpre.1.base
  have hm0 : maxLen = 9223372036854775807 := rfl
  refine Ex.regSeq (ExL.pures 1 rfl ?_)
  refine ExL.nil ?_
  refine Ex.seq ?_
  refine Ex.regSeq (ExL.pures 3 rfl ?_)
  refine ExL.nil ?_
  refine Ex.block ?_
  refine Ex.loopK (X := Nat) (fun k => [(8, .int .i64 k)]) (fun k => []) (fun k => k ≤ s.length ∧ ∀ i, i < k → p (s.getD i 0) = false) (fun k => s.length - k) 0 [(0, _), (1, _), (7, _)] [] 0 [] ⟨rfl, trivial⟩ ⟨rfl, rfl, rfl, trivial⟩ (rfl) rfl ⟨Nat.zero_le _, fun i hi => by omega⟩ (fun k hI => ?_)
  have hI : k ≤ s.length ∧ ∀ i, i < k → p (s.getD i 0) = false := hI
  obtain ⟨hk, hall⟩ := hI
  refine Ex.regSeq (ExL.pures 0 rfl ?_)
  refine ExL.lss rfl rfl rfl rfl rfl rfl (fun h1 => ?_) (fun h1 => ?_)
  · refine ExL.nil ?_
    refine Ex.seq ?_
    refine Ex.cond_t rfl ?_
    refine Ex.skip ?_
    refine Ex.seq ?_
    refine Ex.block ?_
    have hk2 : k < s.length := by omega
    refine Ex.regSeq (ExL.pures 2 rfl ?_)
    refine ExL.nil ?_
    refine Ex.regSeq (ExL.pures 3 rfl ?_)
    refine ExL.free (fr_indexAddrF (Reads.old hs) (eI_len .u8) rfl rfl rfl rfl rfl rfl (by omega)) rfl rfl rfl ?_
    refine ExL.free (fr_load rfl rfl rfl rfl (by first | exact cellN (Reads.old hs) (eI_len .u8) 0 0 rfl (by omega) rfl | exact cellF (Reads.old hs) (eI_len .u8) 0 0 rfl (by omega) rfl)) rfl rfl rfl ?_
    refine ExL.op rfl (op_ret rfl rfl rfl (hp _ (hu _ (getD_mem _ hk2))) (fun w' hw => hPr _ _ hpre.2 hw.below) rfl rfl (fun x2 hx2 => ?_))
    refine ExL.nil ?_
    refine Ex.cond rfl (fun hb3 => ?_) (fun hb3 => ?_)
    · refine Ex.regSeq (ExL.pures 2 rfl ?_)
      refine ExL.nil ?_
      refine Ex.ret ?_
      refine RetQ.mk () rfl (.tmp rfl .nil) (tI (by first | exact (idx_hit (by omega) hall (by assumption)).symm | exact (idx_none (by omega) hall).symm)) [] (rfl) rfl (trivial)
    · refine Ex.skip ?_
      refine Ex.region (ExL.pures 0 rfl ?_)
      refine ExL.free (by first | exact fr_add64 rfl rfl rfl (by omega) | exact fr_add rfl rfl rfl) rfl rfl rfl ?_
      refine ExL.pures 1 rfl ?_
      refine ExL.nil ?_
      refine Hand.mk (k + 1) 0 [] ⟨rfl, trivial⟩ ⟨rfl, rfl, rfl, trivial⟩ (rfl) rfl (⟨by omega, all_snoc hall (by assumption)⟩) (by omega)
  · refine ExL.nil ?_
    refine Ex.seq ?_
    refine Ex.cond_f rfl ?_
    refine Ex.exit ?_
    refine Ex.regSeq (ExL.pures 1 rfl ?_)
    refine ExL.nil ?_
    refine Ex.ret ?_
    refine RetQ.mk () rfl (.tmp rfl .nil) (tI (by first | exact (idx_hit (by omega) hall (by assumption)).symm | exact (idx_none (by omega) hall).symm)) [] (rfl) rfl (trivial)
theorem e_74 : Enters Tryz.prog 74 := Enters.of Tryz.func74 rfl
theorem c_slContainsFunc (s : List Int) (hu : ∀ x, x ∈ s → 0 ≤ x ∧ x ≤ 255) (As : Option Addr) (cs : Nat) (hls : s.length ≤ maxLen) (g : FuncId) (cap : List Value) (Pr : World → Prop) (hPr : ∀ w w', Pr w → Below w.heap.size w w' → Pr w') (p : Int → Bool) (hp : ∀ x : Int, 0 ≤ x ∧ x ≤ 255 → Ret Tryz.prog g ([.int .u8 x] ++ cap) Pr (fun _ : Unit => .bool (p x)) (fun _ => []) (fun _ => True)) : Ret Tryz.prog 74 [.slice As s.length cs, .func (.func g) #[] cap.toArray] (fun w => Rd w As (s.flatMap (eI .u8)) ∧ Pr w) (fun x : Unit => .bool (s.any p)) (fun x => []) (fun x => True) := by
  refine Ret.of e_74 Tryz.func74 rfl Tryz.ntmps74 rfl rfl (fun w hpre => ?_)
  have hs := hpre.1.base
  have hm0 : maxLen = 9223372036854775807 := rfl
  refine Ex.regSeq (ExL.pures 1 rfl ?_)
  refine ExL.nil ?_
  refine Ex.regSeq (ExL.pures 2 rfl ?_)
  refine ExL.op rfl (op_ret rfl rfl rfl (c_slIndexFunc s hu _ _ (by omega) g cap Pr hPr p hp) (fun w' hw => ⟨Reads.get (Reads.old hs) w' hw, hPr _ _ hpre.2 hw.below⟩) rfl rfl (fun x1 hx1 => ?_))
  refine ExL.geq rfl rfl rfl rfl rfl rfl (fun h2 => ?_) (fun h2 => ?_)
  · refine ExL.pures 1 rfl ?_
    refine ExL.nil ?_
    refine Ex.ret ?_
    refine RetQ.mk () rfl (.tmp rfl .nil) (tB (by rw [any_idx]; first | exact dec_t (by omega) | exact dec_f (by omega) | rfl)) [] (rfl) rfl (trivial)
  · refine ExL.pures 1 rfl ?_
    refine ExL.nil ?_
    refine Ex.ret ?_
    refine RetQ.mk () rfl (.tmp rfl .nil) (tB (by rw [any_idx]; first | exact dec_t (by omega) | exact dec_f (by omega) | rfl)) [] (rfl) rfl (trivial)
theorem e_75 : Enters Tryz.prog 75 := Enters.of Tryz.func75 rfl
theorem c_vs1 (y : Int) : Ret Tryz.prog 75 [.int .u8 y] (fun w => True) (fun x : Unit => .bool (decide (y < 2 ∨ 100 < y))) (fun x => []) (fun x => True) := by
  refine Ret.of e_75 Tryz.func75 rfl Tryz.ntmps75 rfl rfl (fun w hpre => ?_)
  refine Ex.regSeq (ExL.pures 1 rfl ?_)
  refine ExL.nil ?_
  refine Ex.regSeq (ExL.pures 1 rfl ?_)
  refine ExL.lss rfl rfl rfl rfl rfl rfl (fun h1 => ?_) (fun h1 => ?_)
  · refine ExL.pures 5 rfl ?_
    refine ExL.nil ?_
    refine Ex.ret ?_
    refine RetQ.mk () rfl (.tmp rfl .nil) (tB (by first | exact dec_t (by omega) | exact dec_f (by omega) | (exact decide_eq_decide.2 (by omega)))) [] (rfl) rfl (trivial)
  · refine ExL.pures 2 rfl ?_
    refine ExL.gtr rfl rfl rfl rfl rfl rfl (fun h2 => ?_) (fun h2 => ?_)
    · refine ExL.pures 2 rfl ?_
      refine ExL.nil ?_
      refine Ex.ret ?_
      refine RetQ.mk () rfl (.tmp rfl .nil) (tB (by first | exact dec_t (by omega) | exact dec_f (by omega) | (exact decide_eq_decide.2 (by omega)))) [] (rfl) rfl (trivial)
    · refine ExL.pures 2 rfl ?_
      refine ExL.nil ?_
      refine Ex.ret ?_
      refine RetQ.mk () rfl (.tmp rfl .nil) (tB (by first | exact dec_t (by omega) | exact dec_f (by omega) | (exact decide_eq_decide.2 (by omega)))) [] (rfl) rfl (trivial)
theorem e_36 : Enters Tryz.prog 36 := Enters.of Tryz.func36 rfl
theorem c_ValidStack (s : List Int) (hu : Nums 255 s) (As : Option Addr) (cs : Nat) (hl : s.length ≤ maxLen) : Ret Tryz.prog 36 [.slice As s.length cs] (fun w => Rd w As (s.flatMap (eI .u8))) (fun x : Unit => .bool (validStack s)) (fun x => []) (fun x => True) := by
  refine Ret.of e_36 Tryz.func36 rfl Tryz.ntmps36 rfl rfl (fun w hpre => ?_)
  have hs := hpre.base
  have hm0 : maxLen = 9223372036854775807 := rfl
  refine Ex.regSeq (ExL.pures 1 rfl ?_)
  refine ExL.nil ?_
  refine Ex.regSeq (ExL.pures 1 rfl ?_)
  refine ExL.op rfl (op_ret rfl rfl rfl (c_wheels _ _ _) (fun _ _ => trivial) rfl rfl (fun x1 hx1 => ?_))
  refine ExL.op rfl (op_ret rfl rfl rfl (c_within _ _ _) (fun _ _ => trivial) rfl rfl (fun x2 hx2 => ?_))
  refine ExL.pures 1 rfl ?_
  refine ExL.bool (d := 7) rfl (fun hb3 => ?_) (fun hb3 => ?_)
  · replace hb3 := of_decide_eq_true hb3
    refine ExL.pures 1 rfl ?_
    refine ExL.op rfl (op_ret rfl rfl rfl (c_slContainsFunc s hu _ _ (by omega) 75 [] (fun _ => True) (fun _ _ _ _ => trivial) (fun x => decide (x < 2 ∨ 100 < x)) (fun x _ => c_vs1 x)) (fun w' hw => ⟨Reads.get (Reads.old hs) w' hw, trivial⟩) rfl rfl (fun x4 hx4 => ?_))
    refine ExL.pures 3 rfl ?_
    refine ExL.nil ?_
    refine Ex.regSeq (ExL.pures 2 rfl ?_)
    refine ExL.bool (d := 13) rfl (fun hb5 => ?_) (fun hb5 => ?_)
    · replace hb5 := nb_t hb5
      refine ExL.pures 1 rfl ?_
      refine ExL.op rfl (op_ret rfl rfl rfl (c_size _ (by assumption) _ _ (by first | assumption | omega | (unfold maxLen; omega))) (Reads.get (Reads.old hs)) rfl rfl (fun x6 hx6 => ?_))
      refine ExL.leq rfl rfl rfl rfl rfl rfl (fun h7 => ?_) (fun h7 => ?_)
      · refine ExL.pures 2 rfl ?_
        refine ExL.nil ?_
        refine Ex.ret ?_
        refine RetQ.mk () rfl (.tmp rfl .nil) (tB (by first | exact vs_len (by assumption) | exact vs_any (by assumption) | exact vs_size (by assumption) | exact vs_yes2 (by assumption) (by assumption) (by assumption))) [] (rfl) rfl (trivial)
      · refine ExL.pures 2 rfl ?_
        refine ExL.nil ?_
        refine Ex.ret ?_
        refine RetQ.mk () rfl (.tmp rfl .nil) (tB (by first | exact vs_len (by assumption) | exact vs_any (by assumption) | exact vs_size (by assumption) | exact vs_yes2 (by assumption) (by assumption) (by assumption))) [] (rfl) rfl (trivial)
    · replace hb5 := nb_f hb5
      refine ExL.pures 5 rfl ?_
      refine ExL.nil ?_
      refine Ex.ret ?_
      refine RetQ.mk () rfl (.tmp rfl .nil) (tB (by first | exact vs_len (by assumption) | exact vs_any (by assumption) | exact vs_size (by assumption) | exact vs_yes2 (by assumption) (by assumption) (by assumption))) [] (rfl) rfl (trivial)
  · replace hb3 := of_decide_eq_false hb3
    refine ExL.pures 5 rfl ?_
    refine ExL.nil ?_
    refine Ex.regSeq (ExL.pures 7 rfl ?_)
    refine ExL.nil ?_
    refine Ex.ret ?_
    refine RetQ.mk () rfl (.tmp rfl .nil) (tB (by first | exact vs_len (by assumption) | exact vs_any (by assumption) | exact vs_size (by assumption) | exact vs_yes2 (by assumption) (by assumption) (by assumption))) [] (rfl) rfl (trivial)
theorem e_104 : Enters Tryz.prog 104 := Enters.of Tryz.func104 rfl
theorem c_iValidDigits (s : List Int) (hu : Nums 255 s) (As : Option Addr) (cs : Nat) (hls : s.length ≤ maxLen) (a : Dig) (ha : Nums 255 a.l) : Ret Tryz.prog 104 [.slice As s.length cs, .agg (encD a).toArray] (fun w => Rd w As (s.flatMap (eI .u8))) (fun x : Unit => .bool (validStack s && validDig s a.l)) (fun x => []) (fun x => True) := by
  refine Ret.of e_104 Tryz.func104 rfl Tryz.ntmps104 rfl rfl (fun w hpre => ?_)
  have hs := hpre.base
  have hm0 : maxLen = 9223372036854775807 := rfl
  refine Ex.regSeq (ExL.pures 0 rfl ?_)
  refine ExL.op rfl (op_box rfl rfl rfl rfl rfl (fun b1 => ?_))
  refine ExL.pures 1 rfl ?_
  refine ExL.nil ?_
  refine Ex.seq ?_
  refine Ex.regSeq (ExL.pures 1 rfl ?_)
  refine ExL.op rfl (op_ret rfl rfl rfl (c_ValidStack _ (by assumption) _ _ (by first | assumption | omega | (unfold maxLen; omega))) (Reads.get (Reads.old hs)) rfl rfl (fun x2 hx2 => ?_))
  refine ExL.pures 1 rfl ?_
  refine ExL.nil ?_
  refine Ex.cond rfl (fun hb3 => ?_) (fun hb3 => ?_)
  · replace hb3 := nb_t hb3
    refine Ex.regSeq (ExL.pures 1 rfl ?_)
    refine ExL.nil ?_
    refine Ex.ret ?_
    refine RetQ.mk () rfl (.tmp rfl .nil) (tB (by first | (rw [(by assumption : validStack s = false)]; rfl) | (rw [(by assumption : validStack s = true), Bool.true_and]; first | exact good_all (by omega) hall | exact bad_lo (k := k) (by omega) (by omega) (by assumption) | exact bad_hi (k := k) (by omega) (by omega) (by omega)))) [] (rfl) rfl (trivial)
  · replace hb3 := nb_f hb3
    refine Ex.skip ?_
    refine Ex.seq ?_
    refine Ex.regSeq (ExL.pures 0 rfl ?_)
    refine ExL.free (fr_loadN rfl rfl rfl rfl rfl (SegO.whole (i := 0) rfl)) rfl rfl rfl ?_
    refine ExL.pures 1 rfl ?_
    refine ExL.nil ?_
    refine Ex.block ?_
    refine Ex.loopK (X := Nat) (fun k => [(11, .int .i64 k)]) (fun k => []) (fun k => k ≤ 8 ∧ ∀ i, i < k → goodAt s a.l i = true) (fun k => 8 - k) 0 [(0, _), (10, _)] [] 1 [] ⟨rfl, trivial⟩ ⟨rfl, rfl, trivial⟩ (rfl) rfl ⟨Nat.zero_le _, fun i hi => by omega⟩ (fun k hI => ?_)
    have hI : k ≤ 8 ∧ ∀ i, i < k → goodAt s a.l i = true := hI
    obtain ⟨hk, hall⟩ := hI
    have hb := ha.at_ (by omega) k
    refine Ex.regSeq (ExL.pures 0 rfl ?_)
    refine ExL.lss rfl rfl rfl rfl rfl rfl (fun h4 => ?_) (fun h4 => ?_)
    · refine ExL.nil ?_
      refine Ex.seq ?_
      refine Ex.cond_t rfl ?_
      refine Ex.skip ?_
      refine Ex.seq ?_
      refine Ex.block ?_
      refine Ex.regSeq (ExL.pures 1 rfl ?_)
      refine ExL.free (fr_index (sz := 1) rfl rfl rfl rfl rfl rfl rfl (by omega) (idxG (eI_len .u8) 0 rfl (by rw [dig_len]; omega) rfl)) rfl rfl rfl ?_
      refine ExL.pures 2 rfl ?_
      refine ExL.nil ?_
      refine Ex.regSeq (ExL.pures 3 rfl ?_)
      refine ExL.lss rfl rfl rfl rfl rfl rfl (fun h5 => ?_) (fun h5 => ?_)
      · refine ExL.pures 4 rfl ?_
        refine ExL.free (fr_indexAddrF (Reads.old hs) (eI_len .u8) rfl rfl rfl rfl rfl rfl (by omega)) rfl rfl rfl ?_
        refine ExL.free (fr_load rfl rfl rfl rfl (by first | exact cellN (Reads.old hs) (eI_len .u8) 0 0 rfl (by omega) rfl | exact cellF (Reads.old hs) (eI_len .u8) 0 0 rfl (by omega) rfl)) rfl rfl rfl ?_
        refine ExL.geq rfl rfl rfl rfl rfl rfl (fun h6 => ?_) (fun h6 => ?_)
        · refine ExL.pures 11 rfl ?_
          refine ExL.nil ?_
          refine Ex.cond_t rfl ?_
          refine Ex.regSeq (ExL.pures 1 rfl ?_)
          refine ExL.nil ?_
          refine Ex.ret ?_
          refine RetQ.mk () rfl (.tmp rfl .nil) (tB (by first | (rw [(by assumption : validStack s = false)]; rfl) | (rw [(by assumption : validStack s = true), Bool.true_and]; first | exact good_all (by omega) hall | exact bad_lo (k := k) (by omega) (by omega) (by assumption) | exact bad_hi (k := k) (by omega) (by omega) (by omega)))) [] (rfl) rfl (trivial)
        · refine ExL.pures 5 rfl ?_
          refine ExL.geq rfl rfl rfl rfl rfl rfl (fun h7 => ?_) (fun h7 => ?_)
          · refine ExL.pures 2 rfl ?_
            refine ExL.gtr rfl rfl rfl rfl rfl rfl (fun h8 => ?_) (fun h8 => ?_)
            · refine ExL.pures 2 rfl ?_
              refine ExL.nil ?_
              refine Ex.cond_t rfl ?_
              refine Ex.regSeq (ExL.pures 1 rfl ?_)
              refine ExL.nil ?_
              refine Ex.ret ?_
              refine RetQ.mk () rfl (.tmp rfl .nil) (tB (by first | (rw [(by assumption : validStack s = false)]; rfl) | (rw [(by assumption : validStack s = true), Bool.true_and]; first | exact good_all (by omega) hall | exact bad_lo (k := k) (by omega) (by omega) (by assumption) | exact bad_hi (k := k) (by omega) (by omega) (by omega)))) [] (rfl) rfl (trivial)
            · refine ExL.pures 2 rfl ?_
              refine ExL.nil ?_
              refine Ex.cond_f rfl ?_
              refine Ex.skip ?_
              refine Ex.region (ExL.pures 0 rfl ?_)
              refine ExL.free (by first | exact fr_add64 rfl rfl rfl (by omega) | exact fr_add rfl rfl rfl) rfl rfl rfl ?_
              refine ExL.pures 1 rfl ?_
              refine ExL.nil ?_
              refine Hand.mk (k + 1) 0 [] ⟨rfl, trivial⟩ ⟨rfl, rfl, trivial⟩ (rfl) rfl (⟨by omega, all_snoc hall (by first | exact good_lo (by omega) (by first | assumption | omega) | exact good_hi (by omega) (by omega))⟩) (by omega)
          · refine ExL.pures 5 rfl ?_
            refine ExL.nil ?_
            refine Ex.cond_f rfl ?_
            refine Ex.skip ?_
            refine Ex.region (ExL.pures 0 rfl ?_)
            refine ExL.free (by first | exact fr_add64 rfl rfl rfl (by omega) | exact fr_add rfl rfl rfl) rfl rfl rfl ?_
            refine ExL.pures 1 rfl ?_
            refine ExL.nil ?_
            refine Hand.mk (k + 1) 0 [] ⟨rfl, trivial⟩ ⟨rfl, rfl, trivial⟩ (rfl) rfl (⟨by omega, all_snoc hall (by first | exact good_lo (by omega) (by first | assumption | omega) | exact good_hi (by omega) (by omega))⟩) (by omega)
      · refine ExL.pures 12 rfl ?_
        refine ExL.geq rfl rfl rfl rfl rfl rfl (fun h9 => ?_) (fun h9 => ?_)
        · refine ExL.pures 2 rfl ?_
          refine ExL.gtr rfl rfl rfl rfl rfl rfl (fun h10 => ?_) (fun h10 => ?_)
          · refine ExL.pures 2 rfl ?_
            refine ExL.nil ?_
            refine Ex.cond_t rfl ?_
            refine Ex.regSeq (ExL.pures 1 rfl ?_)
            refine ExL.nil ?_
            refine Ex.ret ?_
            refine RetQ.mk () rfl (.tmp rfl .nil) (tB (by first | (rw [(by assumption : validStack s = false)]; rfl) | (rw [(by assumption : validStack s = true), Bool.true_and]; first | exact good_all (by omega) hall | exact bad_lo (k := k) (by omega) (by omega) (by assumption) | exact bad_hi (k := k) (by omega) (by omega) (by omega)))) [] (rfl) rfl (trivial)
          · refine ExL.pures 2 rfl ?_
            refine ExL.nil ?_
            refine Ex.cond_f rfl ?_
            refine Ex.skip ?_
            refine Ex.region (ExL.pures 0 rfl ?_)
            refine ExL.free (by first | exact fr_add64 rfl rfl rfl (by omega) | exact fr_add rfl rfl rfl) rfl rfl rfl ?_
            refine ExL.pures 1 rfl ?_
            refine ExL.nil ?_
            refine Hand.mk (k + 1) 0 [] ⟨rfl, trivial⟩ ⟨rfl, rfl, trivial⟩ (rfl) rfl (⟨by omega, all_snoc hall (by first | exact good_lo (by omega) (by first | assumption | omega) | exact good_hi (by omega) (by omega))⟩) (by omega)
        · refine ExL.pures 5 rfl ?_
          refine ExL.nil ?_
          refine Ex.cond_f rfl ?_
          refine Ex.skip ?_
          refine Ex.region (ExL.pures 0 rfl ?_)
          refine ExL.free (by first | exact fr_add64 rfl rfl rfl (by omega) | exact fr_add rfl rfl rfl) rfl rfl rfl ?_
          refine ExL.pures 1 rfl ?_
          refine ExL.nil ?_
          refine Hand.mk (k + 1) 0 [] ⟨rfl, trivial⟩ ⟨rfl, rfl, trivial⟩ (rfl) rfl (⟨by omega, all_snoc hall (by first | exact good_lo (by omega) (by first | assumption | omega) | exact good_hi (by omega) (by omega))⟩) (by omega)
    · refine ExL.nil ?_
      refine Ex.seq ?_
      refine Ex.cond_f rfl ?_
      refine Ex.exit ?_
      refine Ex.regSeq (ExL.pures 1 rfl ?_)
      refine ExL.nil ?_
      refine Ex.ret ?_
      refine RetQ.mk () rfl (.tmp rfl .nil) (tB (by first | (rw [(by assumption : validStack s = false)]; rfl) | (rw [(by assumption : validStack s = true), Bool.true_and]; first | exact good_all (by omega) hall | exact bad_lo (k := k) (by omega) (by omega) (by assumption) | exact bad_hi (k := k) (by omega) (by omega) (by omega)))) [] (rfl) rfl (trivial)
end Go.Proofs.YtddflaaccmjoeaaGreatDoor

/- What these functions of the program hand back, each proved by walking its operations. -/
set_option linter.unusedVariables false
set_option linter.unusedSimpArgs false
set_option maxRecDepth 4000
namespace Go.Proofs.YtddflaaccmjoeaaGreatDoor
open Go Go.Sx Go.RowKit Go.W Go.Proofs
attribute [local irreducible] Ex ExL ExD Op1 Free RetQ MutQ Reads CellO SegO LoadsAs
theorem e_105 : Enters Tryz.prog 105 := Enters.of Tryz.func105 rfl
theorem c_back1 (s : List Int) (As : Option Addr) (cs : Nat) (hls : s.length ≤ maxLen) (b base : Nat) (w0 : World) (hs : RdB base w0 As (s.flatMap (eI .u8))) : Iter Tryz.prog 105 [.pointer (some ⟨b, 0, none⟩)] base w0 (.blk b [.slice As s.length cs] 24) s.length (fun k => [.int .i64 ((s.length - 1 - k : Nat) : Int), .int .u8 (s.getD (s.length - 1 - k) 0)]) := by
  refine Iter.of e_105 Tryz.func105 rfl Tryz.ntmps105 rfl rfl (fun w1 l Mf hW hY => ?_)
  have hs := hs.keep hW
  have hm0 : maxLen = 9223372036854775807 := rfl
  refine Ex.regSeq (ExL.pures 0 rfl ?_)
  refine ExL.free (fr_load rfl rfl rfl rfl (CellO.blk (i := 0) rfl rfl)) rfl rfl rfl ?_
  refine ExL.pures 1 rfl ?_
  refine ExL.free (fr_sub64 rfl rfl rfl (by omega)) rfl rfl rfl ?_
  refine ExL.pures 1 rfl ?_
  refine ExL.nil ?_
  refine Ex.block ?_
  refine Ex.loopK (X := Nat) (fun k => [(3, .int .i64 ((s.length : Int) - 1 - k))]) (fun k => .blk b [.slice As s.length cs] 24 :: Mf k) (fun k => k ≤ s.length) (fun k => s.length - k) 0 [(0, _), (1, _)] [] 1 [0] ⟨agI (by simp), trivial⟩ ⟨rfl, rfl, trivial⟩ pick_box rfl (Nat.zero_le _) (fun k hI => ?_)
  refine Ex.seq ?_
  refine Ex.regSeq (ExL.pures 1 rfl ?_)
  refine ExL.geq rfl rfl rfl rfl rfl rfl (fun h1 => ?_) (fun h1 => ?_)
  · have hk : k < s.length := by omega
    have hj : (s.length : Int) - 1 - k = ((s.length - 1 - k : Nat) : Int) := by omega
    rw [hj]
    refine ExL.nil ?_
    refine Ex.cond_t rfl ?_
    refine Ex.skip ?_
    refine Ex.seq ?_
    refine Ex.block ?_
    refine Ex.regSeq (ExL.pures 2 rfl ?_)
    refine ExL.free (fr_load rfl rfl rfl rfl (CellO.blk (i := 0) rfl rfl)) rfl rfl rfl ?_
    refine ExL.pures 1 rfl ?_
    refine ExL.free (fr_indexAddrF (Reads.old hs) (eI_len .u8) rfl rfl rfl rfl rfl rfl (by omega)) rfl rfl rfl ?_
    refine ExL.free (fr_load rfl rfl rfl rfl (cellN (Reads.old hs) (eI_len .u8) 0 0 rfl (by omega) rfl)) rfl rfl rfl ?_
    refine ExL.yield rfl rfl rfl rfl rfl rfl (fun w hw => hY k w hk (by simpa using hw)) ?_
    refine ExL.pures 1 rfl ?_
    refine ExL.nil ?_
    refine Ex.cond_f rfl ?_
    refine Ex.skip ?_
    refine Ex.region (ExL.pures 1 rfl ?_)
    refine ExL.free (fr_sub64 rfl rfl rfl (by omega)) rfl rfl rfl ?_
    refine ExL.pures 1 rfl ?_
    refine ExL.nil ?_
    exact Hand.mk (k + 1) 1 [0] ⟨agI (by omega), trivial⟩ ⟨rfl, rfl, trivial⟩ pick_box rfl (by omega) (by omega)
  · refine ExL.nil ?_
    refine Ex.cond_f rfl ?_
    refine Ex.exit ?_
    obtain rfl : k = s.length := (by omega)
    exact ⟨rfl, by simp⟩
theorem e_82 : Enters Tryz.prog 82 := Enters.of Tryz.func82 rfl
theorem c_Back (s : List Int) (As : Option Addr) (cs : Nat) : Ret Tryz.prog 82 [.slice As s.length cs] (fun w => True) (fun x : Nat => .func (.func 105) #[] (List.toArray [.pointer (some ⟨x, 0, none⟩)])) (fun x => [.blk x [.slice As s.length cs] 24]) (fun x => True) := by
  refine Ret.of e_82 Tryz.func82 rfl Tryz.ntmps82 rfl rfl (fun w hpre => ?_)
  refine Ex.regSeq (ExL.pures 0 rfl ?_)
  refine ExL.op rfl (op_box rfl rfl rfl rfl rfl (fun b1 => ?_))
  refine ExL.pures 1 rfl ?_
  refine ExL.nil ?_
  refine Ex.regSeq (ExL.pures 0 rfl ?_)
  refine ExL.free (fr_makeFunc rfl rfl rfl) rfl rfl rfl ?_
  refine ExL.pures 1 rfl ?_
  refine ExL.nil ?_
  refine Ex.ret ?_
  refine RetQ.mk _ rfl (.tmp rfl .nil) (rfl) [0] (rfl) rfl (trivial)
theorem e_41 : Enters Tryz.prog 41 := Enters.of Tryz.func41 rfl
theorem c_value (s : List Int) (hv : validStack s = true) (As : Option Addr) (cs : Nat) (a : Dig) (ha : Nums 255 a.l) (hd : validDig s a.l = true) : Ret Tryz.prog 41 [.slice As s.length cs, .agg (encD a).toArray] (fun w => Rd w As (s.flatMap (eI .u8))) (fun x : Unit => .int .i64 (val s a.l)) (fun x => []) (fun x => True) := by
  refine Ret.of e_41 Tryz.func41 rfl Tryz.ntmps41 rfl rfl (fun w hpre => ?_)
  have hs := hpre.base
  have hS := stk hv
  have h8 := hS.len8
  have hD := digOk h8 ha hd
  have hn : s.length ≤ a.l.length := by rw [dig_len]; omega
  have hm0 : maxLen = 9223372036854775807 := rfl
  refine Ex.regSeq (ExL.pures 0 rfl ?_)
  refine ExL.op rfl (op_box rfl rfl rfl rfl rfl (fun b1 => ?_))
  refine ExL.pures 1 rfl ?_
  refine ExL.nil ?_
  refine Ex.regSeq (ExL.pures 0 rfl ?_)
  refine ExL.op rfl (op_alloc rfl rfl rfl rfl rfl (fun b2 => ?_))
  refine ExL.op rfl (op_storeC (i := 0) rfl rfl rfl rfl rfl rfl rfl rfl rfl rfl ?_)
  refine ExL.nil ?_
  refine ExT.seq ?_
  refine ExT.reg (ExL.pures 1 rfl ?_)
  refine ExL.op rfl (op_ret rfl rfl rfl (c_Back s _ _) (fun _ _ => trivial) rfl rfl (fun x3 hx3 => ?_))
  refine ExL.nil ?_
  refine Ex.rangeK (N := s.length) (encs := fun k => [.int .i64 ((s.length - 1 - k : Nat) : Int), .int .u8 (s.getD (s.length - 1 - k) 0)]) (fun k => [(6, .int .i64 ((s.length - 1 - k : Nat) : Int)), (7, .int .u8 (s.getD (s.length - 1 - k) 0))]) (fun k => [.blk b2 [.int .i64 (val (s.drop (s.length - k)) (a.l.drop (s.length - k)))] 2]) [(3, _), (5, _)] [_] 3 [0, 1, 2] rfl (c_back1 s As cs (by have := hS.len8; omega) _ _ _ hs) (fun _ => rfl) rfl rfl rfl (by rw [val_end (k := s.length - 0) (by omega)]; rfl) rfl ⟨rfl, rfl, trivial⟩ (fun l k W hk hW => ?_) (fun l k W hk hW => ?_) (fun D W hW => ?_)
  · have hs := hs.keep hW
    refine Ex.regSeq (ExL.pures 1 rfl ?_)
    refine ExL.nil ?_
    refine Ex.region (ExL.pures 1 rfl ?_)
    refine ExL.nil ?_
    exact ⟨rfl, ⟨rfl, rfl, rfl, rfl, trivial⟩, rfl⟩
  · have hs := hs.keep hW
    obtain ⟨j, hj, hj1, hj2⟩ : ∃ j, s.length - 1 - k = j ∧ s.length - k = j + 1 ∧ s.length - (k + 1) = j := ⟨_, rfl, by omega, by omega⟩
    have hjs : j < s.length := by omega
    have hst := val_step hS hD hn hjs
    have hb := hS.bases j hjs
    rw [hj, hj1, hj2]
    refine Ex.block ?_
    refine Ex.drawM rfl ?_
    refine ExD.take (i := 0) rfl (by kernel_rfl) (fr_load rfl rfl rfl rfl (CellO.blk (i := 1) rfl rfl)) ((List.Sublist.refl _)) rfl rfl rfl ?_
    refine ExD.take (i := 1) rfl (by kernel_rfl) (pureVal_ok rfl) ((List.Sublist.refl _)) rfl rfl rfl ?_
    refine ExD.take (i := 2) rfl (by kernel_rfl) (by first | exact fr_conv64 rfl rfl rfl rfl (by omega) | exact fr_conv rfl rfl rfl rfl) ((List.Sublist.refl _)) rfl rfl rfl ?_
    refine ExD.take (i := 3) rfl (by kernel_rfl) (by first | exact fr_mul64 rfl rfl rfl (by omega) | exact fr_mul rfl rfl rfl) ((List.Sublist.refl _)) rfl rfl rfl ?_
    refine ExD.take (i := 4) rfl (by kernel_rfl) (pureVal_ok rfl) ((List.Sublist.refl _)) rfl rfl rfl ?_
    refine ExD.take (i := 5) rfl (by kernel_rfl) (fr_indexAddr_b (sz := 1) rfl rfl rfl rfl rfl (by omega)) ((List.Sublist.refl _)) rfl rfl rfl ?_
    refine ExD.take (i := 6) rfl (by kernel_rfl) (fr_load rfl rfl rfl rfl (CellO.blk (i := 2) rfl (blkG (eI_len .u8) 0 rfl (by rw [dig_len]; omega) rfl))) ((List.Sublist.refl _)) rfl rfl rfl ?_
    refine ExD.take (i := 7) rfl (by kernel_rfl) (by first | exact fr_conv64 rfl rfl rfl rfl (by omega) | exact fr_conv rfl rfl rfl rfl) ((List.Sublist.refl _)) rfl rfl rfl ?_
    refine ExD.take (i := 8) rfl (by kernel_rfl) (by first | exact fr_add64 rfl rfl rfl (by omega) | exact fr_add rfl rfl rfl) ((List.Sublist.refl _)) rfl rfl rfl ?_
    refine ExD.last (i := 9) rfl (by kernel_rfl) (by kernel_rfl) rfl (op_storeC (i := 1) rfl rfl rfl rfl rfl rfl rfl rfl rfl rfl ?_)
    refine ExD.done (by kernel_rfl) ?_
    exact ⟨rfl, 3, [0, 1, 2], (by rw [hst.1]; rfl), rfl⟩
  · have hs := hs.keep hW
    rw [Nat.sub_self, List.drop_zero, List.drop_zero]
    refine Ex.regSeq (ExL.pures 0 rfl ?_)
    refine ExL.free (fr_load rfl rfl rfl rfl (CellO.blk (i := 1) rfl rfl)) rfl rfl rfl ?_
    refine ExL.pures 1 rfl ?_
    refine ExL.nil ?_
    refine Ex.ret ?_
    refine ⟨rfl, ?_⟩
    refine RetQ.mk () rfl (.tmp rfl .nil) (rfl) [] (rfl) rfl (trivial)
theorem e_110 : Enters Tryz.prog 110 := Enters.of Tryz.func110 rfl
theorem c_floor (a b : Int) (ha : -9000000000000000000 ≤ a ∧ a ≤ 9000000000000000000) (hb : 1 ≤ b ∧ b ≤ 9000000000000000000) : Ret Tryz.prog 110 [.int .i64 a, .int .i64 b] (fun w => True) (fun x : Unit => .int .i64 (a / b)) (fun x => []) (fun x => True) := by
  refine Ret.of e_110 Tryz.func110 rfl Tryz.ntmps110 rfl rfl (fun w hpre => ?_)
  have hq1 := (tdiv_bd (a := a) (b := b) (by omega)).1
  have hq2 := (tdiv_bd (a := a) (b := b) (by omega)).2
  have hs1 := (tmod_sign (a := a) (b := b) (by omega)).1
  have hs2 := (tmod_sign (a := a) (b := b) (by omega)).2
  have hw : IntKind.i64.wrap (a.tdiv b) = a.tdiv b := wrap_i64 (by omega) (by omega)
  refine Ex.regSeq (ExL.pures 1 rfl ?_)
  refine ExL.nil ?_
  refine Ex.regSeq (ExL.pures 2 rfl ?_)
  refine ExL.free (fr_quoW _ rfl rfl rfl (by omega) hw) rfl rfl rfl ?_
  refine ExL.pures 1 rfl ?_
  refine ExL.nil ?_
  refine Ex.seq ?_
  refine Ex.regSeq (ExL.pures 2 rfl ?_)
  refine ExL.free (by first | exact fr_remP rfl rfl rfl (by omega) | exact fr_rem rfl rfl rfl (by omega)) rfl rfl rfl ?_
  refine ExL.neq rfl rfl rfl rfl rfl rfl (fun h1 => ?_) (fun h1 => ?_)
  · refine ExL.pures 2 rfl ?_
    refine ExL.lss rfl rfl rfl rfl rfl rfl (fun h2 => ?_) (fun h2 => ?_)
    · refine ExL.pures 1 rfl ?_
      refine ExL.lss rfl rfl rfl rfl rfl rfl (fun h3 => ?_) (fun h3 => ?_)
      · refine ExL.free (fr_neq_bool rfl rfl rfl rfl) rfl rfl rfl ?_
        refine ExL.pures 1 rfl ?_
        refine ExL.nil ?_
        refine Ex.cond_f rfl ?_
        refine Ex.skip ?_
        refine Ex.regSeq (ExL.pures 2 rfl ?_)
        refine ExL.nil ?_
        refine Ex.ret ?_
        refine RetQ.mk () rfl (.tmp rfl .nil) (tI (by first | exact floor_dn (by omega) (by omega) | exact floor_up (by omega) (by omega))) [] (rfl) rfl (trivial)
      · refine ExL.free (fr_neq_bool rfl rfl rfl rfl) rfl rfl rfl ?_
        refine ExL.pures 1 rfl ?_
        refine ExL.nil ?_
        refine Ex.cond_t rfl ?_
        refine Ex.region (ExL.pures 1 rfl ?_)
        refine ExL.free (by first | exact fr_sub64 rfl rfl rfl (by omega) | exact fr_sub rfl rfl rfl) rfl rfl rfl ?_
        refine ExL.pures 1 rfl ?_
        refine ExL.nil ?_
        refine Ex.regSeq (ExL.pures 2 rfl ?_)
        refine ExL.nil ?_
        refine Ex.ret ?_
        refine RetQ.mk () rfl (.tmp rfl .nil) (tI (by first | exact floor_dn (by omega) (by omega) | exact floor_up (by omega) (by omega))) [] (rfl) rfl (trivial)
    · refine ExL.pures 1 rfl ?_
      refine ExL.lss rfl rfl rfl rfl rfl rfl (fun h4 => ?_) (fun h4 => ?_)
      · refine ExL.free (fr_neq_bool rfl rfl rfl rfl) rfl rfl rfl ?_
        refine ExL.pures 1 rfl ?_
        refine ExL.nil ?_
        refine Ex.cond_t rfl ?_
        refine Ex.region (ExL.pures 1 rfl ?_)
        refine ExL.free (by first | exact fr_sub64 rfl rfl rfl (by omega) | exact fr_sub rfl rfl rfl) rfl rfl rfl ?_
        refine ExL.pures 1 rfl ?_
        refine ExL.nil ?_
        refine Ex.regSeq (ExL.pures 2 rfl ?_)
        refine ExL.nil ?_
        refine Ex.ret ?_
        refine RetQ.mk () rfl (.tmp rfl .nil) (tI (by first | exact floor_dn (by omega) (by omega) | exact floor_up (by omega) (by omega))) [] (rfl) rfl (trivial)
      · refine ExL.free (fr_neq_bool rfl rfl rfl rfl) rfl rfl rfl ?_
        refine ExL.pures 1 rfl ?_
        refine ExL.nil ?_
        refine Ex.cond_f rfl ?_
        refine Ex.skip ?_
        refine Ex.regSeq (ExL.pures 2 rfl ?_)
        refine ExL.nil ?_
        refine Ex.ret ?_
        refine RetQ.mk () rfl (.tmp rfl .nil) (tI (by first | exact floor_dn (by omega) (by omega) | exact floor_up (by omega) (by omega))) [] (rfl) rfl (trivial)
  · refine ExL.pures 7 rfl ?_
    refine ExL.nil ?_
    refine Ex.cond_f rfl ?_
    refine Ex.skip ?_
    refine Ex.regSeq (ExL.pures 2 rfl ?_)
    refine ExL.nil ?_
    refine Ex.ret ?_
    refine RetQ.mk () rfl (.tmp rfl .nil) (tI (by first | exact floor_dn (by omega) (by omega) | exact floor_up (by omega) (by omega))) [] (rfl) rfl (trivial)
theorem e_90 : Enters Tryz.prog 90 := Enters.of Tryz.func90 rfl
theorem c_wrapped (a b : Int) (ha : -8000000000000000000 ≤ a ∧ a ≤ 8000000000000000000) (hb : 1 ≤ b ∧ b ≤ 1000000000000000000) : Ret Tryz.prog 90 [.int .i64 a, .int .i64 b] (fun w => True) (fun x : Unit => .tuple #[.int .i64 (a % b), .int .i64 (a / b)]) (fun x => []) (fun x => True) := by
  refine Ret.of e_90 Tryz.func90 rfl Tryz.ntmps90 rfl rfl (fun w hpre => ?_)
  have h1 := Int.emod_add_mul_ediv a b
  have h2 := Int.emod_nonneg a (show b ≠ 0 by omega)
  have h3 := Int.emod_lt_of_pos a (show 0 < b by omega)
  rw [Int.mul_comm b] at h1
  refine Ex.regSeq (ExL.pures 2 rfl ?_)
  refine ExL.nil ?_
  refine Ex.regSeq (ExL.pures 2 rfl ?_)
  refine ExL.op rfl (op_ret rfl rfl rfl (c_floor _ _ (by omega) (by omega)) (fun _ _ => trivial) rfl rfl (fun x1 hx1 => ?_))
  refine ExL.pures 1 rfl ?_
  refine ExL.nil ?_
  refine Ex.regSeq (ExL.pures 3 rfl ?_)
  refine ExL.free (by first | exact fr_mul64 rfl rfl rfl (by omega) | exact fr_mul rfl rfl rfl) rfl rfl rfl ?_
  refine ExL.free (by first | exact fr_sub64 rfl rfl rfl (by omega) | exact fr_sub rfl rfl rfl) rfl rfl rfl ?_
  refine ExL.pures 3 rfl ?_
  refine ExL.nil ?_
  refine Ex.ret ?_
  refine RetQ.mk () rfl (.tmp rfl (.tmp rfl .nil)) (t2 (vI (by omega)) rfl) [] (rfl) rfl (trivial)
theorem e_45 : Enters Tryz.prog 45 := Enters.of Tryz.func45 rfl
theorem c_digits (s : List Int) (hv : validStack s = true) (As : Option Addr) (cs : Nat) (v : Int) (hv0 : 0 ≤ v ∧ v ≤ 9000000000000000000) : Ret Tryz.prog 45 [.slice As s.length cs, .int .i64 v] (fun w => Rd w As (s.flatMap (eI .u8))) (fun x : Unit => .agg (encD (dig (digs s v))).toArray) (fun x => []) (fun x => True) := by
  refine Ret.of e_45 Tryz.func45 rfl Tryz.ntmps45 rfl rfl (fun w hpre => ?_)
  have hs := hpre.base
  have hS := stk hv
  have h8 := hS.len8
  have hm0 : maxLen = 9223372036854775807 := rfl
  refine Ex.regSeq (ExL.pures 0 rfl ?_)
  refine ExL.op rfl (op_alloc rfl rfl rfl rfl rfl (fun b1 => ?_))
  refine ExL.nil ?_
  refine Ex.regSeq (ExL.pures 0 rfl ?_)
  refine ExL.free (fr_build rfl rfl rfl rfl) rfl rfl rfl ?_
  refine ExL.op rfl (op_alloc rfl rfl rfl rfl rfl (fun b2 => ?_))
  refine ExL.op rfl (op_storeC (i := 0) rfl rfl rfl rfl rfl rfl rfl rfl rfl rfl ?_)
  refine ExL.nil ?_
  refine Ex.seq ?_
  refine Ex.regSeq (ExL.pures 3 rfl ?_)
  refine ExL.nil ?_
  refine Ex.block ?_
  refine Ex.loopK (X := Nat) (fun k => [(1, .int .i64 (v / prod (s.take k))), (11, .int .i64 k)]) (fun k => [.blk b2 ((Sx.part 0 (digs s v) k).flatMap (eI .u8)) 80]) (fun k => k ≤ s.length) (fun k => s.length - k) 0 [(4, _), (5, _), (9, _), (10, _)] [_] 2 [0, 1] ⟨agI (by simp [prod]), rfl, trivial⟩ ⟨rfl, rfl, rfl, rfl, trivial⟩ (pkB (by rw [part_zero, digs_len]; rfl)) rfl (Nat.zero_le _) (fun k hI => ?_)
  have hI : k ≤ s.length := hI
  refine Ex.regSeq (ExL.pures 0 rfl ?_)
  refine ExL.lss rfl rfl rfl rfl rfl rfl (fun h3 => ?_) (fun h3 => ?_)
  · refine ExL.nil ?_
    refine Ex.seq ?_
    refine Ex.cond_t rfl ?_
    refine Ex.skip ?_
    refine Ex.seq ?_
    refine Ex.block ?_
    have hk : k < s.length := by omega
    have hb := hS.bases k hk
    have hx : 0 ≤ v / prod (s.take k) % s.getD k 0 ∧ v / prod (s.take k) % s.getD k 0 < s.getD k 0 := dAt_bd hS.bases hk
    have hp := prod_pos (hS.bases.take k)
    have hd0 := Int.ediv_nonneg hv0.1 (show 0 ≤ prod (s.take k) by omega)
    have hd1 := Int.ediv_le_self (prod (s.take k)) hv0.1
    refine Ex.regSeq (ExL.pures 1 rfl ?_)
    refine ExL.free (fr_indexAddrF (Reads.old hs) (eI_len .u8) rfl rfl rfl rfl rfl rfl (by omega)) rfl rfl rfl ?_
    refine ExL.free (fr_load rfl rfl rfl rfl (by first | exact cellN (Reads.old hs) (eI_len .u8) 0 0 rfl (by omega) rfl | exact cellF (Reads.old hs) (eI_len .u8) 0 0 rfl (by omega) rfl)) rfl rfl rfl ?_
    refine ExL.pures 2 rfl ?_
    refine ExL.nil ?_
    refine Ex.regSeq (ExL.pures 3 rfl ?_)
    refine ExL.free (by first | exact fr_conv64 rfl rfl rfl rfl (by omega) | exact fr_conv rfl rfl rfl rfl) rfl rfl rfl ?_
    refine ExL.free (by first | exact fr_remP rfl rfl rfl (by omega) | exact fr_rem rfl rfl rfl (by omega)) rfl rfl rfl ?_
    refine ExL.free (by first | exact fr_conv_u8 rfl rfl rfl rfl (by omega) | exact fr_conv rfl rfl rfl rfl) rfl rfl rfl ?_
    refine ExL.free (fr_indexAddr_b (sz := 1) rfl rfl rfl rfl rfl (by omega)) rfl rfl rfl ?_
    refine ExL.op rfl (op_store (i := 0) rfl rfl rfl rfl rfl rfl rfl rfl (room (eI_len .u8) (k := k) (part_lt (by rw [digs_len]; omega) (by rw [digs_len]; omega)) (by simp) rfl) rfl ?_)
    refine ExL.nil ?_
    refine Ex.region (ExL.pures 2 rfl ?_)
    refine ExL.free (by first | exact fr_conv64 rfl rfl rfl rfl (by omega) | exact fr_conv rfl rfl rfl rfl) rfl rfl rfl ?_
    refine ExL.free (by first | exact fr_quo64 rfl rfl rfl (by omega) | exact fr_quo rfl rfl rfl (by omega)) rfl rfl rfl ?_
    refine ExL.pures 1 rfl ?_
    refine ExL.nil ?_
    refine Ex.region (ExL.pures 0 rfl ?_)
    refine ExL.free (by first | exact fr_add64 rfl rfl rfl (by omega) | exact fr_add rfl rfl rfl) rfl rfl rfl ?_
    refine ExL.pures 1 rfl ?_
    refine ExL.nil ?_
    refine Hand.mk (k + 1) 2 [0, 1] ⟨agI (div_prod hS.bases hk), rfl, trivial⟩ ⟨rfl, rfl, rfl, rfl, trivial⟩ (pkB (part_put (eI_len .u8) 0 0 (digs s v) k (by rw [digs_len]; omega) (by simp) (congrArg (eI .u8) (digs_lo h8 hk).symm))) rfl (by omega) (by omega)
  · refine ExL.nil ?_
    refine Ex.seq ?_
    refine Ex.cond_f rfl ?_
    refine Ex.exit ?_
    obtain rfl : k = s.length := (by omega)
    rw [digs_part h8, ← encD_dig (digs_len s v)]
    refine Ex.regSeq (ExL.pures 0 rfl ?_)
    refine ExL.free (fr_loadN rfl rfl rfl rfl rfl (SegO.whole (i := 0) rfl)) rfl rfl rfl ?_
    refine ExL.op rfl (op_storeC (i := 1) rfl rfl rfl rfl rfl rfl rfl rfl rfl rfl ?_)
    refine ExL.nil ?_
    refine Ex.ret ?_
    refine RetQ.mk () rfl (.cell rfl (.many rfl rfl rfl (SegO.whole (i := 1) rfl)) .nil) (rfl) [] (rfl) rfl (trivial)
theorem e_87 : Enters Tryz.prog 87 := Enters.of Tryz.func87 rfl
theorem c_hasValue (s : List Int) (hu : Nums 255 s) (As : Option Addr) (cs : Nat) (hl : s.length ≤ maxLen) (v : Int) : Ret Tryz.prog 87 [.slice As s.length cs, .int .i64 v] (fun w => Rd w As (s.flatMap (eI .u8))) (fun x : Unit => .bool (decide (0 ≤ v ∧ v ≤ size s - 1))) (fun x => []) (fun x => True) := by
  refine Ret.of e_87 Tryz.func87 rfl Tryz.ntmps87 rfl rfl (fun w hpre => ?_)
  have hs := hpre.base
  have hz := size_bd hu s.length
  rw [List.take_length] at hz
  refine Ex.regSeq (ExL.pures 1 rfl ?_)
  refine ExL.nil ?_
  refine Ex.regSeq (ExL.pures 2 rfl ?_)
  refine ExL.op rfl (op_ret rfl rfl rfl (c_size _ (by assumption) _ _ (by first | assumption | omega | (unfold maxLen; omega))) (Reads.get (Reads.old hs)) rfl rfl (fun x1 hx1 => ?_))
  refine ExL.free (by first | exact fr_sub64 rfl rfl rfl (by omega) | exact fr_sub rfl rfl rfl) rfl rfl rfl ?_
  refine ExL.op rfl (op_ret rfl rfl rfl (c_within _ _ _) (fun _ _ => trivial) rfl rfl (fun x2 hx2 => ?_))
  refine ExL.pures 1 rfl ?_
  refine ExL.nil ?_
  refine Ex.ret ?_
  refine RetQ.mk () rfl (.tmp rfl .nil) (rfl) [] (rfl) rfl (trivial)
end Go.Proofs.YtddflaaccmjoeaaGreatDoor

/- What these functions of the program hand back, each proved by walking its operations. -/
set_option linter.unusedVariables false
set_option linter.unusedSimpArgs false
set_option maxRecDepth 4000
namespace Go.Proofs.YtddflaaccmjoeaaGreatDoor
open Go Go.Sx Go.RowKit Go.W Go.Proofs
attribute [local irreducible] Ex ExL ExD Op1 Free RetQ MutQ Reads CellO SegO LoadsAs
end Go.Proofs.YtddflaaccmjoeaaGreatDoor

/- What these functions of the program hand back, each proved by walking its operations. -/
set_option linter.unusedVariables false
set_option linter.unusedSimpArgs false
set_option maxRecDepth 4000
namespace Go.Proofs.YtddflaaccmjoeaaGreatDoor
open Go Go.Sx Go.RowKit Go.W Go.Proofs
attribute [local irreducible] Ex ExL ExD Op1 Free RetQ MutQ Reads CellO SegO LoadsAs
theorem e_61 : Enters Tryz.prog 61 := Enters.of Tryz.func61 rfl
theorem c_next (code : List Int) (Ac : Option Addr) (cc : Nat) (hcl : code.length ≤ maxLen) (hcu : Nums 255 code) (b : Nat) (at_ sd : Int) (hat : 0 ≤ at_ ∧ at_ ≤ 2000000000) : Mut Tryz.prog 61 [.pointer (some ⟨b, 0, none⟩)] [.blk b [.slice Ac code.length cc, .int .i64 at_, .int .u64 sd] 113] (fun base w0 F => RdB base w0 Ac (code.flatMap (eI .u8))) (fun x : Int × Int => .int .i64 x.1) (fun x => [.blk b [.slice Ac code.length cc, .int .i64 (at_ + 1), .int .u64 x.2] 113]) (fun x => 0 ≤ x.1 ∧ x.1 ≤ 255) := by
  refine Mut.of e_61 Tryz.func61 rfl Tryz.ntmps61 rfl rfl (fun base w0 F hfr => ?_)
  have hcode := hfr
  have hx := hcu.at_ (by omega) at_.toNat
  have hm0 : maxLen = 9223372036854775807 := rfl
  refine Ex.regSeq (ExL.pures 1 rfl ?_)
  refine ExL.nil ?_
  refine Ex.regSeq (ExL.pures 1 rfl ?_)
  refine ExL.nil ?_
  refine Ex.seq ?_
  refine Ex.drawSeqM rfl ?_
  refine ExD.take (i := 0) rfl (by kernel_rfl) (pureVal_ok rfl) ((List.Sublist.refl _)) rfl rfl rfl ?_
  refine ExD.take (i := 1) rfl (by kernel_rfl) (pureVal_ok rfl) ((List.Sublist.refl _)) rfl rfl rfl ?_
  refine ExD.take (i := 2) rfl (by kernel_rfl) (pureVal_ok rfl) ((List.Sublist.refl _)) rfl rfl rfl ?_
  refine ExD.take (i := 3) rfl (by kernel_rfl) (fr_load rfl rfl rfl rfl (CellO.blk (i := 0) rfl rfl)) ((List.Sublist.refl _)) rfl rfl rfl ?_
  refine ExD.take (i := 4) rfl (by kernel_rfl) (pureVal_ok rfl) ((List.Sublist.refl _)) rfl rfl rfl ?_
  refine ExD.take (i := 5) rfl (by kernel_rfl) (pureVal_ok rfl) ((List.Sublist.refl _)) rfl rfl rfl ?_
  refine ExD.take (i := 6) rfl (by kernel_rfl) (pureVal_ok rfl) ((List.Sublist.refl _)) rfl rfl rfl ?_
  refine ExD.take (i := 7) rfl (by kernel_rfl) (fr_load rfl rfl rfl rfl (CellO.blk (i := 0) rfl rfl)) ((List.Sublist.refl _)) rfl rfl rfl ?_
  refine ExD.take (i := 8) rfl (by kernel_rfl) (pureVal_ok rfl) ((List.Sublist.refl _)) rfl rfl rfl ?_
  refine ExD.cmp_lss (i := 9) rfl (by kernel_rfl) rfl rfl rfl ((List.Sublist.refl _)) rfl rfl rfl (fun h1 => ?_) (fun h1 => ?_)
  · refine ExD.done (by kernel_rfl) ?_
    refine Ex.cond_t rfl ?_
    refine Ex.drawM rfl ?_
    refine ExD.take (i := 0) rfl (by kernel_rfl) (pureVal_ok rfl) ((List.Sublist.refl _)) rfl rfl rfl ?_
    refine ExD.take (i := 1) rfl (by kernel_rfl) (pureVal_ok rfl) ((List.Sublist.refl _)) rfl rfl rfl ?_
    refine ExD.take (i := 2) rfl (by kernel_rfl) (pureVal_ok rfl) ((List.Sublist.refl _)) rfl rfl rfl ?_
    refine ExD.take (i := 3) rfl (by kernel_rfl) (fr_load rfl rfl rfl rfl (CellO.blk (i := 0) rfl rfl)) ((List.Sublist.refl _)) rfl rfl rfl ?_
    refine ExD.take (i := 4) rfl (by kernel_rfl) (pureVal_ok rfl) ((List.Sublist.refl _)) rfl rfl rfl ?_
    refine ExD.take (i := 5) rfl (by kernel_rfl) (pureVal_ok rfl) ((List.Sublist.refl _)) rfl rfl rfl ?_
    refine ExD.take (i := 6) rfl (by kernel_rfl) (pureVal_ok rfl) ((List.Sublist.refl _)) rfl rfl rfl ?_
    refine ExD.take (i := 7) rfl (by kernel_rfl) (fr_load rfl rfl rfl rfl (CellO.blk (i := 0) rfl rfl)) ((List.Sublist.refl _)) rfl rfl rfl ?_
    refine ExD.take (i := 8) rfl (by kernel_rfl) (fr_indexAddrF (Reads.old hcode) (eI_len .u8) rfl rfl rfl rfl rfl rfl (by omega)) ((List.Sublist.refl _)) rfl rfl rfl ?_
    refine ExD.take (i := 9) rfl (by kernel_rfl) (fr_load rfl rfl rfl rfl (by first | exact cellN (Reads.old hcode) (eI_len .u8) 0 0 rfl (by omega) rfl | exact cellF (Reads.old hcode) (eI_len .u8) 0 0 rfl (by omega) rfl)) ((List.Sublist.refl _)) rfl rfl rfl ?_
    refine ExD.take (i := 10) rfl (by kernel_rfl) (by first | exact fr_conv64 rfl rfl rfl rfl (by omega) | exact fr_conv rfl rfl rfl rfl) ((List.Sublist.refl _)) rfl rfl rfl ?_
    refine ExD.take (i := 11) rfl (by kernel_rfl) (pureVal_ok rfl) ((List.Sublist.refl _)) rfl rfl rfl ?_
    refine ExD.done (by kernel_rfl) ?_
    refine Ex.regSeq (ExL.pures 3 rfl ?_)
    refine ExL.free (fr_load rfl rfl rfl rfl (CellO.blk (i := 0) rfl rfl)) rfl rfl rfl ?_
    refine ExL.free (by first | exact fr_add64 rfl rfl rfl (by omega) | exact fr_add rfl rfl rfl) rfl rfl rfl ?_
    refine ExL.pures 2 rfl ?_
    refine ExL.op rfl (op_storeC (i := 0) rfl rfl rfl rfl rfl rfl rfl rfl rfl rfl ?_)
    refine ExL.nil ?_
    refine Ex.regSeq (ExL.pures 4 rfl ?_)
    refine ExL.free (fr_load rfl rfl rfl rfl (CellO.blk (i := 0) rfl rfl)) rfl rfl rfl ?_
    refine ExL.free (fr_mul rfl rfl rfl) rfl rfl rfl ?_
    refine ExL.pures 1 rfl ?_
    refine ExL.free (by first | exact fr_conv_u64 rfl rfl rfl rfl (by omega) | exact fr_conv rfl rfl rfl rfl) rfl rfl rfl ?_
    refine ExL.free (fr_add rfl rfl rfl) rfl rfl rfl ?_
    refine ExL.free (fr_add rfl rfl rfl) rfl rfl rfl ?_
    refine ExL.pures 2 rfl ?_
    refine ExL.op rfl (op_storeC (i := 0) rfl rfl rfl rfl rfl rfl rfl rfl rfl rfl ?_)
    refine ExL.nil ?_
    refine Ex.seq ?_
    refine Ex.drawSeqM rfl ?_
    refine ExD.take (i := 0) rfl (by kernel_rfl) (pureVal_ok rfl) ((List.Sublist.refl _)) rfl rfl rfl ?_
    refine ExD.take (i := 1) rfl (by kernel_rfl) (pureVal_ok rfl) ((List.Sublist.refl _)) rfl rfl rfl ?_
    refine ExD.take (i := 2) rfl (by kernel_rfl) (pureVal_ok rfl) ((List.Sublist.refl _)) rfl rfl rfl ?_
    refine ExD.take (i := 3) rfl (by kernel_rfl) (fr_load rfl rfl rfl rfl (CellO.blk (i := 0) rfl rfl)) ((List.Sublist.refl _)) rfl rfl rfl ?_
    refine ExD.take (i := 4) rfl (by kernel_rfl) (pureVal_ok rfl) ((List.Sublist.refl _)) rfl rfl rfl ?_
    refine ExD.take (i := 5) rfl (by kernel_rfl) (pureVal_ok rfl) ((List.Sublist.refl _)) rfl rfl rfl ?_
    refine ExD.take (i := 6) rfl (by kernel_rfl) (pureVal_ok rfl) ((List.Sublist.refl _)) rfl rfl rfl ?_
    refine ExD.take (i := 7) rfl (by kernel_rfl) (fr_load rfl rfl rfl rfl (CellO.blk (i := 0) rfl rfl)) ((List.Sublist.refl _)) rfl rfl rfl ?_
    refine ExD.take (i := 8) rfl (by kernel_rfl) (pureVal_ok rfl) ((List.Sublist.refl _)) rfl rfl rfl ?_
    refine ExD.cmp_leq (i := 9) rfl (by kernel_rfl) rfl rfl rfl ((List.Sublist.refl _)) rfl rfl rfl (fun h2 => ?_) (fun h2 => ?_)
    · refine ExD.done (by kernel_rfl) ?_
      refine Ex.cond_t rfl ?_
      refine Ex.regSeq (ExL.pures 2 rfl ?_)
      refine ExL.nil ?_
      refine Ex.ret ?_
      refine MutQ.mk (_, _) rfl (.tmp rfl .nil) (rfl) 1 [0] (rfl) rfl (by refine ⟨?_, ?_⟩ <;> first | exact hx.1 | exact hx.2 | (dsimp only; omega))
    · refine ExD.done (by kernel_rfl) ?_
      refine Ex.cond_f rfl ?_
      refine Ex.skip ?_
      refine Ex.regSeq (ExL.pures 3 rfl ?_)
      refine ExL.free (fr_load rfl rfl rfl rfl (CellO.blk (i := 0) rfl rfl)) rfl rfl rfl ?_
      refine ExL.free (fr_shr40 rfl rfl rfl) rfl rfl rfl ?_
      refine ExL.free (fr_and255w rfl rfl rfl) rfl rfl rfl ?_
      refine ExL.free (by first | exact fr_conv64 rfl rfl rfl rfl (by omega) | exact fr_conv rfl rfl rfl rfl) rfl rfl rfl ?_
      refine ExL.pures 1 rfl ?_
      refine ExL.nil ?_
      refine Ex.ret ?_
      refine MutQ.mk (_, _) rfl (.tmp rfl .nil) (rfl) 1 [0] (rfl) rfl (by refine ⟨?_, ?_⟩ <;> first | exact hx.1 | exact hx.2 | (dsimp only; omega))
  · refine ExD.done (by kernel_rfl) ?_
    refine Ex.cond_f rfl ?_
    refine Ex.skip ?_
    refine Ex.regSeq (ExL.pures 3 rfl ?_)
    refine ExL.free (fr_load rfl rfl rfl rfl (CellO.blk (i := 0) rfl rfl)) rfl rfl rfl ?_
    refine ExL.free (by first | exact fr_add64 rfl rfl rfl (by omega) | exact fr_add rfl rfl rfl) rfl rfl rfl ?_
    refine ExL.pures 2 rfl ?_
    refine ExL.op rfl (op_storeC (i := 0) rfl rfl rfl rfl rfl rfl rfl rfl rfl rfl ?_)
    refine ExL.nil ?_
    refine Ex.regSeq (ExL.pures 4 rfl ?_)
    refine ExL.free (fr_load rfl rfl rfl rfl (CellO.blk (i := 0) rfl rfl)) rfl rfl rfl ?_
    refine ExL.free (fr_mul rfl rfl rfl) rfl rfl rfl ?_
    refine ExL.pures 1 rfl ?_
    refine ExL.free (by first | exact fr_conv_u64 rfl rfl rfl rfl (by omega) | exact fr_conv rfl rfl rfl rfl) rfl rfl rfl ?_
    refine ExL.free (fr_add rfl rfl rfl) rfl rfl rfl ?_
    refine ExL.free (fr_add rfl rfl rfl) rfl rfl rfl ?_
    refine ExL.pures 2 rfl ?_
    refine ExL.op rfl (op_storeC (i := 0) rfl rfl rfl rfl rfl rfl rfl rfl rfl rfl ?_)
    refine ExL.nil ?_
    refine Ex.seq ?_
    refine Ex.drawSeqM rfl ?_
    refine ExD.take (i := 0) rfl (by kernel_rfl) (pureVal_ok rfl) ((List.Sublist.refl _)) rfl rfl rfl ?_
    refine ExD.take (i := 1) rfl (by kernel_rfl) (pureVal_ok rfl) ((List.Sublist.refl _)) rfl rfl rfl ?_
    refine ExD.take (i := 2) rfl (by kernel_rfl) (pureVal_ok rfl) ((List.Sublist.refl _)) rfl rfl rfl ?_
    refine ExD.take (i := 3) rfl (by kernel_rfl) (fr_load rfl rfl rfl rfl (CellO.blk (i := 0) rfl rfl)) ((List.Sublist.refl _)) rfl rfl rfl ?_
    refine ExD.take (i := 4) rfl (by kernel_rfl) (pureVal_ok rfl) ((List.Sublist.refl _)) rfl rfl rfl ?_
    refine ExD.take (i := 5) rfl (by kernel_rfl) (pureVal_ok rfl) ((List.Sublist.refl _)) rfl rfl rfl ?_
    refine ExD.take (i := 6) rfl (by kernel_rfl) (pureVal_ok rfl) ((List.Sublist.refl _)) rfl rfl rfl ?_
    refine ExD.take (i := 7) rfl (by kernel_rfl) (fr_load rfl rfl rfl rfl (CellO.blk (i := 0) rfl rfl)) ((List.Sublist.refl _)) rfl rfl rfl ?_
    refine ExD.take (i := 8) rfl (by kernel_rfl) (pureVal_ok rfl) ((List.Sublist.refl _)) rfl rfl rfl ?_
    refine ExD.cmp_leq (i := 9) rfl (by kernel_rfl) rfl rfl rfl ((List.Sublist.refl _)) rfl rfl rfl (fun h3 => ?_) (fun h3 => ?_)
    · refine ExD.done (by kernel_rfl) ?_
      refine Ex.cond_t rfl ?_
      refine Ex.regSeq (ExL.pures 2 rfl ?_)
      refine ExL.nil ?_
      refine Ex.ret ?_
      refine MutQ.mk (_, _) rfl (.tmp rfl .nil) (rfl) 1 [0] (rfl) rfl (by refine ⟨?_, ?_⟩ <;> first | exact hx.1 | exact hx.2 | (dsimp only; omega))
    · refine ExD.done (by kernel_rfl) ?_
      refine Ex.cond_f rfl ?_
      refine Ex.skip ?_
      refine Ex.regSeq (ExL.pures 3 rfl ?_)
      refine ExL.free (fr_load rfl rfl rfl rfl (CellO.blk (i := 0) rfl rfl)) rfl rfl rfl ?_
      refine ExL.free (fr_shr40 rfl rfl rfl) rfl rfl rfl ?_
      refine ExL.free (fr_and255w rfl rfl rfl) rfl rfl rfl ?_
      refine ExL.free (by first | exact fr_conv64 rfl rfl rfl rfl (by omega) | exact fr_conv rfl rfl rfl rfl) rfl rfl rfl ?_
      refine ExL.pures 1 rfl ?_
      refine ExL.nil ?_
      refine Ex.ret ?_
      refine MutQ.mk (_, _) rfl (.tmp rfl .nil) (rfl) 1 [0] (rfl) rfl (by refine ⟨?_, ?_⟩ <;> first | exact hx.1 | exact hx.2 | (dsimp only; omega))
theorem e_28 : Enters Tryz.prog 28 := Enters.of Tryz.func28 rfl
theorem c_pick (code : List Int) (Ac : Option Addr) (cc : Nat) (hcl : code.length ≤ maxLen) (hcu : Nums 255 code) (b : Nat) (at_ sd : Int) (hat : 0 ≤ at_ ∧ at_ ≤ 1000000000) (n : Int) (hn : n ≤ 9223372036854775807) : Mut Tryz.prog 28 [.pointer (some ⟨b, 0, none⟩), .int .i64 n] [.blk b [.slice Ac code.length cc, .int .i64 at_, .int .u64 sd] 113] (fun base w0 F => RdB base w0 Ac (code.flatMap (eI .u8))) (fun x : Int × Int × Int => .int .i64 x.1) (fun x => [.blk b [.slice Ac code.length cc, .int .i64 x.2.1, .int .u64 x.2.2] 113]) (fun x => 0 ≤ x.1 ∧ (x.1 < n ∨ x.1 = 0) ∧ at_ ≤ x.2.1 ∧ x.2.1 ≤ at_ + 2 ∧ x.1 ≤ 65535) := by
  refine Mut.of e_28 Tryz.func28 rfl Tryz.ntmps28 rfl rfl (fun base w0 F hfr => ?_)
  have hcode := hfr
  have hm0 : maxLen = 9223372036854775807 := rfl
  refine Ex.regSeq (ExL.pures 1 rfl ?_)
  refine ExL.nil ?_
  refine Ex.seq ?_
  refine Ex.regSeq (ExL.pures 1 rfl ?_)
  refine ExL.leq rfl rfl rfl rfl rfl rfl (fun h1 => ?_) (fun h1 => ?_)
  · refine ExL.nil ?_
    refine Ex.cond_t rfl ?_
    refine Ex.regSeq (ExL.pures 1 rfl ?_)
    refine ExL.nil ?_
    refine Ex.ret ?_
    refine MutQ.mk (_, _, _) rfl (.tmp rfl .nil) (rfl) 1 [0] (rfl) rfl (by refine ⟨?_, ?_, ?_, ?_, ?_⟩ <;> first | exact hm1 _ | exact .inl (hm2 _) | (dsimp only; omega) | (refine Int.le_trans (hm3 _ ?_) ?_ <;> omega))
  · refine ExL.nil ?_
    refine Ex.cond_f rfl ?_
    refine Ex.skip ?_
    refine Ex.regSeq (ExL.pures 1 rfl ?_)
    refine ExL.op rfl (op_mut rfl rfl rfl (c_next code _ _ (by omega) (by assumption) _ at_ _ (by omega)) (perm_at (i := 0) rfl) (hcode) rfl rfl (fun x2 hx2 => ?_))
    refine ExL.pures 1 rfl ?_
    refine ExL.nil ?_
    refine Ex.seq ?_
    refine Ex.regSeq (ExL.pures 1 rfl ?_)
    refine ExL.gtr rfl rfl rfl rfl rfl rfl (fun h3 => ?_) (fun h3 => ?_)
    · refine ExL.nil ?_
      refine Ex.cond_t rfl ?_
      refine Ex.region (ExL.pures 1 rfl ?_)
      refine ExL.free (by first | exact fr_mul64 rfl rfl rfl (by omega) | exact fr_mul rfl rfl rfl) rfl rfl rfl ?_
      refine ExL.pures 1 rfl ?_
      refine ExL.op rfl (op_mut rfl rfl rfl (c_next code _ _ (by omega) (by assumption) _ (at_ + 1) _ (by omega)) (perm_at (i := 0) rfl) (hcode) rfl rfl (fun x4 hx4 => ?_))
      refine ExL.free (by first | exact fr_add64 rfl rfl rfl (by omega) | exact fr_add rfl rfl rfl) rfl rfl rfl ?_
      refine ExL.pures 1 rfl ?_
      refine ExL.nil ?_
      have hm1 := fun z => Int.emod_nonneg z (show n ≠ 0 by omega)
      have hm2 := fun z => Int.emod_lt_of_pos z (show 0 < n by omega)
      have hm3 := fun z hz => mod_le (z := z) (n := n) hz (by omega)
      refine Ex.regSeq (ExL.pures 2 rfl ?_)
      refine ExL.free (by first | exact fr_remP rfl rfl rfl (by omega) | exact fr_rem rfl rfl rfl (by omega)) rfl rfl rfl ?_
      refine ExL.pures 1 rfl ?_
      refine ExL.nil ?_
      refine Ex.ret ?_
      refine MutQ.mk (_, _, _) rfl (.tmp rfl .nil) (rfl) 1 [0] (rfl) rfl (by refine ⟨?_, ?_, ?_, ?_, ?_⟩ <;> first | exact hm1 _ | exact .inl (hm2 _) | (dsimp only; omega) | (refine Int.le_trans (hm3 _ ?_) ?_ <;> omega))
    · refine ExL.nil ?_
      refine Ex.cond_f rfl ?_
      refine Ex.skip ?_
      have hm1 := fun z => Int.emod_nonneg z (show n ≠ 0 by omega)
      have hm2 := fun z => Int.emod_lt_of_pos z (show 0 < n by omega)
      have hm3 := fun z hz => mod_le (z := z) (n := n) hz (by omega)
      refine Ex.regSeq (ExL.pures 2 rfl ?_)
      refine ExL.free (by first | exact fr_remP rfl rfl rfl (by omega) | exact fr_rem rfl rfl rfl (by omega)) rfl rfl rfl ?_
      refine ExL.pures 1 rfl ?_
      refine ExL.nil ?_
      refine Ex.ret ?_
      refine MutQ.mk (_, _, _) rfl (.tmp rfl .nil) (rfl) 1 [0] (rfl) rfl (by refine ⟨?_, ?_, ?_, ?_, ?_⟩ <;> first | exact hm1 _ | exact .inl (hm2 _) | (dsimp only; omega) | (refine Int.le_trans (hm3 _ ?_) ?_ <;> omega))
end Go.Proofs.YtddflaaccmjoeaaGreatDoor

/- What these functions of the program hand back, each proved by walking its operations. -/
set_option linter.unusedVariables false
set_option linter.unusedSimpArgs false
set_option maxRecDepth 4000
namespace Go.Proofs.YtddflaaccmjoeaaGreatDoor
open Go Go.Sx Go.RowKit Go.W Go.Proofs
attribute [local irreducible] Ex ExL ExD Op1 Free RetQ MutQ Reads CellO SegO LoadsAs
theorem e_27 : Enters Tryz.prog 27 := Enters.of Tryz.func27 rfl
theorem c_l00From (code : List Int) (Ac : Option Addr) (cc : Nat) : Ret Tryz.prog 27 [.slice Ac code.length cc] (fun w => True) (fun x : Nat => .pointer (some ⟨x, 0, none⟩)) (fun x => [.blk x [.slice Ac code.length cc, .int .i64 0, .int .u64 0] 113]) (fun x => True) := by
  refine Ret.of e_27 Tryz.func27 rfl Tryz.ntmps27 rfl rfl (fun w hpre => ?_)
  refine Ex.regSeq (ExL.pures 1 rfl ?_)
  refine ExL.nil ?_
  refine Ex.regSeq (ExL.pures 1 rfl ?_)
  refine ExL.free (fr_build rfl rfl rfl rfl) rfl rfl rfl ?_
  refine ExL.op rfl (op_box rfl rfl rfl rfl rfl (fun b1 => ?_))
  refine ExL.pures 1 rfl ?_
  refine ExL.nil ?_
  refine Ex.ret ?_
  refine RetQ.mk _ rfl (.tmp rfl .nil) (rfl) [0] (rfl) rfl (trivial)
theorem e_4 : Enters Tryz.prog 4 := Enters.of Tryz.func4 rfl
theorem c_a2Long (s : List Int) (As : Option Addr) (cs : Nat) (hls : s.length ≤ maxLen) (t : List Int) (At : Option Addr) (ct : Nat) (hlt : t.length ≤ maxLen) : Ret Tryz.prog 4 [.slice As s.length cs, .slice At t.length ct] (fun w => True) (fun x : Unit => .bool (decide (3000 < s.length ∨ 3000 < t.length))) (fun x => []) (fun x => True) := by
  refine Ret.of e_4 Tryz.func4 rfl Tryz.ntmps4 rfl rfl (fun w hpre => ?_)
  have hm0 : maxLen = 9223372036854775807 := rfl
  refine Ex.regSeq (ExL.pures 1 rfl ?_)
  refine ExL.nil ?_
  refine Ex.regSeq (ExL.pures 2 rfl ?_)
  refine ExL.gtr rfl rfl rfl rfl rfl rfl (fun h1 => ?_) (fun h1 => ?_)
  · refine ExL.pures 6 rfl ?_
    refine ExL.nil ?_
    refine Ex.ret ?_
    refine RetQ.mk () rfl (.tmp rfl .nil) (tB (by first | exact dec_t (by omega) | exact dec_f (by omega) | exact decide_eq_decide.2 (by omega))) [] (rfl) rfl (trivial)
  · refine ExL.pures 3 rfl ?_
    refine ExL.gtr rfl rfl rfl rfl rfl rfl (fun h2 => ?_) (fun h2 => ?_)
    · refine ExL.pures 2 rfl ?_
      refine ExL.nil ?_
      refine Ex.ret ?_
      refine RetQ.mk () rfl (.tmp rfl .nil) (tB (by first | exact dec_t (by omega) | exact dec_f (by omega) | exact decide_eq_decide.2 (by omega))) [] (rfl) rfl (trivial)
    · refine ExL.pures 2 rfl ?_
      refine ExL.nil ?_
      refine Ex.ret ?_
      refine RetQ.mk () rfl (.tmp rfl .nil) (tB (by first | exact dec_t (by omega) | exact dec_f (by omega) | exact decide_eq_decide.2 (by omega))) [] (rfl) rfl (trivial)
theorem e_47 : Enters Tryz.prog 47 := Enters.of Tryz.func47 rfl
theorem c_l00Same (s : List Int) (As : Option Addr) (cs : Nat) (hls : s.length ≤ maxLen) (t : List Int) (At : Option Addr) (ct : Nat) (hlt : t.length ≤ maxLen) : Ret Tryz.prog 47 [.slice As s.length cs, .slice At t.length ct] (fun w => Rd w As (s.flatMap (eI .i64)) ∧ Rd w At (t.flatMap (eI .i64))) (fun x : Unit => .bool (decide (s = t))) (fun x => []) (fun x => True) := by
  refine Ret.of e_47 Tryz.func47 rfl Tryz.ntmps47 rfl rfl (fun w hpre => ?_)
  have hs := hpre.1.base
  have ht := hpre.2.base
  have hm0 : maxLen = 9223372036854775807 := rfl
  refine Ex.regSeq (ExL.pures 1 rfl ?_)
  refine ExL.nil ?_
  refine Ex.seq ?_
  refine Ex.regSeq (ExL.pures 4 rfl ?_)
  refine ExL.neq rfl rfl rfl rfl rfl rfl (fun h1 => ?_) (fun h1 => ?_)
  · refine ExL.nil ?_
    refine Ex.cond_t rfl ?_
    refine Ex.regSeq (ExL.pures 1 rfl ?_)
    refine ExL.nil ?_
    refine Ex.ret ?_
    refine RetQ.mk () rfl (.tmp rfl .nil) (tB (by first | exact eq_len (by omega) | exact eq_no k (by assumption) | exact eq_yes (k := k) (by omega) (by omega) hall)) [] (rfl) rfl (trivial)
  · refine ExL.nil ?_
    refine Ex.cond_f rfl ?_
    refine Ex.skip ?_
    refine Ex.seq ?_
    refine Ex.regSeq (ExL.pures 1 rfl ?_)
    refine ExL.nil ?_
    refine Ex.block ?_
    refine Ex.loopK (X := Nat) (fun k => [(5, .int .i64 k)]) (fun k => []) (fun k => k ≤ s.length ∧ ∀ i, i < k → s.getD i 0 = t.getD i 0) (fun k => s.length - k) 0 [(0, _), (1, _)] [] 0 [] ⟨rfl, trivial⟩ ⟨rfl, rfl, trivial⟩ (rfl) rfl ⟨Nat.zero_le _, fun i hi => by omega⟩ (fun k hI => ?_)
    have hI : k ≤ s.length ∧ ∀ i, i < k → s.getD i 0 = t.getD i 0 := hI
    obtain ⟨hk, hall⟩ := hI
    refine Ex.seq ?_
    refine Ex.regSeq (ExL.pures 3 rfl ?_)
    refine ExL.lss rfl rfl rfl rfl rfl rfl (fun h2 => ?_) (fun h2 => ?_)
    · refine ExL.nil ?_
      refine Ex.cond_t rfl ?_
      refine Ex.skip ?_
      refine Ex.seq ?_
      refine Ex.block ?_
      refine Ex.drawSeqM rfl ?_
      refine ExD.take (i := 0) rfl (by kernel_rfl) (pureVal_ok rfl) ((List.Sublist.refl _)) rfl rfl rfl ?_
      refine ExD.take (i := 1) rfl (by kernel_rfl) (pureVal_ok rfl) ((List.Sublist.refl _)) rfl rfl rfl ?_
      refine ExD.take (i := 2) rfl (by kernel_rfl) (fr_indexAddrF (Reads.old hs) (eI_len .i64) rfl rfl rfl rfl rfl rfl (by omega)) ((List.Sublist.refl _)) rfl rfl rfl ?_
      refine ExD.take (i := 3) rfl (by kernel_rfl) (fr_load rfl rfl rfl rfl (by first | exact cellN (Reads.old hs) (eI_len .i64) 0 0 rfl (by omega) rfl | exact cellF (Reads.old hs) (eI_len .i64) 0 0 rfl (by omega) rfl)) ((List.Sublist.refl _)) rfl rfl rfl ?_
      refine ExD.take (i := 4) rfl (by kernel_rfl) (pureVal_ok rfl) ((List.Sublist.refl _)) rfl rfl rfl ?_
      refine ExD.take (i := 5) rfl (by kernel_rfl) (pureVal_ok rfl) ((List.Sublist.refl _)) rfl rfl rfl ?_
      refine ExD.take (i := 6) rfl (by kernel_rfl) (fr_indexAddrF (Reads.old ht) (eI_len .i64) rfl rfl rfl rfl rfl rfl (by omega)) ((List.Sublist.refl _)) rfl rfl rfl ?_
      refine ExD.take (i := 7) rfl (by kernel_rfl) (fr_load rfl rfl rfl rfl (by first | exact cellN (Reads.old ht) (eI_len .i64) 0 0 rfl (by omega) rfl | exact cellF (Reads.old ht) (eI_len .i64) 0 0 rfl (by omega) rfl)) ((List.Sublist.refl _)) rfl rfl rfl ?_
      refine ExD.cmp_neq (i := 8) rfl (by kernel_rfl) rfl rfl rfl ((List.Sublist.refl _)) rfl rfl rfl (fun h3 => ?_) (fun h3 => ?_)
      · refine ExD.done (by kernel_rfl) ?_
        refine Ex.cond_t rfl ?_
        refine Ex.regSeq (ExL.pures 1 rfl ?_)
        refine ExL.nil ?_
        refine Ex.ret ?_
        refine RetQ.mk () rfl (.tmp rfl .nil) (tB (by first | exact eq_len (by omega) | exact eq_no k (by assumption) | exact eq_yes (k := k) (by omega) (by omega) hall)) [] (rfl) rfl (trivial)
      · refine ExD.done (by kernel_rfl) ?_
        refine Ex.cond_f rfl ?_
        refine Ex.skip ?_
        refine Ex.region (ExL.pures 1 rfl ?_)
        refine ExL.free (by first | exact fr_add64 rfl rfl rfl (by omega) | exact fr_add rfl rfl rfl) rfl rfl rfl ?_
        refine ExL.pures 1 rfl ?_
        refine ExL.nil ?_
        refine Hand.mk (k + 1) 0 [] ⟨rfl, trivial⟩ ⟨rfl, rfl, trivial⟩ (rfl) rfl (⟨by omega, all_snoc hall (by first | assumption | omega)⟩) (by omega)
    · refine ExL.nil ?_
      refine Ex.cond_f rfl ?_
      refine Ex.exit ?_
      refine Ex.regSeq (ExL.pures 1 rfl ?_)
      refine ExL.nil ?_
      refine Ex.ret ?_
      refine RetQ.mk () rfl (.tmp rfl .nil) (tB (by first | exact eq_len (by omega) | exact eq_no k (by assumption) | exact eq_yes (k := k) (by omega) (by omega) hall)) [] (rfl) rfl (trivial)
theorem e_15 : Enters Tryz.prog 15 := Enters.of Tryz.func15 rfl
theorem c_A2Same (s : List Int) (As : Option Addr) (cs : Nat) (hls : s.length ≤ maxLen) (t : List Int) (At : Option Addr) (ct : Nat) (hlt : t.length ≤ maxLen) : Ret Tryz.prog 15 [.slice As s.length cs, .slice At t.length ct] (fun w => Rd w As (s.flatMap (eI .i64)) ∧ Rd w At (t.flatMap (eI .i64))) (fun x : Unit => .bool (decide (s = t))) (fun x => []) (fun x => True) := by
  refine Ret.of e_15 Tryz.func15 rfl Tryz.ntmps15 rfl rfl (fun w hpre => ?_)
  have hs := hpre.1.base
  have ht := hpre.2.base
  have hm0 : maxLen = 9223372036854775807 := rfl
  refine Ex.regSeq (ExL.pures 1 rfl ?_)
  refine ExL.nil ?_
  refine Ex.regSeq (ExL.pures 2 rfl ?_)
  refine ExL.op rfl (op_ret rfl rfl rfl (c_l00Same s _ _ (by omega) t _ _ (by omega)) (fun w hw => ⟨Reads.get (Reads.old hs) w hw, Reads.get (Reads.old ht) w hw⟩) rfl rfl (fun x1 hx1 => ?_))
  refine ExL.pures 1 rfl ?_
  refine ExL.nil ?_
  refine Ex.ret ?_
  refine RetQ.mk () rfl (.tmp rfl .nil) (rfl) [] (rfl) rfl (trivial)
end Go.Proofs.YtddflaaccmjoeaaGreatDoor

/- What these functions of the program hand back, each proved by walking its operations. -/
set_option linter.unusedVariables false
set_option linter.unusedSimpArgs false
set_option maxRecDepth 4000
namespace Go.Proofs.YtddflaaccmjoeaaGreatDoor
open Go Go.Sx Go.RowKit Go.W Go.Proofs
attribute [local irreducible] Ex ExL ExD Op1 Free RetQ MutQ Reads CellO SegO LoadsAs
theorem e_96 : Enters Tryz.prog 96 := Enters.of Tryz.func96 rfl
theorem c_l04Reading (s : List Int) (hu : Nums 255 s) (As : Option Addr) (cs : Nat) (hls : s.length ≤ maxLen) (r : VP) : Ret Tryz.prog 96 [.slice As s.length cs, .agg (encP r).toArray] (fun w => Rd w As (s.flatMap (eI .u8))) (fun x : Unit => .bool (rdOk s r)) (fun x => []) (fun x => True) := by
  refine Ret.of e_96 Tryz.func96 rfl Tryz.ntmps96 rfl rfl (fun w hpre => ?_)
  have hs := hpre.base
  have hz := size_bd hu s.length
  rw [List.take_length] at hz
  have hm0 : maxLen = 9223372036854775807 := rfl
  refine Ex.regSeq (ExL.pures 0 rfl ?_)
  refine ExL.op rfl (op_box rfl rfl rfl rfl rfl (fun b1 => ?_))
  refine ExL.pures 1 rfl ?_
  refine ExL.nil ?_
  refine Ex.drawSeqM rfl ?_
  refine ExD.take (i := 0) rfl (by kernel_rfl) (pureVal_ok rfl) ((List.Sublist.refl _)) rfl rfl rfl ?_
  refine ExD.take (i := 1) rfl (by kernel_rfl) (fr_load rfl rfl rfl rfl (CellO.blk (i := 0) rfl rfl)) ((List.Sublist.refl _)) rfl rfl rfl ?_
  refine ExD.op (i := 2) rfl (by kernel_rfl) rfl (op_ret rfl rfl rfl (c_l00In _ _ _) (fun _ _ => trivial) rfl rfl (fun x2 hx2 => ⟨(List.Sublist.refl _), ?_⟩))
  refine ExD.take (i := 3) rfl (by kernel_rfl) (pureVal_ok rfl) ((List.Sublist.refl _)) rfl rfl rfl ?_
  refine ExD.bool (d := 8) rfl (fun hb3 => ?_) (fun hb3 => ?_)
  · replace hb3 := of_decide_eq_true hb3
    refine ExD.take (i := 4) rfl (by kernel_rfl) (pureVal_ok rfl) ((List.Sublist.refl _)) rfl rfl rfl ?_
    refine ExD.take (i := 5) rfl (by kernel_rfl) (fr_load rfl rfl rfl rfl (CellO.blk (i := 0) rfl rfl)) ((List.Sublist.refl _)) rfl rfl rfl ?_
    refine ExD.take (i := 6) rfl (by kernel_rfl) (pureVal_ok rfl) ((List.Sublist.refl _)) rfl rfl rfl ?_
    refine ExD.op (i := 7) rfl (by kernel_rfl) rfl (op_ret rfl rfl rfl (c_l01Size _ (by assumption) _ _ (by first | assumption | omega | (unfold maxLen; omega))) (Reads.get (Reads.old hs)) rfl rfl (fun x4 hx4 => ⟨(List.Sublist.refl _), ?_⟩))
    refine ExD.take (i := 8) rfl (by kernel_rfl) (by first | exact fr_sub64 rfl rfl rfl (by omega) | exact fr_sub rfl rfl rfl) ((List.Sublist.refl _)) rfl rfl rfl ?_
    refine ExD.op (i := 9) rfl (by kernel_rfl) rfl (op_ret rfl rfl rfl (c_l00In _ _ _) (fun _ _ => trivial) rfl rfl (fun x5 hx5 => ⟨(List.Sublist.refl _), ?_⟩))
    refine ExD.take (i := 10) rfl (by kernel_rfl) (pureVal_ok rfl) ((List.Sublist.refl _)) rfl rfl rfl ?_
    refine ExD.take (i := 11) rfl (by kernel_rfl) (pureVal_ok rfl) ((List.Sublist.refl _)) rfl rfl rfl ?_
    refine ExD.done (by kernel_rfl) ?_
    refine Ex.ret ?_
    refine RetQ.mk () rfl (.tmp rfl .nil) (tB (by unfold rdOk; first | exact dec_f (by omega) | exact decide_eq_decide.2 (by omega))) [] (rfl) rfl (trivial)
  · replace hb3 := of_decide_eq_false hb3
    refine ExD.pass (i := 4) rfl (by kernel_rfl) ((List.Sublist.refl _)) rfl rfl rfl ?_
    refine ExD.pass (i := 5) rfl (by kernel_rfl) ((List.Sublist.refl _)) rfl rfl rfl ?_
    refine ExD.pass (i := 6) rfl (by kernel_rfl) ((List.Sublist.refl _)) rfl rfl rfl ?_
    refine ExD.pass (i := 7) rfl (by kernel_rfl) ((List.Sublist.refl _)) rfl rfl rfl ?_
    refine ExD.pass (i := 8) rfl (by kernel_rfl) ((List.Sublist.refl _)) rfl rfl rfl ?_
    refine ExD.pass (i := 9) rfl (by kernel_rfl) ((List.Sublist.refl _)) rfl rfl rfl ?_
    refine ExD.take (i := 10) rfl (by kernel_rfl) (pureVal_ok rfl) ((List.Sublist.refl _)) rfl rfl rfl ?_
    refine ExD.take (i := 11) rfl (by kernel_rfl) (pureVal_ok rfl) ((List.Sublist.refl _)) rfl rfl rfl ?_
    refine ExD.done (by kernel_rfl) ?_
    refine Ex.ret ?_
    refine RetQ.mk () rfl (.tmp rfl .nil) (tB (by unfold rdOk; first | exact dec_f (by omega) | exact decide_eq_decide.2 (by omega))) [] (rfl) rfl (trivial)
theorem e_50 : Enters Tryz.prog 50 := Enters.of Tryz.func50 rfl
theorem c_readingOK (s : List Int) (hu : Nums 255 s) (As : Option Addr) (cs : Nat) (hls : s.length ≤ maxLen) (r : VP) : Ret Tryz.prog 50 [.slice As s.length cs, .agg (encP r).toArray] (fun w => Rd w As (s.flatMap (eI .u8))) (fun x : Unit => .bool (rdOk s r)) (fun x => []) (fun x => True) := by
  refine Ret.of e_50 Tryz.func50 rfl Tryz.ntmps50 rfl rfl (fun w hpre => ?_)
  have hs := hpre.base
  have hz := size_bd hu s.length
  rw [List.take_length] at hz
  have hm0 : maxLen = 9223372036854775807 := rfl
  refine Ex.regSeq (ExL.pures 0 rfl ?_)
  refine ExL.op rfl (op_box rfl rfl rfl rfl rfl (fun b1 => ?_))
  refine ExL.pures 1 rfl ?_
  refine ExL.nil ?_
  refine Ex.regSeq (ExL.pures 1 rfl ?_)
  refine ExL.free (fr_load rfl rfl rfl rfl (CellO.blk (i := 0) rfl rfl)) rfl rfl rfl ?_
  refine ExL.op rfl (op_ret rfl rfl rfl (c_within _ _ _) (fun _ _ => trivial) rfl rfl (fun x2 hx2 => ?_))
  refine ExL.pures 1 rfl ?_
  refine ExL.bool (d := 8) rfl (fun hb3 => ?_) (fun hb3 => ?_)
  · replace hb3 := of_decide_eq_true hb3
    refine ExL.pures 2 rfl ?_
    refine ExL.free (fr_load rfl rfl rfl rfl (CellO.blk (i := 0) rfl rfl)) rfl rfl rfl ?_
    refine ExL.op rfl (op_ret rfl rfl rfl (c_hasValue s (by assumption) _ _ (by omega) _) (Reads.get (Reads.old hs)) rfl rfl (fun x4 hx4 => ?_))
    refine ExL.pures 2 rfl ?_
    refine ExL.nil ?_
    refine Ex.ret ?_
    refine RetQ.mk () rfl (.tmp rfl .nil) (tB (by unfold rdOk; first | exact dec_f (by omega) | exact decide_eq_decide.2 (by omega))) [] (rfl) rfl (trivial)
  · replace hb3 := of_decide_eq_false hb3
    refine ExL.pures 6 rfl ?_
    refine ExL.nil ?_
    refine Ex.ret ?_
    refine RetQ.mk () rfl (.tmp rfl .nil) (tB (by unfold rdOk; first | exact dec_f (by omega) | exact decide_eq_decide.2 (by omega))) [] (rfl) rfl (trivial)
theorem e_68 : Enters Tryz.prog 68 := Enters.of Tryz.func68 rfl
theorem c_l04Ok (s : List Int) (hu : Nums 255 s) (As : Option Addr) (cs : Nat) (hls : s.length ≤ maxLen) (l : List VP) (Al : Option Addr) (cl : Nat) (hll : l.length ≤ maxLen) : Ret Tryz.prog 68 [.slice As s.length cs, .slice Al l.length cl] (fun w => Rd w As (s.flatMap (eI .u8)) ∧ Rd w Al (l.flatMap encP)) (fun x : Unit => .bool (validLog s l)) (fun x => []) (fun x => True) := by
  refine Ret.of e_68 Tryz.func68 rfl Tryz.ntmps68 rfl rfl (fun w hpre => ?_)
  have hs := hpre.1.base
  have hl := hpre.2.base
  have hm0 : maxLen = 9223372036854775807 := rfl
  refine Ex.regSeq (ExL.pures 1 rfl ?_)
  refine ExL.nil ?_
  refine Ex.seq ?_
  refine Ex.regSeq (ExL.pures 1 rfl ?_)
  refine ExL.op rfl (op_ret rfl rfl rfl (c_l01Ok _ (by assumption) _ _ (by first | assumption | omega | (unfold maxLen; omega))) (Reads.get (Reads.old hs)) rfl rfl (fun x1 hx1 => ?_))
  refine ExL.pures 2 rfl ?_
  refine ExL.bool (d := 9) rfl (fun hb2 => ?_) (fun hb2 => ?_)
  · replace hb2 := nb_t hb2
    refine ExL.pures 4 rfl ?_
    refine ExL.nil ?_
    refine Ex.cond_t rfl ?_
    refine Ex.regSeq (ExL.pures 1 rfl ?_)
    refine ExL.nil ?_
    refine Ex.ret ?_
    refine RetQ.mk () rfl (.tmp rfl .nil) (tB (by first | exact vl_stack (by assumption) | exact vl_long (by omega) | exact vl_bad (k := k) (by omega) (okr_f' (by first | exact .inl (by assumption) | exact .inr ⟨by omega, by omega⟩)) | exact vl_yes (by assumption) (by omega) (by omega) hall)) [] (rfl) rfl (trivial)
  · replace hb2 := nb_f hb2
    refine ExL.pures 2 rfl ?_
    refine ExL.gtr rfl rfl rfl rfl rfl rfl (fun h3 => ?_) (fun h3 => ?_)
    · refine ExL.pures 1 rfl ?_
      refine ExL.nil ?_
      refine Ex.cond_t rfl ?_
      refine Ex.regSeq (ExL.pures 1 rfl ?_)
      refine ExL.nil ?_
      refine Ex.ret ?_
      refine RetQ.mk () rfl (.tmp rfl .nil) (tB (by first | exact vl_stack (by assumption) | exact vl_long (by omega) | exact vl_bad (k := k) (by omega) (okr_f' (by first | exact .inl (by assumption) | exact .inr ⟨by omega, by omega⟩)) | exact vl_yes (by assumption) (by omega) (by omega) hall)) [] (rfl) rfl (trivial)
    · refine ExL.pures 1 rfl ?_
      refine ExL.nil ?_
      refine Ex.cond_f rfl ?_
      refine Ex.skip ?_
      refine Ex.seq ?_
      refine Ex.regSeq (ExL.pures 1 rfl ?_)
      refine ExL.nil ?_
      refine Ex.block ?_
      refine Ex.loopK (X := Nat) (fun k => [(5, .int .i64 k)]) (fun k => []) (fun k => k ≤ l.length ∧ ∀ i, i < k → okR s l i = true) (fun k => l.length - k) 0 [(0, _), (1, _)] [] 0 [] ⟨rfl, trivial⟩ ⟨rfl, rfl, trivial⟩ (rfl) rfl ⟨Nat.zero_le _, fun i hi => by omega⟩ (fun k hI => ?_)
      have hI : k ≤ l.length ∧ ∀ i, i < k → okR s l i = true := hI
      obtain ⟨hk, hall⟩ := hI
      refine Ex.seq ?_
      refine Ex.regSeq (ExL.pures 3 rfl ?_)
      refine ExL.lss rfl rfl rfl rfl rfl rfl (fun h4 => ?_) (fun h4 => ?_)
      · refine ExL.nil ?_
        refine Ex.cond_t rfl ?_
        refine Ex.skip ?_
        refine Ex.seq ?_
        refine Ex.block ?_
        refine Ex.drawSeqM rfl ?_
        refine ExD.take (i := 0) rfl (by kernel_rfl) (pureVal_ok rfl) ((List.Sublist.refl _)) rfl rfl rfl ?_
        refine ExD.take (i := 1) rfl (by kernel_rfl) (pureVal_ok rfl) ((List.Sublist.refl _)) rfl rfl rfl ?_
        refine ExD.take (i := 2) rfl (by kernel_rfl) (pureVal_ok rfl) ((List.Sublist.refl _)) rfl rfl rfl ?_
        refine ExD.take (i := 3) rfl (by kernel_rfl) (fr_indexAddrF (Reads.old hl) encP_len rfl rfl rfl rfl rfl rfl (by omega)) ((List.Sublist.refl _)) rfl rfl rfl ?_
        refine ExD.take (i := 4) rfl (by kernel_rfl) (fr_loadN rfl rfl rfl rfl rfl (by first | exact segN (Reads.old hl) encP_len rfl zP (by omega) | exact segF (Reads.old hl) encP_len rfl zP (by omega))) ((List.Sublist.refl _)) rfl rfl rfl ?_
        refine ExD.op (i := 5) rfl (by kernel_rfl) rfl (op_ret rfl rfl rfl (c_l04Reading s (by assumption) _ _ (by omega) (l.getD k zP)) (Reads.get (Reads.old hs)) rfl rfl (fun x5 hx5 => ⟨(List.Sublist.refl _), ?_⟩))
        refine ExD.take (i := 6) rfl (by kernel_rfl) (pureVal_ok rfl) ((List.Sublist.refl _)) rfl rfl rfl ?_
        refine ExD.take (i := 7) rfl (by kernel_rfl) (pureVal_ok rfl) ((List.Sublist.refl _)) rfl rfl rfl ?_
        refine ExD.bool (d := 27) rfl (fun hb6 => ?_) (fun hb6 => ?_)
        · replace hb6 := nb_t hb6
          refine ExD.pass (i := 8) rfl (by kernel_rfl) ((List.Sublist.refl _)) rfl rfl rfl ?_
          refine ExD.pass (i := 9) rfl (by kernel_rfl) ((List.Sublist.refl _)) rfl rfl rfl ?_
          refine ExD.pass (i := 10) rfl (by kernel_rfl) ((List.Sublist.refl _)) rfl rfl rfl ?_
          refine ExD.pass (i := 11) rfl (by kernel_rfl) ((List.Sublist.refl _)) rfl rfl rfl ?_
          refine ExD.pass (i := 12) rfl (by kernel_rfl) ((List.Sublist.refl _)) rfl rfl rfl ?_
          refine ExD.pass (i := 13) rfl (by kernel_rfl) ((List.Sublist.refl _)) rfl rfl rfl ?_
          refine ExD.pass (i := 14) rfl (by kernel_rfl) ((List.Sublist.refl _)) rfl rfl rfl ?_
          refine ExD.pass (i := 15) rfl (by kernel_rfl) ((List.Sublist.refl _)) rfl rfl rfl ?_
          refine ExD.pass (i := 16) rfl (by kernel_rfl) ((List.Sublist.refl _)) rfl rfl rfl ?_
          refine ExD.pass (i := 17) rfl (by kernel_rfl) ((List.Sublist.refl _)) rfl rfl rfl ?_
          refine ExD.pass (i := 18) rfl (by kernel_rfl) ((List.Sublist.refl _)) rfl rfl rfl ?_
          refine ExD.pass (i := 19) rfl (by kernel_rfl) ((List.Sublist.refl _)) rfl rfl rfl ?_
          refine ExD.pass (i := 20) rfl (by kernel_rfl) ((List.Sublist.refl _)) rfl rfl rfl ?_
          refine ExD.pass (i := 21) rfl (by kernel_rfl) ((List.Sublist.refl _)) rfl rfl rfl ?_
          refine ExD.pass (i := 22) rfl (by kernel_rfl) ((List.Sublist.refl _)) rfl rfl rfl ?_
          refine ExD.pass (i := 23) rfl (by kernel_rfl) ((List.Sublist.refl _)) rfl rfl rfl ?_
          refine ExD.take (i := 24) rfl (by kernel_rfl) (pureVal_ok rfl) ((List.Sublist.refl _)) rfl rfl rfl ?_
          refine ExD.done (by kernel_rfl) ?_
          refine Ex.cond_t rfl ?_
          refine Ex.regSeq (ExL.pures 1 rfl ?_)
          refine ExL.nil ?_
          refine Ex.ret ?_
          refine RetQ.mk () rfl (.tmp rfl .nil) (tB (by first | exact vl_stack (by assumption) | exact vl_long (by omega) | exact vl_bad (k := k) (by omega) (okr_f' (by first | exact .inl (by assumption) | exact .inr ⟨by omega, by omega⟩)) | exact vl_yes (by assumption) (by omega) (by omega) hall)) [] (rfl) rfl (trivial)
        · replace hb6 := nb_f hb6
          refine ExD.take (i := 8) rfl (by kernel_rfl) (pureVal_ok rfl) ((List.Sublist.refl _)) rfl rfl rfl ?_
          refine ExD.cmp_gtr (i := 9) rfl (by kernel_rfl) rfl rfl rfl ((List.Sublist.refl _)) rfl rfl rfl (fun h7 => ?_) (fun h7 => ?_)
          · refine ExD.take (i := 10) rfl (by kernel_rfl) (pureVal_ok rfl) ((List.Sublist.refl _)) rfl rfl rfl ?_
            refine ExD.take (i := 11) rfl (by kernel_rfl) (pureVal_ok rfl) ((List.Sublist.refl _)) rfl rfl rfl ?_
            refine ExD.take (i := 12) rfl (by kernel_rfl) (pureVal_ok rfl) ((List.Sublist.refl _)) rfl rfl rfl ?_
            refine ExD.take (i := 13) rfl (by kernel_rfl) (fr_indexAddrF (Reads.old hl) encP_len rfl rfl rfl rfl rfl rfl (by omega)) ((List.Sublist.refl _)) rfl rfl rfl ?_
            refine ExD.take (i := 14) rfl (by kernel_rfl) (fr_fieldAddrF (i := (↑k : Int).toNat) (Reads.old hl) encP_len rfl rfl rfl (by omega) rfl rfl rfl rfl) ((List.Sublist.refl _)) rfl rfl rfl ?_
            refine ExD.take (i := 15) rfl (by kernel_rfl) (fr_load rfl rfl rfl rfl (by first | exact cellN (Reads.old hl) encP_len zP 0 rfl (by omega) rfl | exact cellF (Reads.old hl) encP_len zP 0 rfl (by omega) rfl)) ((List.Sublist.refl _)) rfl rfl rfl ?_
            refine ExD.take (i := 16) rfl (by kernel_rfl) (pureVal_ok rfl) ((List.Sublist.refl _)) rfl rfl rfl ?_
            refine ExD.take (i := 17) rfl (by kernel_rfl) (pureVal_ok rfl) ((List.Sublist.refl _)) rfl rfl rfl ?_
            refine ExD.take (i := 18) rfl (by kernel_rfl) (by first | exact fr_sub64 rfl rfl rfl (by omega) | exact fr_sub rfl rfl rfl) ((List.Sublist.refl _)) rfl rfl rfl ?_
            refine ExD.take (i := 19) rfl (by kernel_rfl) (fr_indexAddrF (Reads.old hl) encP_len rfl rfl rfl rfl rfl rfl (by omega)) ((List.Sublist.refl _)) rfl rfl rfl ?_
            refine ExD.take (i := 20) rfl (by kernel_rfl) (fr_fieldAddrF (i := ((↑k - 1) : Int).toNat) (Reads.old hl) encP_len rfl rfl rfl (by omega) rfl rfl rfl rfl) ((List.Sublist.refl _)) rfl rfl rfl ?_
            refine ExD.take (i := 21) rfl (by kernel_rfl) (fr_load rfl rfl rfl rfl (cellJ ((k - 1)) (Reads.old hl) encP_len zP 0 rfl (by omega) (by omega) rfl)) ((List.Sublist.refl _)) rfl rfl rfl ?_
            refine ExD.cmp_leq (i := 22) rfl (by kernel_rfl) rfl rfl rfl ((List.Sublist.refl _)) rfl rfl rfl (fun h8 => ?_) (fun h8 => ?_)
            · refine ExD.take (i := 23) rfl (by kernel_rfl) (pureVal_ok rfl) ((List.Sublist.refl _)) rfl rfl rfl ?_
              refine ExD.take (i := 24) rfl (by kernel_rfl) (pureVal_ok rfl) ((List.Sublist.refl _)) rfl rfl rfl ?_
              refine ExD.done (by kernel_rfl) ?_
              refine Ex.cond_t rfl ?_
              refine Ex.regSeq (ExL.pures 1 rfl ?_)
              refine ExL.nil ?_
              refine Ex.ret ?_
              refine RetQ.mk () rfl (.tmp rfl .nil) (tB (by first | exact vl_stack (by assumption) | exact vl_long (by omega) | exact vl_bad (k := k) (by omega) (okr_f' (by first | exact .inl (by assumption) | exact .inr ⟨by omega, by omega⟩)) | exact vl_yes (by assumption) (by omega) (by omega) hall)) [] (rfl) rfl (trivial)
            · refine ExD.take (i := 23) rfl (by kernel_rfl) (pureVal_ok rfl) ((List.Sublist.refl _)) rfl rfl rfl ?_
              refine ExD.take (i := 24) rfl (by kernel_rfl) (pureVal_ok rfl) ((List.Sublist.refl _)) rfl rfl rfl ?_
              refine ExD.done (by kernel_rfl) ?_
              refine Ex.cond_f rfl ?_
              refine Ex.skip ?_
              refine Ex.region (ExL.pures 1 rfl ?_)
              refine ExL.free (by first | exact fr_add64 rfl rfl rfl (by omega) | exact fr_add rfl rfl rfl) rfl rfl rfl ?_
              refine ExL.pures 1 rfl ?_
              refine ExL.nil ?_
              refine Hand.mk (k + 1) 0 [] ⟨rfl, trivial⟩ ⟨rfl, rfl, trivial⟩ (rfl) rfl (⟨by omega, all_snoc hall (okr_t' (by assumption) (by omega))⟩) (by omega)
          · refine ExD.take (i := 10) rfl (by kernel_rfl) (pureVal_ok rfl) ((List.Sublist.refl _)) rfl rfl rfl ?_
            refine ExD.pass (i := 11) rfl (by kernel_rfl) ((List.Sublist.refl _)) rfl rfl rfl ?_
            refine ExD.pass (i := 12) rfl (by kernel_rfl) ((List.Sublist.refl _)) rfl rfl rfl ?_
            refine ExD.pass (i := 13) rfl (by kernel_rfl) ((List.Sublist.refl _)) rfl rfl rfl ?_
            refine ExD.pass (i := 14) rfl (by kernel_rfl) ((List.Sublist.refl _)) rfl rfl rfl ?_
            refine ExD.pass (i := 15) rfl (by kernel_rfl) ((List.Sublist.refl _)) rfl rfl rfl ?_
            refine ExD.pass (i := 16) rfl (by kernel_rfl) ((List.Sublist.refl _)) rfl rfl rfl ?_
            refine ExD.pass (i := 17) rfl (by kernel_rfl) ((List.Sublist.refl _)) rfl rfl rfl ?_
            refine ExD.pass (i := 18) rfl (by kernel_rfl) ((List.Sublist.refl _)) rfl rfl rfl ?_
            refine ExD.pass (i := 19) rfl (by kernel_rfl) ((List.Sublist.refl _)) rfl rfl rfl ?_
            refine ExD.pass (i := 20) rfl (by kernel_rfl) ((List.Sublist.refl _)) rfl rfl rfl ?_
            refine ExD.pass (i := 21) rfl (by kernel_rfl) ((List.Sublist.refl _)) rfl rfl rfl ?_
            refine ExD.pass (i := 22) rfl (by kernel_rfl) ((List.Sublist.refl _)) rfl rfl rfl ?_
            refine ExD.take (i := 23) rfl (by kernel_rfl) (pureVal_ok rfl) ((List.Sublist.refl _)) rfl rfl rfl ?_
            refine ExD.take (i := 24) rfl (by kernel_rfl) (pureVal_ok rfl) ((List.Sublist.refl _)) rfl rfl rfl ?_
            refine ExD.done (by kernel_rfl) ?_
            refine Ex.cond_f rfl ?_
            refine Ex.skip ?_
            refine Ex.region (ExL.pures 1 rfl ?_)
            refine ExL.free (by first | exact fr_add64 rfl rfl rfl (by omega) | exact fr_add rfl rfl rfl) rfl rfl rfl ?_
            refine ExL.pures 1 rfl ?_
            refine ExL.nil ?_
            refine Hand.mk (k + 1) 0 [] ⟨rfl, trivial⟩ ⟨rfl, rfl, trivial⟩ (rfl) rfl (⟨by omega, all_snoc hall (okr_t' (by assumption) (by omega))⟩) (by omega)
      · refine ExL.nil ?_
        refine Ex.cond_f rfl ?_
        refine Ex.exit ?_
        refine Ex.regSeq (ExL.pures 1 rfl ?_)
        refine ExL.nil ?_
        refine Ex.ret ?_
        refine RetQ.mk () rfl (.tmp rfl .nil) (tB (by first | exact vl_stack (by assumption) | exact vl_long (by omega) | exact vl_bad (k := k) (by omega) (okr_f' (by first | exact .inl (by assumption) | exact .inr ⟨by omega, by omega⟩)) | exact vl_yes (by assumption) (by omega) (by omega) hall)) [] (rfl) rfl (trivial)
theorem e_18 : Enters Tryz.prog 18 := Enters.of Tryz.func18 rfl
theorem c_ValidLog (s : List Int) (hu : Nums 255 s) (As : Option Addr) (cs : Nat) (hls : s.length ≤ maxLen) (l : List VP) (Al : Option Addr) (cl : Nat) (hll : l.length ≤ maxLen) : Ret Tryz.prog 18 [.slice As s.length cs, .slice Al l.length cl] (fun w => Rd w As (s.flatMap (eI .u8)) ∧ Rd w Al (l.flatMap encP)) (fun x : Unit => .bool (validLog s l)) (fun x => []) (fun x => True) := by
  refine Ret.of e_18 Tryz.func18 rfl Tryz.ntmps18 rfl rfl (fun w hpre => ?_)
  have hs := hpre.1.base
  have hl := hpre.2.base
  have hm0 : maxLen = 9223372036854775807 := rfl
  refine Ex.regSeq (ExL.pures 1 rfl ?_)
  refine ExL.nil ?_
  refine Ex.seq ?_
  refine Ex.regSeq (ExL.pures 1 rfl ?_)
  refine ExL.op rfl (op_ret rfl rfl rfl (c_ValidStack _ (by assumption) _ _ (by first | assumption | omega | (unfold maxLen; omega))) (Reads.get (Reads.old hs)) rfl rfl (fun x1 hx1 => ?_))
  refine ExL.pures 2 rfl ?_
  refine ExL.bool (d := 10) rfl (fun hb2 => ?_) (fun hb2 => ?_)
  · replace hb2 := nb_t hb2
    refine ExL.pures 4 rfl ?_
    refine ExL.nil ?_
    refine Ex.cond_t rfl ?_
    refine Ex.regSeq (ExL.pures 1 rfl ?_)
    refine ExL.nil ?_
    refine Ex.ret ?_
    refine RetQ.mk () rfl (.tmp rfl .nil) (tB (by first | exact vl_stack (by assumption) | exact vl_long (by omega) | exact vl_bad (k := k) (by omega) (okr_f' (by first | exact .inl (by assumption) | exact .inr ⟨by omega, by omega⟩)) | exact vl_yes (by assumption) (by omega) (by omega) hall)) [] (rfl) rfl (trivial)
  · replace hb2 := nb_f hb2
    refine ExL.pures 2 rfl ?_
    refine ExL.gtr rfl rfl rfl rfl rfl rfl (fun h3 => ?_) (fun h3 => ?_)
    · refine ExL.pures 1 rfl ?_
      refine ExL.nil ?_
      refine Ex.cond_t rfl ?_
      refine Ex.regSeq (ExL.pures 1 rfl ?_)
      refine ExL.nil ?_
      refine Ex.ret ?_
      refine RetQ.mk () rfl (.tmp rfl .nil) (tB (by first | exact vl_stack (by assumption) | exact vl_long (by omega) | exact vl_bad (k := k) (by omega) (okr_f' (by first | exact .inl (by assumption) | exact .inr ⟨by omega, by omega⟩)) | exact vl_yes (by assumption) (by omega) (by omega) hall)) [] (rfl) rfl (trivial)
    · refine ExL.pures 1 rfl ?_
      refine ExL.nil ?_
      refine Ex.cond_f rfl ?_
      refine Ex.skip ?_
      refine Ex.seq ?_
      refine Ex.regSeq (ExL.pures 3 rfl ?_)
      refine ExL.nil ?_
      refine Ex.block ?_
      refine Ex.loopK (X := Nat) (fun k => [(17, .int .i64 k)]) (fun k => []) (fun k => k ≤ l.length ∧ ∀ i, i < k → okR s l i = true) (fun k => l.length - k) 0 [(0, _), (1, _), (15, _), (16, _)] [] 0 [] ⟨rfl, trivial⟩ ⟨rfl, rfl, rfl, rfl, trivial⟩ (rfl) rfl ⟨Nat.zero_le _, fun i hi => by omega⟩ (fun k hI => ?_)
      have hI : k ≤ l.length ∧ ∀ i, i < k → okR s l i = true := hI
      obtain ⟨hk, hall⟩ := hI
      refine Ex.regSeq (ExL.pures 0 rfl ?_)
      refine ExL.lss rfl rfl rfl rfl rfl rfl (fun h4 => ?_) (fun h4 => ?_)
      · refine ExL.nil ?_
        refine Ex.seq ?_
        refine Ex.cond_t rfl ?_
        refine Ex.skip ?_
        refine Ex.seq ?_
        refine Ex.block ?_
        refine Ex.regSeq (ExL.pures 1 rfl ?_)
        refine ExL.free (fr_indexAddrF (Reads.old hl) encP_len rfl rfl rfl rfl rfl rfl (by omega)) rfl rfl rfl ?_
        refine ExL.free (fr_loadN rfl rfl rfl rfl rfl (by first | exact segN (Reads.old hl) encP_len rfl zP (by omega) | exact segF (Reads.old hl) encP_len rfl zP (by omega))) rfl rfl rfl ?_
        refine ExL.op rfl (op_alloc rfl rfl rfl rfl rfl (fun b5 => ?_))
        refine ExL.pures 1 rfl ?_
        refine ExL.op rfl (op_storeC (i := 0) rfl rfl rfl rfl rfl rfl rfl rfl rfl rfl ?_)
        refine ExL.nil ?_
        refine Ex.drawSeqM rfl ?_
        refine ExD.take (i := 0) rfl (by kernel_rfl) (pureVal_ok rfl) ((List.Sublist.refl _)) rfl rfl rfl ?_
        refine ExD.take (i := 1) rfl (by kernel_rfl) (fr_loadN rfl rfl rfl rfl rfl (SegO.whole (i := 0) rfl)) ((List.Sublist.refl _)) rfl rfl rfl ?_
        refine ExD.op (i := 2) rfl (by kernel_rfl) rfl (op_ret rfl rfl rfl (c_readingOK s (by assumption) _ _ (by omega) (l.getD k zP)) (Reads.get (Reads.old hs)) rfl rfl (fun x6 hx6 => ⟨(List.Sublist.refl _), ?_⟩))
        refine ExD.take (i := 3) rfl (by kernel_rfl) (pureVal_ok rfl) ((List.Sublist.refl _)) rfl rfl rfl ?_
        refine ExD.take (i := 4) rfl (by kernel_rfl) (pureVal_ok rfl) ((List.Sublist.refl _)) rfl rfl rfl ?_
        refine ExD.bool (d := 26) rfl (fun hb7 => ?_) (fun hb7 => ?_)
        · replace hb7 := nb_t hb7
          refine ExD.pass (i := 5) rfl (by kernel_rfl) ((List.Sublist.refl _)) rfl rfl rfl ?_
          refine ExD.pass (i := 6) rfl (by kernel_rfl) ((List.Sublist.refl _)) rfl rfl rfl ?_
          refine ExD.pass (i := 7) rfl (by kernel_rfl) ((List.Sublist.refl _)) rfl rfl rfl ?_
          refine ExD.pass (i := 8) rfl (by kernel_rfl) ((List.Sublist.refl _)) rfl rfl rfl ?_
          refine ExD.pass (i := 9) rfl (by kernel_rfl) ((List.Sublist.refl _)) rfl rfl rfl ?_
          refine ExD.pass (i := 10) rfl (by kernel_rfl) ((List.Sublist.refl _)) rfl rfl rfl ?_
          refine ExD.pass (i := 11) rfl (by kernel_rfl) ((List.Sublist.refl _)) rfl rfl rfl ?_
          refine ExD.pass (i := 12) rfl (by kernel_rfl) ((List.Sublist.refl _)) rfl rfl rfl ?_
          refine ExD.pass (i := 13) rfl (by kernel_rfl) ((List.Sublist.refl _)) rfl rfl rfl ?_
          refine ExD.pass (i := 14) rfl (by kernel_rfl) ((List.Sublist.refl _)) rfl rfl rfl ?_
          refine ExD.pass (i := 15) rfl (by kernel_rfl) ((List.Sublist.refl _)) rfl rfl rfl ?_
          refine ExD.pass (i := 16) rfl (by kernel_rfl) ((List.Sublist.refl _)) rfl rfl rfl ?_
          refine ExD.pass (i := 17) rfl (by kernel_rfl) ((List.Sublist.refl _)) rfl rfl rfl ?_
          refine ExD.take (i := 18) rfl (by kernel_rfl) (pureVal_ok rfl) ((List.Sublist.refl _)) rfl rfl rfl ?_
          refine ExD.done (by kernel_rfl) ?_
          refine Ex.cond_t rfl ?_
          refine Ex.regSeq (ExL.pures 1 rfl ?_)
          refine ExL.nil ?_
          refine Ex.ret ?_
          refine RetQ.mk () rfl (.tmp rfl .nil) (tB (by first | exact vl_stack (by assumption) | exact vl_long (by omega) | exact vl_bad (k := k) (by omega) (okr_f' (by first | exact .inl (by assumption) | exact .inr ⟨by omega, by omega⟩)) | exact vl_yes (by assumption) (by omega) (by omega) hall)) [] (rfl) rfl (trivial)
        · replace hb7 := nb_f hb7
          refine ExD.take (i := 5) rfl (by kernel_rfl) (pureVal_ok rfl) ((List.Sublist.refl _)) rfl rfl rfl ?_
          refine ExD.cmp_gtr (i := 6) rfl (by kernel_rfl) rfl rfl rfl ((List.Sublist.refl _)) rfl rfl rfl (fun h8 => ?_) (fun h8 => ?_)
          · refine ExD.take (i := 7) rfl (by kernel_rfl) (pureVal_ok rfl) ((List.Sublist.refl _)) rfl rfl rfl ?_
            refine ExD.take (i := 8) rfl (by kernel_rfl) (pureVal_ok rfl) ((List.Sublist.refl _)) rfl rfl rfl ?_
            refine ExD.take (i := 9) rfl (by kernel_rfl) (pureVal_ok rfl) ((List.Sublist.refl _)) rfl rfl rfl ?_
            refine ExD.take (i := 10) rfl (by kernel_rfl) (by first | exact fr_sub64 rfl rfl rfl (by omega) | exact fr_sub rfl rfl rfl) ((List.Sublist.refl _)) rfl rfl rfl ?_
            refine ExD.take (i := 11) rfl (by kernel_rfl) (fr_indexAddrF (Reads.old hl) encP_len rfl rfl rfl rfl rfl rfl (by omega)) ((List.Sublist.refl _)) rfl rfl rfl ?_
            refine ExD.take (i := 12) rfl (by kernel_rfl) (fr_fieldAddrF (i := ((↑k - 1) : Int).toNat) (Reads.old hl) encP_len rfl rfl rfl (by omega) rfl rfl rfl rfl) ((List.Sublist.refl _)) rfl rfl rfl ?_
            refine ExD.take (i := 13) rfl (by kernel_rfl) (fr_load rfl rfl rfl rfl (cellJ ((k - 1)) (Reads.old hl) encP_len zP 0 rfl (by omega) (by omega) rfl)) ((List.Sublist.refl _)) rfl rfl rfl ?_
            refine ExD.take (i := 14) rfl (by kernel_rfl) (pureVal_ok rfl) ((List.Sublist.refl _)) rfl rfl rfl ?_
            refine ExD.take (i := 15) rfl (by kernel_rfl) (fr_load rfl rfl rfl rfl (CellO.blk (i := 0) rfl rfl)) ((List.Sublist.refl _)) rfl rfl rfl ?_
            refine ExD.cmp_geq (i := 16) rfl (by kernel_rfl) rfl rfl rfl ((List.Sublist.refl _)) rfl rfl rfl (fun h9 => ?_) (fun h9 => ?_)
            · refine ExD.take (i := 17) rfl (by kernel_rfl) (pureVal_ok rfl) ((List.Sublist.refl _)) rfl rfl rfl ?_
              refine ExD.take (i := 18) rfl (by kernel_rfl) (pureVal_ok rfl) ((List.Sublist.refl _)) rfl rfl rfl ?_
              refine ExD.done (by kernel_rfl) ?_
              refine Ex.cond_t rfl ?_
              refine Ex.regSeq (ExL.pures 1 rfl ?_)
              refine ExL.nil ?_
              refine Ex.ret ?_
              refine RetQ.mk () rfl (.tmp rfl .nil) (tB (by first | exact vl_stack (by assumption) | exact vl_long (by omega) | exact vl_bad (k := k) (by omega) (okr_f' (by first | exact .inl (by assumption) | exact .inr ⟨by omega, by omega⟩)) | exact vl_yes (by assumption) (by omega) (by omega) hall)) [] (rfl) rfl (trivial)
            · refine ExD.take (i := 17) rfl (by kernel_rfl) (pureVal_ok rfl) ((List.Sublist.refl _)) rfl rfl rfl ?_
              refine ExD.take (i := 18) rfl (by kernel_rfl) (pureVal_ok rfl) ((List.Sublist.refl _)) rfl rfl rfl ?_
              refine ExD.done (by kernel_rfl) ?_
              refine Ex.cond_f rfl ?_
              refine Ex.skip ?_
              refine Ex.region (ExL.pures 0 rfl ?_)
              refine ExL.free (by first | exact fr_add64 rfl rfl rfl (by omega) | exact fr_add rfl rfl rfl) rfl rfl rfl ?_
              refine ExL.pures 1 rfl ?_
              refine ExL.nil ?_
              refine Hand.mk (k + 1) 1 [] ⟨rfl, trivial⟩ ⟨rfl, rfl, rfl, rfl, trivial⟩ (rfl) rfl (⟨by omega, all_snoc hall (okr_t' (by assumption) (by omega))⟩) (by omega)
          · refine ExD.take (i := 7) rfl (by kernel_rfl) (pureVal_ok rfl) ((List.Sublist.refl _)) rfl rfl rfl ?_
            refine ExD.pass (i := 8) rfl (by kernel_rfl) ((List.Sublist.refl _)) rfl rfl rfl ?_
            refine ExD.pass (i := 9) rfl (by kernel_rfl) ((List.Sublist.refl _)) rfl rfl rfl ?_
            refine ExD.pass (i := 10) rfl (by kernel_rfl) ((List.Sublist.refl _)) rfl rfl rfl ?_
            refine ExD.pass (i := 11) rfl (by kernel_rfl) ((List.Sublist.refl _)) rfl rfl rfl ?_
            refine ExD.pass (i := 12) rfl (by kernel_rfl) ((List.Sublist.refl _)) rfl rfl rfl ?_
            refine ExD.pass (i := 13) rfl (by kernel_rfl) ((List.Sublist.refl _)) rfl rfl rfl ?_
            refine ExD.pass (i := 14) rfl (by kernel_rfl) ((List.Sublist.refl _)) rfl rfl rfl ?_
            refine ExD.pass (i := 15) rfl (by kernel_rfl) ((List.Sublist.refl _)) rfl rfl rfl ?_
            refine ExD.pass (i := 16) rfl (by kernel_rfl) ((List.Sublist.refl _)) rfl rfl rfl ?_
            refine ExD.take (i := 17) rfl (by kernel_rfl) (pureVal_ok rfl) ((List.Sublist.refl _)) rfl rfl rfl ?_
            refine ExD.take (i := 18) rfl (by kernel_rfl) (pureVal_ok rfl) ((List.Sublist.refl _)) rfl rfl rfl ?_
            refine ExD.done (by kernel_rfl) ?_
            refine Ex.cond_f rfl ?_
            refine Ex.skip ?_
            refine Ex.region (ExL.pures 0 rfl ?_)
            refine ExL.free (by first | exact fr_add64 rfl rfl rfl (by omega) | exact fr_add rfl rfl rfl) rfl rfl rfl ?_
            refine ExL.pures 1 rfl ?_
            refine ExL.nil ?_
            refine Hand.mk (k + 1) 1 [] ⟨rfl, trivial⟩ ⟨rfl, rfl, rfl, rfl, trivial⟩ (rfl) rfl (⟨by omega, all_snoc hall (okr_t' (by assumption) (by omega))⟩) (by omega)
      · refine ExL.nil ?_
        refine Ex.seq ?_
        refine Ex.cond_f rfl ?_
        refine Ex.exit ?_
        refine Ex.regSeq (ExL.pures 1 rfl ?_)
        refine ExL.nil ?_
        refine Ex.ret ?_
        refine RetQ.mk () rfl (.tmp rfl .nil) (tB (by first | exact vl_stack (by assumption) | exact vl_long (by omega) | exact vl_bad (k := k) (by omega) (okr_f' (by first | exact .inl (by assumption) | exact .inr ⟨by omega, by omega⟩)) | exact vl_yes (by assumption) (by omega) (by omega) hall)) [] (rfl) rfl (trivial)
theorem e_64 : Enters Tryz.prog 64 := Enters.of Tryz.func64 rfl
theorem c_l04Mod (a b : Int) (ha : -8000000000000000000 ≤ a ∧ a ≤ 8000000000000000000) (hb : 1 ≤ b ∧ b ≤ 1000000000000000000) : Ret Tryz.prog 64 [.int .i64 a, .int .i64 b] (fun w => True) (fun x : Unit => .int .i64 (a % b)) (fun x => []) (fun x => True) := by
  refine Ret.of e_64 Tryz.func64 rfl Tryz.ntmps64 rfl rfl (fun w hpre => ?_)
  have htm := tm_bd (a := a) (b := b) (by omega)
  refine Ex.regSeq (ExL.pures 1 rfl ?_)
  refine ExL.nil ?_
  refine Ex.regSeq (ExL.pures 2 rfl ?_)
  refine ExL.free (by first | exact fr_remP rfl rfl rfl (by omega) | exact fr_rem rfl rfl rfl (by omega)) rfl rfl rfl ?_
  refine ExL.pures 1 rfl ?_
  refine ExL.free (by first | exact fr_add64 rfl rfl rfl (by omega) | exact fr_add rfl rfl rfl) rfl rfl rfl ?_
  refine ExL.pures 1 rfl ?_
  refine ExL.free (by first | exact fr_remP rfl rfl rfl (by omega) | exact fr_rem rfl rfl rfl (by omega)) rfl rfl rfl ?_
  refine ExL.pures 1 rfl ?_
  refine ExL.nil ?_
  refine Ex.ret ?_
  refine RetQ.mk () rfl (.tmp rfl .nil) (tI mod_fix) [] (rfl) rfl (trivial)
end Go.Proofs.YtddflaaccmjoeaaGreatDoor

/- What these functions of the program hand back, each proved by walking its operations. -/
set_option linter.unusedVariables false
set_option linter.unusedSimpArgs false
set_option maxRecDepth 4000
namespace Go.Proofs.YtddflaaccmjoeaaGreatDoor
open Go Go.Sx Go.RowKit Go.W Go.Proofs
attribute [local irreducible] Ex ExL ExD Op1 Free RetQ MutQ Reads CellO SegO LoadsAs
theorem e_69 : Enters Tryz.prog 69 := Enters.of Tryz.func69 rfl
theorem c_l04Flow (f : VP) : Ret Tryz.prog 69 [.agg (encP f).toArray] (fun w => True) (fun x : Unit => .bool (validFlow f)) (fun x => []) (fun x => True) := by
  refine Ret.of e_69 Tryz.func69 rfl Tryz.ntmps69 rfl rfl (fun w hpre => ?_)
  refine Ex.regSeq (ExL.pures 0 rfl ?_)
  refine ExL.op rfl (op_box rfl rfl rfl rfl rfl (fun b1 => ?_))
  refine ExL.pures 1 rfl ?_
  refine ExL.nil ?_
  refine Ex.regSeq (ExL.pures 1 rfl ?_)
  refine ExL.free (fr_load rfl rfl rfl rfl (CellO.blk (i := 0) rfl rfl)) rfl rfl rfl ?_
  refine ExL.pures 1 rfl ?_
  refine ExL.free (fr_load rfl rfl rfl rfl (CellO.blk (i := 0) rfl rfl)) rfl rfl rfl ?_
  refine ExL.op rfl (op_ret rfl rfl rfl (c_l00In _ _ _) (fun _ _ => trivial) rfl rfl (fun x2 hx2 => ?_))
  refine ExL.pures 1 rfl ?_
  refine ExL.bool (d := 8) rfl (fun hb3 => ?_) (fun hb3 => ?_)
  · replace hb3 := of_decide_eq_true hb3
    refine ExL.pures 1 rfl ?_
    refine ExL.free (fr_load rfl rfl rfl rfl (CellO.blk (i := 0) rfl rfl)) rfl rfl rfl ?_
    refine ExL.leq rfl rfl rfl rfl rfl rfl (fun h4 => ?_) (fun h4 => ?_)
    · refine ExL.pures 2 rfl ?_
      refine ExL.nil ?_
      refine Ex.ret ?_
      refine RetQ.mk () rfl (.tmp rfl .nil) (tB (by unfold validFlow; first | exact dec_f (by omega) | exact decide_eq_decide.2 (by omega) | exact dec_t (by omega))) [] (rfl) rfl (trivial)
    · refine ExL.pures 2 rfl ?_
      refine ExL.nil ?_
      refine Ex.ret ?_
      refine RetQ.mk () rfl (.tmp rfl .nil) (tB (by unfold validFlow; first | exact dec_f (by omega) | exact decide_eq_decide.2 (by omega) | exact dec_t (by omega))) [] (rfl) rfl (trivial)
  · replace hb3 := of_decide_eq_false hb3
    refine ExL.pures 5 rfl ?_
    refine ExL.nil ?_
    refine Ex.ret ?_
    refine RetQ.mk () rfl (.tmp rfl .nil) (tB (by unfold validFlow; first | exact dec_f (by omega) | exact decide_eq_decide.2 (by omega) | exact dec_t (by omega))) [] (rfl) rfl (trivial)
theorem e_19 : Enters Tryz.prog 19 := Enters.of Tryz.func19 rfl
theorem c_ValidFlow (f : VP) : Ret Tryz.prog 19 [.agg (encP f).toArray] (fun w => True) (fun x : Unit => .bool (validFlow f)) (fun x => []) (fun x => True) := by
  refine Ret.of e_19 Tryz.func19 rfl Tryz.ntmps19 rfl rfl (fun w hpre => ?_)
  refine Ex.regSeq (ExL.pures 0 rfl ?_)
  refine ExL.op rfl (op_box rfl rfl rfl rfl rfl (fun b1 => ?_))
  refine ExL.pures 1 rfl ?_
  refine ExL.nil ?_
  refine Ex.regSeq (ExL.pures 1 rfl ?_)
  refine ExL.free (fr_load rfl rfl rfl rfl (CellO.blk (i := 0) rfl rfl)) rfl rfl rfl ?_
  refine ExL.leq rfl rfl rfl rfl rfl rfl (fun h2 => ?_) (fun h2 => ?_)
  · refine ExL.pures 2 rfl ?_
    refine ExL.free (fr_load rfl rfl rfl rfl (CellO.blk (i := 0) rfl rfl)) rfl rfl rfl ?_
    refine ExL.pures 1 rfl ?_
    refine ExL.free (fr_load rfl rfl rfl rfl (CellO.blk (i := 0) rfl rfl)) rfl rfl rfl ?_
    refine ExL.leq rfl rfl rfl rfl rfl rfl (fun h3 => ?_) (fun h3 => ?_)
    · refine ExL.pures 3 rfl ?_
      refine ExL.free (fr_load rfl rfl rfl rfl (CellO.blk (i := 0) rfl rfl)) rfl rfl rfl ?_
      refine ExL.leq rfl rfl rfl rfl rfl rfl (fun h4 => ?_) (fun h4 => ?_)
      · refine ExL.pures 2 rfl ?_
        refine ExL.nil ?_
        refine Ex.ret ?_
        refine RetQ.mk () rfl (.tmp rfl .nil) (tB (by unfold validFlow; first | exact dec_f (by omega) | exact decide_eq_decide.2 (by omega) | exact dec_t (by omega))) [] (rfl) rfl (trivial)
      · refine ExL.pures 2 rfl ?_
        refine ExL.nil ?_
        refine Ex.ret ?_
        refine RetQ.mk () rfl (.tmp rfl .nil) (tB (by unfold validFlow; first | exact dec_f (by omega) | exact decide_eq_decide.2 (by omega) | exact dec_t (by omega))) [] (rfl) rfl (trivial)
    · refine ExL.pures 7 rfl ?_
      refine ExL.nil ?_
      refine Ex.ret ?_
      refine RetQ.mk () rfl (.tmp rfl .nil) (tB (by unfold validFlow; first | exact dec_f (by omega) | exact decide_eq_decide.2 (by omega) | exact dec_t (by omega))) [] (rfl) rfl (trivial)
  · refine ExL.pures 13 rfl ?_
    refine ExL.nil ?_
    refine Ex.ret ?_
    refine RetQ.mk () rfl (.tmp rfl .nil) (tB (by unfold validFlow; first | exact dec_f (by omega) | exact decide_eq_decide.2 (by omega) | exact dec_t (by omega))) [] (rfl) rfl (trivial)
theorem e_32 : Enters Tryz.prog 32 := Enters.of Tryz.func32 rfl
theorem c_l04Asked (s : List Int) (hu : Nums 255 s) (As : Option Addr) (cs : Nat) (hls : s.length ≤ maxLen) (l : List VP) (Al : Option Addr) (cl : Nat) (hll : l.length ≤ maxLen) (f : VP) : Ret Tryz.prog 32 [.slice As s.length cs, .slice Al l.length cl, .agg (encP f).toArray] (fun w => Rd w As (s.flatMap (eI .u8)) ∧ Rd w Al (l.flatMap encP)) (fun x : Unit => .int .i64 (askC s l f)) (fun x => []) (fun x => True) := by
  refine Ret.of e_32 Tryz.func32 rfl Tryz.ntmps32 rfl rfl (fun w hpre => ?_)
  have hs := hpre.1.base
  have hl := hpre.2.base
  have hm0 : maxLen = 9223372036854775807 := rfl
  refine Ex.regSeq (ExL.pures 0 rfl ?_)
  refine ExL.op rfl (op_box rfl rfl rfl rfl rfl (fun b1 => ?_))
  refine ExL.pures 1 rfl ?_
  refine ExL.nil ?_
  refine Ex.seq ?_
  refine Ex.regSeq (ExL.pures 2 rfl ?_)
  refine ExL.op rfl (op_ret rfl rfl rfl (c_l04Ok s (by assumption) _ _ (by omega) l _ _ (by omega)) (fun w hw => ⟨Reads.get (Reads.old hs) w hw, Reads.get (Reads.old hl) w hw⟩) rfl rfl (fun x2 hx2 => ?_))
  refine ExL.pures 2 rfl ?_
  refine ExL.bool (d := 11) rfl (fun hb3 => ?_) (fun hb3 => ?_)
  · replace hb3 := nb_t hb3
    refine ExL.pures 4 rfl ?_
    refine ExL.nil ?_
    refine Ex.cond_t rfl ?_
    refine Ex.regSeq (ExL.pures 1 rfl ?_)
    refine ExL.nil ?_
    refine Ex.ret ?_
    refine RetQ.mk () rfl (.tmp rfl .nil) (tI (by unfold askC askS; simp_all)) [] (rfl) rfl (trivial)
  · replace hb3 := nb_f hb3
    refine ExL.free (fr_loadN rfl rfl rfl rfl rfl (SegO.whole (i := 0) rfl)) rfl rfl rfl ?_
    refine ExL.op rfl (op_ret rfl rfl rfl (c_l04Flow f) (fun _ _ => trivial) rfl rfl (fun x4 hx4 => ?_))
    refine ExL.pures 2 rfl ?_
    refine ExL.nil ?_
    refine Ex.cond rfl (fun hb5 => ?_) (fun hb5 => ?_)
    · replace hb5 := nb_t hb5
      refine Ex.regSeq (ExL.pures 1 rfl ?_)
      refine ExL.nil ?_
      refine Ex.ret ?_
      refine RetQ.mk () rfl (.tmp rfl .nil) (tI (by unfold askC askS; simp_all)) [] (rfl) rfl (trivial)
    · replace hb5 := nb_f hb5
      refine Ex.skip ?_
      refine Ex.regSeq (ExL.pures 1 rfl ?_)
      refine ExL.nil ?_
      refine Ex.ret ?_
      refine RetQ.mk () rfl (.tmp rfl .nil) (tI (by unfold askC askS; simp_all)) [] (rfl) rfl (trivial)
theorem e_89 : Enters Tryz.prog 89 := Enters.of Tryz.func89 rfl
theorem c_bounds (f a b : VP) (hf : validFlow f = true) (ha : 0 ≤ a.a ∧ a.a ≤ 100000) (hb : 0 ≤ b.a ∧ b.a ≤ 100000) : Ret Tryz.prog 89 [.agg (encP f).toArray, .agg (encP a).toArray, .agg (encP b).toArray] (fun w => True) (fun x : Unit => .tuple #[.int .i64 (lowF f a b), .int .i64 (highF f a b)]) (fun x => []) (fun x => True) := by
  refine Ret.of e_89 Tryz.func89 rfl Tryz.ntmps89 rfl rfl (fun w hpre => ?_)
  have hlo := low_bd hf ha hb
  have hhi := high_bd hf ha hb
  unfold lowF at hlo
  unfold highF at hhi
  have hfl := flow_of hf
  refine Ex.regSeq (ExL.pures 0 rfl ?_)
  refine ExL.op rfl (op_box rfl rfl rfl rfl rfl (fun b1 => ?_))
  refine ExL.op rfl (op_box rfl rfl rfl rfl rfl (fun b2 => ?_))
  refine ExL.op rfl (op_box rfl rfl rfl rfl rfl (fun b3 => ?_))
  refine ExL.pures 2 rfl ?_
  refine ExL.nil ?_
  refine Ex.regSeq (ExL.pures 1 rfl ?_)
  refine ExL.free (fr_load rfl rfl rfl rfl (CellO.blk (i := 0) rfl rfl)) rfl rfl rfl ?_
  refine ExL.pures 1 rfl ?_
  refine ExL.free (fr_load rfl rfl rfl rfl (CellO.blk (i := 1) rfl rfl)) rfl rfl rfl ?_
  refine ExL.free (by first | exact fr_sub64 rfl rfl rfl (by omega) | exact fr_sub rfl rfl rfl) rfl rfl rfl ?_
  refine ExL.pures 1 rfl ?_
  refine ExL.nil ?_
  refine Ex.drawSeqM rfl ?_
  refine ExD.take (i := 0) rfl (by kernel_rfl) (pureVal_ok rfl) ((List.Sublist.refl _)) rfl rfl rfl ?_
  refine ExD.take (i := 1) rfl (by kernel_rfl) (fr_load rfl rfl rfl rfl (CellO.blk (i := 2) rfl rfl)) ((List.Sublist.refl _)) rfl rfl rfl ?_
  refine ExD.take (i := 2) rfl (by kernel_rfl) (pureVal_ok rfl) ((List.Sublist.refl _)) rfl rfl rfl ?_
  refine ExD.take (i := 3) rfl (by kernel_rfl) (by first | exact fr_mul64 rfl rfl rfl (by omega) | exact fr_mul rfl rfl rfl) ((List.Sublist.refl _)) rfl rfl rfl ?_
  refine ExD.take (i := 4) rfl (by kernel_rfl) (pureVal_ok rfl) ((List.Sublist.refl _)) rfl rfl rfl ?_
  refine ExD.take (i := 5) rfl (by kernel_rfl) (fr_load rfl rfl rfl rfl (CellO.blk (i := 2) rfl rfl)) ((List.Sublist.refl _)) rfl rfl rfl ?_
  refine ExD.take (i := 6) rfl (by kernel_rfl) (pureVal_ok rfl) ((List.Sublist.refl _)) rfl rfl rfl ?_
  refine ExD.take (i := 7) rfl (by kernel_rfl) (by first | exact fr_mul64 rfl rfl rfl (by omega) | exact fr_mul rfl rfl rfl) ((List.Sublist.refl _)) rfl rfl rfl ?_
  refine ExD.take (i := 8) rfl (by kernel_rfl) (pureVal_ok rfl) ((List.Sublist.refl _)) rfl rfl rfl ?_
  refine ExD.take (i := 9) rfl (by kernel_rfl) (pureVal_ok rfl) ((List.Sublist.refl _)) rfl rfl rfl ?_
  refine ExD.done (by kernel_rfl) ?_
  refine Ex.ret ?_
  refine RetQ.mk () rfl (.tmp rfl (.tmp rfl .nil)) (t2 rfl rfl) [] (rfl) rfl (trivial)
theorem e_54 : Enters Tryz.prog 54 := Enters.of Tryz.func54 rfl
theorem c_counts (s : List Int) (hv : validStack s = true) (hu : Nums 255 s) (As : Option Addr) (cs : Nat) (hls : s.length ≤ maxLen) (a b f : VP) (hf : validFlow f = true) (ha : OkRd (size s) a) (hb : OkRd (size s) b) : Ret Tryz.prog 54 [.slice As s.length cs, .agg (encP a).toArray, .agg (encP b).toArray, .agg (encP f).toArray] (fun w => Rd w As (s.flatMap (eI .u8))) (fun x : Int × Int => .tuple #[.int .i64 x.1, .int .i64 x.2, .bool (fitV (size s) f a b)]) (fun x => []) (fun x => True) := by
  refine Ret.of e_54 Tryz.func54 rfl Tryz.ntmps54 rfl rfl (fun w hpre => ?_)
  have hs := hpre.base
  obtain ⟨ha1, ha2⟩ := ha
  obtain ⟨hb1, hb2⟩ := hb
  have hlo := low_bd hf ha1 hb1
  have hhi := high_bd hf ha1 hb1
  have hS := stk hv
  have hS1 := hS.le
  have hS2 := hS.size_
  have hS3 := hS.pos
  have hmd := md_bd (z := size s) (by omega)
  have hm0 : maxLen = 9223372036854775807 := rfl
  refine Ex.regSeq (ExL.pures 0 rfl ?_)
  refine ExL.op rfl (op_box rfl rfl rfl rfl rfl (fun b1 => ?_))
  refine ExL.op rfl (op_box rfl rfl rfl rfl rfl (fun b2 => ?_))
  refine ExL.op rfl (op_box rfl rfl rfl rfl rfl (fun b3 => ?_))
  refine ExL.pures 3 rfl ?_
  refine ExL.nil ?_
  refine Ex.regSeq (ExL.pures 0 rfl ?_)
  refine ExL.free (fr_loadN rfl rfl rfl rfl rfl (SegO.whole (i := 0) rfl)) rfl rfl rfl ?_
  refine ExL.free (fr_loadN rfl rfl rfl rfl rfl (SegO.whole (i := 2) rfl)) rfl rfl rfl ?_
  refine ExL.free (fr_loadN rfl rfl rfl rfl rfl (SegO.whole (i := 1) rfl)) rfl rfl rfl ?_
  refine ExL.op rfl (op_ret rfl rfl rfl (c_bounds f a b (by assumption) (by first | assumption | omega) (by first | assumption | omega)) (fun _ _ => trivial) rfl rfl (fun x4 hx4 => ?_))
  refine ExL.pures 5 rfl ?_
  refine ExL.nil ?_
  refine Ex.regSeq (ExL.pures 1 rfl ?_)
  refine ExL.op rfl (op_ret rfl rfl rfl (c_size _ (by assumption) _ _ (by first | assumption | omega | (unfold maxLen; omega))) (Reads.get (Reads.old hs)) rfl rfl (fun x5 hx5 => ?_))
  refine ExL.pures 1 rfl ?_
  refine ExL.nil ?_
  refine Ex.regSeq (ExL.pures 1 rfl ?_)
  refine ExL.free (fr_load rfl rfl rfl rfl (CellO.blk (i := 1) rfl rfl)) rfl rfl rfl ?_
  refine ExL.pures 1 rfl ?_
  refine ExL.free (fr_load rfl rfl rfl rfl (CellO.blk (i := 2) rfl rfl)) rfl rfl rfl ?_
  refine ExL.free (by first | exact fr_sub64 rfl rfl rfl (by omega) | exact fr_sub rfl rfl rfl) rfl rfl rfl ?_
  refine ExL.pures 1 rfl ?_
  refine ExL.free (by first | exact fr_sub64 rfl rfl rfl (by omega) | exact fr_sub rfl rfl rfl) rfl rfl rfl ?_
  refine ExL.pures 1 rfl ?_
  refine ExL.op rfl (op_ret rfl rfl rfl (c_wrapped _ _ (by omega) (by omega)) (fun _ _ => trivial) rfl rfl (fun x6 hx6 => ?_))
  refine ExL.pures 5 rfl ?_
  refine ExL.nil ?_
  refine Ex.regSeq (ExL.pures 2 rfl ?_)
  refine ExL.free (fr_load rfl rfl rfl rfl (CellO.blk (i := 1) rfl rfl)) rfl rfl rfl ?_
  refine ExL.pures 1 rfl ?_
  refine ExL.free (fr_load rfl rfl rfl rfl (CellO.blk (i := 2) rfl rfl)) rfl rfl rfl ?_
  refine ExL.free (by first | exact fr_sub64 rfl rfl rfl (by omega) | exact fr_sub rfl rfl rfl) rfl rfl rfl ?_
  refine ExL.free (by first | exact fr_sub64 rfl rfl rfl (by omega) | exact fr_sub rfl rfl rfl) rfl rfl rfl ?_
  refine ExL.pures 1 rfl ?_
  refine ExL.op rfl (op_ret rfl rfl rfl (c_wrapped _ _ (by omega) (by omega)) (fun _ _ => trivial) rfl rfl (fun x7 hx7 => ?_))
  refine ExL.pures 5 rfl ?_
  refine ExL.nil ?_
  have hm1 := hmd (b.b - a.b - lowF f a b)
  have hm2 := hmd (highF f a b - (b.b - a.b))
  refine Ex.regSeq (ExL.pures 2 rfl ?_)
  refine ExL.free (by first | exact fr_add64 rfl rfl rfl (by omega) | exact fr_add rfl rfl rfl) rfl rfl rfl ?_
  refine ExL.pures 2 rfl ?_
  refine ExL.free (by first | exact fr_sub64 rfl rfl rfl (by omega) | exact fr_sub rfl rfl rfl) rfl rfl rfl ?_
  refine ExL.pures 2 rfl ?_
  refine ExL.free (by first | exact fr_add64 rfl rfl rfl (by omega) | exact fr_add rfl rfl rfl) rfl rfl rfl ?_
  refine ExL.pures 1 rfl ?_
  refine ExL.free (fr_leq rfl rfl rfl) rfl rfl rfl ?_
  refine ExL.pures 3 rfl ?_
  refine ExL.nil ?_
  refine Ex.ret ?_
  refine RetQ.mk (_, _) rfl (.tmp rfl (.tmp rfl (.tmp rfl .nil))) (t3 rfl rfl (vB rfl)) [] (rfl) rfl (trivial)
theorem e_72 : Enters Tryz.prog 72 := Enters.of Tryz.func72 rfl
theorem c_l04Counts (s : List Int) (hv : validStack s = true) (hu : Nums 255 s) (As : Option Addr) (cs : Nat) (hls : s.length ≤ maxLen) (a b f : VP) (hf : validFlow f = true) (ha : OkRd (size s) a) (hb : OkRd (size s) b) : Ret Tryz.prog 72 [.slice As s.length cs, .agg (encP a).toArray, .agg (encP b).toArray, .agg (encP f).toArray] (fun w => Rd w As (s.flatMap (eI .u8))) (fun x : Int × Int => .tuple #[.int .i64 x.1, .int .i64 x.2, .bool (fitV (size s) f a b)]) (fun x => []) (fun x => True) := by
  refine Ret.of e_72 Tryz.func72 rfl Tryz.ntmps72 rfl rfl (fun w hpre => ?_)
  have hs := hpre.base
  obtain ⟨ha1, ha2⟩ := ha
  obtain ⟨hb1, hb2⟩ := hb
  have hlo := low_bd hf ha1 hb1
  have hhi := high_bd hf ha1 hb1
  have hS := stk hv
  have hS1 := hS.le
  have hS2 := hS.size_
  have hS3 := hS.pos
  have hmd := md_bd (z := size s) (by omega)
  have hm0 : maxLen = 9223372036854775807 := rfl
  refine Ex.regSeq (ExL.pures 0 rfl ?_)
  refine ExL.op rfl (op_box rfl rfl rfl rfl rfl (fun b1 => ?_))
  refine ExL.op rfl (op_box rfl rfl rfl rfl rfl (fun b2 => ?_))
  refine ExL.op rfl (op_box rfl rfl rfl rfl rfl (fun b3 => ?_))
  refine ExL.pures 3 rfl ?_
  refine ExL.nil ?_
  refine Ex.regSeq (ExL.pures 1 rfl ?_)
  refine ExL.op rfl (op_ret rfl rfl rfl (c_l01Size s (by assumption) _ _ (by first | assumption | omega | (unfold maxLen; omega) | decide)) (Reads.get (Reads.old hs)) rfl rfl (fun x4 hx4 => ?_))
  refine ExL.pures 1 rfl ?_
  refine ExL.nil ?_
  refine Ex.regSeq (ExL.pures 1 rfl ?_)
  refine ExL.free (fr_load rfl rfl rfl rfl (CellO.blk (i := 1) rfl rfl)) rfl rfl rfl ?_
  refine ExL.pures 1 rfl ?_
  refine ExL.free (fr_load rfl rfl rfl rfl (CellO.blk (i := 2) rfl rfl)) rfl rfl rfl ?_
  refine ExL.free (by first | exact fr_sub64 rfl rfl rfl (by omega) | exact fr_sub rfl rfl rfl) rfl rfl rfl ?_
  refine ExL.pures 1 rfl ?_
  refine ExL.nil ?_
  unfold lowF at hlo
  unfold highF at hhi
  refine Ex.regSeq (ExL.pures 1 rfl ?_)
  refine ExL.free (fr_load rfl rfl rfl rfl (CellO.blk (i := 0) rfl rfl)) rfl rfl rfl ?_
  refine ExL.pures 1 rfl ?_
  refine ExL.free (by first | exact fr_mul64 rfl rfl rfl (by omega) | exact fr_mul rfl rfl rfl) rfl rfl rfl ?_
  refine ExL.pures 1 rfl ?_
  refine ExL.nil ?_
  refine Ex.regSeq (ExL.pures 1 rfl ?_)
  refine ExL.free (fr_load rfl rfl rfl rfl (CellO.blk (i := 0) rfl rfl)) rfl rfl rfl ?_
  refine ExL.pures 1 rfl ?_
  refine ExL.free (by first | exact fr_mul64 rfl rfl rfl (by omega) | exact fr_mul rfl rfl rfl) rfl rfl rfl ?_
  refine ExL.pures 1 rfl ?_
  refine ExL.nil ?_
  refine Ex.regSeq (ExL.pures 1 rfl ?_)
  refine ExL.free (fr_load rfl rfl rfl rfl (CellO.blk (i := 1) rfl rfl)) rfl rfl rfl ?_
  refine ExL.pures 1 rfl ?_
  refine ExL.free (fr_load rfl rfl rfl rfl (CellO.blk (i := 2) rfl rfl)) rfl rfl rfl ?_
  refine ExL.free (by first | exact fr_sub64 rfl rfl rfl (by omega) | exact fr_sub rfl rfl rfl) rfl rfl rfl ?_
  refine ExL.pures 1 rfl ?_
  refine ExL.op rfl (op_ret rfl rfl rfl (c_l04Mod _ _ (by omega) (by omega)) (fun _ _ => trivial) rfl rfl (fun x5 hx5 => ?_))
  refine ExL.pures 1 rfl ?_
  refine ExL.nil ?_
  have hm0 := hmd (b.b - a.b)
  have hm1 := hmd ((b.b - a.b) % size s - f.a * (b.a - a.a))
  refine Ex.regSeq (ExL.pures 3 rfl ?_)
  refine ExL.free (by first | exact fr_sub64 rfl rfl rfl (by omega) | exact fr_sub rfl rfl rfl) rfl rfl rfl ?_
  refine ExL.pures 1 rfl ?_
  refine ExL.op rfl (op_ret rfl rfl rfl (c_l04Mod _ _ (by omega) (by omega)) (fun _ _ => trivial) rfl rfl (fun x6 hx6 => ?_))
  refine ExL.free (by first | exact fr_add64 rfl rfl rfl (by omega) | exact fr_add rfl rfl rfl) rfl rfl rfl ?_
  refine ExL.pures 1 rfl ?_
  refine ExL.nil ?_
  refine Ex.seq ?_
  refine Ex.regSeq (ExL.pures 2 rfl ?_)
  refine ExL.gtr rfl rfl rfl rfl rfl rfl (fun h7 => ?_) (fun h7 => ?_)
  · refine ExL.nil ?_
    refine Ex.cond_t rfl ?_
    refine Ex.regSeq (ExL.pures 3 rfl ?_)
    refine ExL.nil ?_
    refine Ex.ret ?_
    refine RetQ.mk (_, _) rfl (.tmp rfl (.tmp rfl (.tmp rfl .nil))) (t3 rfl rfl (vB (by first | exact fit_f (z := size s) (f := f) (a := a) (b := b) (by unfold lowF highF; omega) | exact fit_t (z := size s) (f := f) (a := a) (b := b) (by unfold lowF highF; omega)))) [] (rfl) rfl (trivial)
  · refine ExL.nil ?_
    refine Ex.cond_f rfl ?_
    refine Ex.skip ?_
    have hm2 := hmd (f.b * (b.a - a.a) - (b.b - a.b) % size s)
    refine Ex.regSeq (ExL.pures 4 rfl ?_)
    refine ExL.free (by first | exact fr_sub64 rfl rfl rfl (by omega) | exact fr_sub rfl rfl rfl) rfl rfl rfl ?_
    refine ExL.pures 1 rfl ?_
    refine ExL.op rfl (op_ret rfl rfl rfl (c_l04Mod _ _ (by omega) (by omega)) (fun _ _ => trivial) rfl rfl (fun x8 hx8 => ?_))
    refine ExL.free (by first | exact fr_sub64 rfl rfl rfl (by omega) | exact fr_sub rfl rfl rfl) rfl rfl rfl ?_
    refine ExL.pures 3 rfl ?_
    refine ExL.nil ?_
    refine Ex.ret ?_
    refine RetQ.mk (_, _) rfl (.tmp rfl (.tmp rfl (.tmp rfl .nil))) (t3 rfl rfl (vB (by first | exact fit_f (z := size s) (f := f) (a := a) (b := b) (by unfold lowF highF; omega) | exact fit_t (z := size s) (f := f) (a := a) (b := b) (by unfold lowF highF; omega)))) [] (rfl) rfl (trivial)
end Go.Proofs.YtddflaaccmjoeaaGreatDoor

/- What these functions of the program hand back, each proved by walking its operations. -/
set_option linter.unusedVariables false
set_option linter.unusedSimpArgs false
set_option maxRecDepth 4000
namespace Go.Proofs.YtddflaaccmjoeaaGreatDoor
open Go Go.Sx Go.RowKit Go.W Go.Proofs
attribute [local irreducible] Ex ExL ExD Op1 Free RetQ MutQ Reads CellO SegO LoadsAs
theorem e_35 : Enters Tryz.prog 35 := Enters.of Tryz.func35 rfl
theorem c_l04Fits (s : List Int) (hu : Nums 255 s) (As : Option Addr) (cs : Nat) (hls : s.length ≤ maxLen) (l : List VP) (Al : Option Addr) (cl : Nat) (hll : l.length ≤ maxLen) (hL : Log s l) (f : VP) (hf : validFlow f = true) (i k : Nat) (hi : i < l.length) (hk : k < l.length) : Ret Tryz.prog 35 [.slice As s.length cs, .slice Al l.length cl, .agg (encP f).toArray, .int .i64 (i : Int), .int .i64 (k : Int)] (fun w => Rd w As (s.flatMap (eI .u8)) ∧ Rd w Al (l.flatMap encP)) (fun x : Unit => .bool (fitsF s l f i k)) (fun x => []) (fun x => True) := by
  refine Ret.of e_35 Tryz.func35 rfl Tryz.ntmps35 rfl rfl (fun w hpre => ?_)
  have hs := hpre.1.base
  have hl := hpre.2.base
  have hm0 : maxLen = 9223372036854775807 := rfl
  have hv := hL.stk
  have hri := hL.rd hi
  have hrk := hL.rd hk
  refine Ex.regSeq (ExL.pures 0 rfl ?_)
  refine ExL.op rfl (op_box rfl rfl rfl rfl rfl (fun b1 => ?_))
  refine ExL.pures 1 rfl ?_
  refine ExL.nil ?_
  refine Ex.drawSeqM rfl ?_
  refine ExD.take (i := 0) rfl (by kernel_rfl) (pureVal_ok rfl) ((List.Sublist.refl _)) rfl rfl rfl ?_
  refine ExD.take (i := 1) rfl (by kernel_rfl) (pureVal_ok rfl) ((List.Sublist.refl _)) rfl rfl rfl ?_
  refine ExD.take (i := 2) rfl (by kernel_rfl) (pureVal_ok rfl) ((List.Sublist.refl _)) rfl rfl rfl ?_
  refine ExD.take (i := 3) rfl (by kernel_rfl) (fr_indexAddrF (Reads.old hl) encP_len rfl rfl rfl rfl rfl rfl (by omega)) ((List.Sublist.refl _)) rfl rfl rfl ?_
  refine ExD.take (i := 4) rfl (by kernel_rfl) (fr_loadN rfl rfl rfl rfl rfl (by first | exact segN (Reads.old hl) encP_len rfl zP (by omega) | exact segF (Reads.old hl) encP_len rfl zP (by omega))) ((List.Sublist.refl _)) rfl rfl rfl ?_
  refine ExD.take (i := 5) rfl (by kernel_rfl) (pureVal_ok rfl) ((List.Sublist.refl _)) rfl rfl rfl ?_
  refine ExD.take (i := 6) rfl (by kernel_rfl) (pureVal_ok rfl) ((List.Sublist.refl _)) rfl rfl rfl ?_
  refine ExD.take (i := 7) rfl (by kernel_rfl) (fr_indexAddrF (Reads.old hl) encP_len rfl rfl rfl rfl rfl rfl (by omega)) ((List.Sublist.refl _)) rfl rfl rfl ?_
  refine ExD.take (i := 8) rfl (by kernel_rfl) (fr_loadN rfl rfl rfl rfl rfl (by first | exact segN (Reads.old hl) encP_len rfl zP (by omega) | exact segF (Reads.old hl) encP_len rfl zP (by omega))) ((List.Sublist.refl _)) rfl rfl rfl ?_
  refine ExD.take (i := 9) rfl (by kernel_rfl) (fr_loadN rfl rfl rfl rfl rfl (SegO.whole (i := 0) rfl)) ((List.Sublist.refl _)) rfl rfl rfl ?_
  refine ExD.op (i := 10) rfl (by kernel_rfl) rfl (op_ret rfl rfl rfl (c_l04Counts s (by assumption) (by assumption) _ _ (by omega) (l.getD i zP) (l.getD k zP) f (by assumption) (by assumption) (by assumption)) (Reads.get (Reads.old hs)) rfl rfl (fun x2 hx2 => ⟨(List.Sublist.refl _), ?_⟩))
  refine ExD.take (i := 11) rfl (by kernel_rfl) (pureVal_ok rfl) ((List.Sublist.refl _)) rfl rfl rfl ?_
  refine ExD.take (i := 12) rfl (by kernel_rfl) (pureVal_ok rfl) ((List.Sublist.refl _)) rfl rfl rfl ?_
  refine ExD.take (i := 13) rfl (by kernel_rfl) (pureVal_ok rfl) ((List.Sublist.refl _)) rfl rfl rfl ?_
  refine ExD.take (i := 14) rfl (by kernel_rfl) (pureVal_ok rfl) ((List.Sublist.refl _)) rfl rfl rfl ?_
  refine ExD.take (i := 15) rfl (by kernel_rfl) (pureVal_ok rfl) ((List.Sublist.refl _)) rfl rfl rfl ?_
  refine ExD.take (i := 16) rfl (by kernel_rfl) (pureVal_ok rfl) ((List.Sublist.refl _)) rfl rfl rfl ?_
  refine ExD.take (i := 17) rfl (by kernel_rfl) (pureVal_ok rfl) ((List.Sublist.refl _)) rfl rfl rfl ?_
  refine ExD.done (by kernel_rfl) ?_
  refine Ex.regSeq (ExL.pures 2 rfl ?_)
  refine ExL.nil ?_
  refine Ex.ret ?_
  refine RetQ.mk () rfl (.tmp rfl .nil) (tB rfl) [] (rfl) rfl (trivial)
theorem e_57 : Enters Tryz.prog 57 := Enters.of Tryz.func57 rfl
theorem c_l04Step (s : List Int) (hu : Nums 255 s) (As : Option Addr) (cs : Nat) (hls : s.length ≤ maxLen) (l : List VP) (Al : Option Addr) (cl : Nat) (hll : l.length ≤ maxLen) (hL : Log s l) (f : VP) (hf : validFlow f = true) (i k : Nat) (hi : i < l.length) (hk : k < l.length) (hik : i < k) : Ret Tryz.prog 57 [.slice As s.length cs, .slice Al l.length cl, .agg (encP f).toArray, .int .i64 (i : Int), .int .i64 (k : Int)] (fun w => Rd w As (s.flatMap (eI .u8)) ∧ Rd w Al (l.flatMap encP)) (fun x : Unit => .tuple #[.int .i64 (((k : Int) - i - 1) + 2 * brk (fitsF s l f i k)), .int .i64 (brk (fitsF s l f i k))]) (fun x => []) (fun x => True) := by
  refine Ret.of e_57 Tryz.func57 rfl Tryz.ntmps57 rfl rfl (fun w hpre => ?_)
  have hs := hpre.1.base
  have hl := hpre.2.base
  have hm0 : maxLen = 9223372036854775807 := rfl
  have hv := hL.stk
  have hri := hL.rd hi
  have hrk := hL.rd hk
  have hLl := hL.len
  refine Ex.regSeq (ExL.pures 0 rfl ?_)
  refine ExL.op rfl (op_box rfl rfl rfl rfl rfl (fun b1 => ?_))
  refine ExL.pures 2 rfl ?_
  refine ExL.nil ?_
  refine Ex.regSeq (ExL.pures 2 rfl ?_)
  refine ExL.free (by first | exact fr_sub64 rfl rfl rfl (by omega) | exact fr_sub rfl rfl rfl) rfl rfl rfl ?_
  refine ExL.free (by first | exact fr_sub64 rfl rfl rfl (by omega) | exact fr_sub rfl rfl rfl) rfl rfl rfl ?_
  refine ExL.free (by first | exact fr_mul64 rfl rfl rfl (by omega) | exact fr_mul rfl rfl rfl) rfl rfl rfl ?_
  refine ExL.pures 1 rfl ?_
  refine ExL.nil ?_
  refine Ex.seq ?_
  refine Ex.regSeq (ExL.pures 2 rfl ?_)
  refine ExL.free (fr_loadN rfl rfl rfl rfl rfl (SegO.whole (i := 0) rfl)) rfl rfl rfl ?_
  refine ExL.pures 2 rfl ?_
  refine ExL.op rfl (op_ret rfl rfl rfl (c_l04Fits s (by assumption) _ _ (by omega) l _ _ (by omega) (by assumption) f (by assumption) i k (by omega) (by omega)) (fun w hw => ⟨Reads.get (Reads.old hs) w hw, Reads.get (Reads.old hl) w hw⟩) rfl rfl (fun x2 hx2 => ?_))
  refine ExL.nil ?_
  refine Ex.cond rfl (fun hb3 => ?_) (fun hb3 => ?_)
  · refine Ex.regSeq (ExL.pures 3 rfl ?_)
    refine ExL.nil ?_
    refine Ex.ret ?_
    refine RetQ.mk () rfl (.tmp rfl (.tmp rfl .nil)) (t2 (vI (by first | (rw [(by assumption : fitsF s l f i k = true), brk_t]; first | done | omega) | (rw [(by assumption : fitsF s l f i k = false), brk_f]; first | done | omega))) (vI (by first | (rw [(by assumption : fitsF s l f i k = true), brk_t]; first | done | omega) | (rw [(by assumption : fitsF s l f i k = false), brk_f]; first | done | omega)))) [] (rfl) rfl (trivial)
  · refine Ex.skip ?_
    refine Ex.regSeq (ExL.pures 1 rfl ?_)
    refine ExL.free (by first | exact fr_add64 rfl rfl rfl (by omega) | exact fr_add rfl rfl rfl) rfl rfl rfl ?_
    refine ExL.pures 2 rfl ?_
    refine ExL.nil ?_
    refine Ex.ret ?_
    refine RetQ.mk () rfl (.tmp rfl (.tmp rfl .nil)) (t2 (vI (by first | (rw [(by assumption : fitsF s l f i k = true), brk_t]; first | done | omega) | (rw [(by assumption : fitsF s l f i k = false), brk_f]; first | done | omega))) (vI (by first | (rw [(by assumption : fitsF s l f i k = true), brk_t]; first | done | omega) | (rw [(by assumption : fitsF s l f i k = false), brk_f]; first | done | omega)))) [] (rfl) rfl (trivial)
theorem e_56 : Enters Tryz.prog 56 := Enters.of Tryz.func56 rfl
theorem c_l04Rests (s : List Int) (hu : Nums 255 s) (As : Option Addr) (cs : Nat) (hls : s.length ≤ maxLen) (l : List VP) (Al : Option Addr) (cl : Nat) (hll : l.length ≤ maxLen) (hL : Log s l) (f : VP) (hf : validFlow f = true) : Ret Tryz.prog 56 [.slice As s.length cs, .slice Al l.length cl, .agg (encP f).toArray] (fun w => Rd w As (s.flatMap (eI .u8)) ∧ Rd w Al (l.flatMap encP)) (fun x : Nat => .slice (some ⟨x, 0, none⟩) l.length l.length) (fun x => [.row (.slice (some ⟨x, 0, none⟩) l.length l.length) 109 3 l.length ((rstL (fitsF s l f) l.length).flatMap encR)]) (fun x => True) := by
  refine Ret.of e_56 Tryz.func56 rfl Tryz.ntmps56 rfl rfl (fun w hpre => ?_)
  have hs := hpre.1.base
  have hl := hpre.2.base
  have hm0 : maxLen = 9223372036854775807 := rfl
  have hLl := hL.len
  refine Ex.regSeq (ExL.pures 0 rfl ?_)
  refine ExL.op rfl (op_box rfl rfl rfl rfl rfl (fun b1 => ?_))
  refine ExL.pures 1 rfl ?_
  refine ExL.nil ?_
  refine Ex.regSeq (ExL.pures 3 rfl ?_)
  refine ExL.nil ?_
  refine Ex.regSeq (ExL.pures 1 rfl ?_)
  refine ExL.op rfl (op_makeSlice (sz := 24) rfl rfl rfl rfl rfl rfl rfl rfl (⟨by omega, by unfold maxLen; omega⟩) rfl rfl (fun r2 => ?_))
  refine ExL.pures 1 rfl ?_
  refine ExL.nil ?_
  refine Ex.seq ?_
  refine Ex.regSeq (ExL.pures 1 rfl ?_)
  refine ExL.free (by first | exact fr_sub64 rfl rfl rfl (by omega) | exact fr_sub rfl rfl rfl) rfl rfl rfl ?_
  refine ExL.pures 1 rfl ?_
  refine ExL.nil ?_
  refine Ex.block ?_
  refine Ex.loopK (X := Nat) (fun d => [(9, .int .i64 ((l.length : Int) - 1 - d))]) (fun d => [.row (.slice (some ⟨r2, 0, none⟩) l.length l.length) 109 3 l.length ((outR (fitsF s l f) l.length d).flatMap encR)]) (fun d => d ≤ l.length) (fun d => l.length - d) 0 [(0, _), (1, _), (5, _), (6, _), (7, _), (8, _)] [_] 2 [0, 1] ⟨agI (by omega), trivial⟩ ⟨rfl, rfl, rfl, rfl, rfl, rfl, trivial⟩ (pkR (outR_zero rfl)) rfl (Nat.zero_le _) (fun d hI => ?_)
  have hI : d ≤ l.length := hI
  refine Ex.seq ?_
  refine Ex.regSeq (ExL.pures 1 rfl ?_)
  refine ExL.geq rfl rfl rfl rfl rfl rfl (fun h3 => ?_) (fun h3 => ?_)
  · refine ExL.nil ?_
    refine Ex.cond_t rfl ?_
    refine Ex.skip ?_
    refine Ex.seq ?_
    refine Ex.block ?_
    rw [show (l.length : Int) - 1 - d = (((l.length - 1 - d) : Nat) : Int) by omega]
    refine Ex.regSeq (ExL.pures 1 rfl ?_)
    refine ExL.free (by first | exact fr_sub64 rfl rfl rfl (by omega) | exact fr_sub rfl rfl rfl) rfl rfl rfl ?_
    refine ExL.pures 1 rfl ?_
    refine ExL.free (by first | exact fr_sub64 rfl rfl rfl (by omega) | exact fr_sub rfl rfl rfl) rfl rfl rfl ?_
    refine ExL.free (by first | exact fr_mul64 rfl rfl rfl (by omega) | exact fr_mul rfl rfl rfl) rfl rfl rfl ?_
    refine ExL.free (fr_build rfl rfl rfl rfl) rfl rfl rfl ?_
    refine ExL.op rfl (op_alloc rfl rfl rfl rfl rfl (fun b4 => ?_))
    refine ExL.op rfl (op_storeC (i := 0) rfl rfl rfl rfl rfl rfl rfl rfl rfl rfl ?_)
    refine ExL.nil ?_
    refine Ex.seq ?_
    refine Ex.regSeq (ExL.pures 1 rfl ?_)
    refine ExL.free (by first | exact fr_add64 rfl rfl rfl (by omega) | exact fr_add rfl rfl rfl) rfl rfl rfl ?_
    refine ExL.pures 1 rfl ?_
    refine ExL.nil ?_
    refine Ex.block ?_
    refine Ex.loopK (X := Nat) (fun m => [(11, .int .i64 (((l.length - d + m) : Nat) : Int))]) (fun m => [.blk b4 (encR (inn (fitsF s l f) l.length d (rl (fitsF s l f) l.length d) m)) 109]) (fun m => m ≤ d) (fun m => d - m) 0 [(0, _), (1, _), (5, _), (6, _), (7, _), (8, _), (9, _), (10, _)] [_, _] 3 [0, 1, 2] ⟨agI (by omega), trivial⟩ ⟨rfl, rfl, rfl, rfl, rfl, rfl, rfl, rfl, trivial⟩ (pkB (encR_eq (by omega) rfl rfl)) rfl (Nat.zero_le _) (fun m hI => ?_)
    have hI : m ≤ d := hI
    refine Ex.seq ?_
    refine Ex.regSeq (ExL.pures 2 rfl ?_)
    refine ExL.lss rfl rfl rfl rfl rfl rfl (fun h5 => ?_) (fun h5 => ?_)
    · refine ExL.nil ?_
      refine Ex.cond_t rfl ?_
      refine Ex.skip ?_
      refine Ex.seq ?_
      refine Ex.block ?_
      refine Ex.regSeq (ExL.pures 2 rfl ?_)
      refine ExL.free (fr_loadN rfl rfl rfl rfl rfl (SegO.whole (i := 2) rfl)) rfl rfl rfl ?_
      refine ExL.pures 2 rfl ?_
      refine ExL.op rfl (op_ret rfl rfl rfl (c_l04Step s (by assumption) _ _ (by omega) l _ _ (by omega) (by assumption) f (by assumption) (l.length - 1 - d) (l.length - d + m) (by omega) (by omega) (by omega)) (fun w hw => ⟨Reads.get (Reads.old hs) w hw, Reads.get (Reads.old hl) w hw⟩) rfl rfl (fun x6 hx6 => ?_))
      refine ExL.pures 5 rfl ?_
      refine ExL.nil ?_
      have hol := outR_len (fit := (fitsF s l f)) (n := l.length) (d := d) (by omega)
      have ho := outR_at (fit := (fitsF s l f)) (n := l.length) (d := d) (k := (l.length - d + m)) (by omega) (by omega) (by omega)
      have hrb := rl_bd (fitsF s l f) l.length d (by omega)
      have hrl := rl_len (fitsF s l f) l.length d
      have hcb := cand_bd (fit := (fitsF s l f)) hrb hrl (m := m) (by omega)
      have hib := inn_bd (fit := (fitsF s l f)) hrb hrl (by omega) m (by omega)
      rw [show l.length - 1 - (l.length - d + m) = d - 1 - m by omega] at ho
      have he := hrb (d - 1 - m) (by omega)
      rw [← ho] at he
      have hbk := brk_bd (fitsF s l f (l.length - 1 - d) (l.length - d + m))
      have hcc : (((l.length - d + m) : Nat) : Int) - (((l.length - 1 - d) : Nat) : Int) - 1 + 2 * brk (fitsF s l f (l.length - 1 - d) (l.length - d + m)) + ((outR (fitsF s l f) l.length d).getD (l.length - d + m) zR).cost = candC (fitsF s l f) l.length d (rl (fitsF s l f) l.length d) m := by unfold candC; rw [ho]; omega
      have hcd : brk (fitsF s l f (l.length - 1 - d) (l.length - d + m)) + ((outR (fitsF s l f) l.length d).getD (l.length - d + m) zR).breaks = candB (fitsF s l f) l.length d (rl (fitsF s l f) l.length d) m := by unfold candB; rw [ho]
      refine Ex.regSeq (ExL.pures 3 rfl ?_)
      refine ExL.free (fr_indexAddr (sz := 3) rfl rfl rfl rfl rfl rfl (by omega)) rfl rfl rfl ?_
      refine ExL.free (fr_fieldAddrF (i := (↑(l.length - d + m) : Int).toNat) (Reads.row (i := 1) rfl) encR_len rfl rfl rfl (by omega) rfl rfl rfl rfl) rfl rfl rfl ?_
      refine ExL.free (fr_load rfl rfl rfl rfl (cellJ (i := ↑(l.length - d + m)) ((l.length - d + m)) (Reads.row (i := 1) rfl) encR_len zR 0 rfl (by omega) (by omega) rfl)) rfl rfl rfl ?_
      refine ExL.free (by first | exact fr_add64 rfl rfl rfl (by omega) | exact fr_add rfl rfl rfl) rfl rfl rfl ?_
      refine ExL.pures 1 rfl ?_
      refine ExL.nil ?_
      refine Ex.regSeq (ExL.pures 3 rfl ?_)
      refine ExL.free (fr_indexAddr (sz := 3) rfl rfl rfl rfl rfl rfl (by omega)) rfl rfl rfl ?_
      refine ExL.free (fr_fieldAddrF (i := (↑(l.length - d + m) : Int).toNat) (Reads.row (i := 1) rfl) encR_len rfl rfl rfl (by omega) rfl rfl rfl rfl) rfl rfl rfl ?_
      refine ExL.free (fr_load rfl rfl rfl rfl (cellJ (i := ↑(l.length - d + m)) ((l.length - d + m)) (Reads.row (i := 1) rfl) encR_len zR 1 rfl (by omega) (by omega) rfl)) rfl rfl rfl ?_
      refine ExL.free (by first | exact fr_add64 rfl rfl rfl (by omega) | exact fr_add rfl rfl rfl) rfl rfl rfl ?_
      refine ExL.pures 1 rfl ?_
      refine ExL.nil ?_
      rw [hcc, hcd]
      refine Ex.regSeq (ExL.pures 2 rfl ?_)
      refine ExL.free (fr_load rfl rfl rfl rfl (CellO.blk (i := 0) rfl rfl)) rfl rfl rfl ?_
      refine ExL.lss rfl rfl rfl rfl rfl rfl (fun h7 => ?_) (fun h7 => ?_)
      · refine ExL.pures 12 rfl ?_
        refine ExL.nil ?_
        refine Ex.cond_t rfl ?_
        refine Ex.region (ExL.pures 3 rfl ?_)
        refine ExL.free (fr_build rfl rfl rfl rfl) rfl rfl rfl ?_
        refine ExL.op rfl (op_storeC (i := 0) rfl rfl rfl rfl rfl rfl rfl rfl rfl rfl ?_)
        refine ExL.nil ?_
        refine Ex.region (ExL.pures 1 rfl ?_)
        refine ExL.free (by first | exact fr_add64 rfl rfl rfl (by omega) | exact fr_add rfl rfl rfl) rfl rfl rfl ?_
        refine ExL.pures 1 rfl ?_
        refine ExL.nil ?_
        refine Hand.mk (m + 1) 3 [0, 1, 2] ⟨agI (by omega), trivial⟩ ⟨rfl, rfl, rfl, rfl, rfl, rfl, rfl, rfl, trivial⟩ (by first | (rw [inn_y (by omega)]; rfl) | (rw [inn_n (by omega)]; first | done | rfl)) rfl (by omega) (by omega)
      · refine ExL.pures 3 rfl ?_
        refine ExL.free (fr_load rfl rfl rfl rfl (CellO.blk (i := 0) rfl rfl)) rfl rfl rfl ?_
        refine ExL.eql rfl rfl rfl rfl rfl rfl (fun h8 => ?_) (fun h8 => ?_)
        · refine ExL.pures 3 rfl ?_
          refine ExL.free (fr_load rfl rfl rfl rfl (CellO.blk (i := 0) rfl rfl)) rfl rfl rfl ?_
          refine ExL.lss rfl rfl rfl rfl rfl rfl (fun h9 => ?_) (fun h9 => ?_)
          · refine ExL.pures 2 rfl ?_
            refine ExL.nil ?_
            refine Ex.cond_t rfl ?_
            refine Ex.region (ExL.pures 3 rfl ?_)
            refine ExL.free (fr_build rfl rfl rfl rfl) rfl rfl rfl ?_
            refine ExL.op rfl (op_storeC (i := 0) rfl rfl rfl rfl rfl rfl rfl rfl rfl rfl ?_)
            refine ExL.nil ?_
            refine Ex.region (ExL.pures 1 rfl ?_)
            refine ExL.free (by first | exact fr_add64 rfl rfl rfl (by omega) | exact fr_add rfl rfl rfl) rfl rfl rfl ?_
            refine ExL.pures 1 rfl ?_
            refine ExL.nil ?_
            refine Hand.mk (m + 1) 3 [0, 1, 2] ⟨agI (by omega), trivial⟩ ⟨rfl, rfl, rfl, rfl, rfl, rfl, rfl, rfl, trivial⟩ (by first | (rw [inn_y (by omega)]; rfl) | (rw [inn_n (by omega)]; first | done | rfl)) rfl (by omega) (by omega)
          · refine ExL.pures 2 rfl ?_
            refine ExL.nil ?_
            refine Ex.cond_f rfl ?_
            refine Ex.skip ?_
            refine Ex.region (ExL.pures 1 rfl ?_)
            refine ExL.free (by first | exact fr_add64 rfl rfl rfl (by omega) | exact fr_add rfl rfl rfl) rfl rfl rfl ?_
            refine ExL.pures 1 rfl ?_
            refine ExL.nil ?_
            refine Hand.mk (m + 1) 3 [0, 1, 2] ⟨agI (by omega), trivial⟩ ⟨rfl, rfl, rfl, rfl, rfl, rfl, rfl, rfl, trivial⟩ (by first | (rw [inn_y (by omega)]; rfl) | (rw [inn_n (by omega)]; first | done | rfl)) rfl (by omega) (by omega)
        · refine ExL.pures 7 rfl ?_
          refine ExL.nil ?_
          refine Ex.cond_f rfl ?_
          refine Ex.skip ?_
          refine Ex.region (ExL.pures 1 rfl ?_)
          refine ExL.free (by first | exact fr_add64 rfl rfl rfl (by omega) | exact fr_add rfl rfl rfl) rfl rfl rfl ?_
          refine ExL.pures 1 rfl ?_
          refine ExL.nil ?_
          refine Hand.mk (m + 1) 3 [0, 1, 2] ⟨agI (by omega), trivial⟩ ⟨rfl, rfl, rfl, rfl, rfl, rfl, rfl, rfl, trivial⟩ (by first | (rw [inn_y (by omega)]; rfl) | (rw [inn_n (by omega)]; first | done | rfl)) rfl (by omega) (by omega)
    · refine ExL.nil ?_
      refine Ex.cond_f rfl ?_
      refine Ex.exit ?_
      obtain rfl : d = m := (by omega)
      refine Ex.region (ExL.pures 2 rfl ?_)
      refine ExL.free (fr_loadN rfl rfl rfl rfl rfl (SegO.whole (i := 0) rfl)) rfl rfl rfl ?_
      refine ExL.free (fr_indexAddr (sz := 3) rfl rfl rfl rfl rfl rfl (by omega)) rfl rfl rfl ?_
      refine ExL.op rfl (op_storeRowF (i := 1) rfl rfl rfl rfl rfl rfl rfl rfl (room encR_len (k := (l.length - 1 - d)) (by rw [outR_len (by omega)]; omega) (by simp) rfl) (List.cons_ne_nil _ _) rfl (outR_put (by omega) (by simp) rfl) ?_)
      refine ExL.nil ?_
      refine Ex.region (ExL.pures 1 rfl ?_)
      refine ExL.free (by first | exact fr_sub64 rfl rfl rfl (by omega) | exact fr_sub rfl rfl rfl) rfl rfl rfl ?_
      refine ExL.pures 1 rfl ?_
      refine ExL.nil ?_
      refine Hand.mk (d + 1) 3 [1, 2] ⟨agI (by omega), trivial⟩ ⟨rfl, rfl, rfl, rfl, rfl, rfl, trivial⟩ (rfl) rfl (by omega) (by omega)
  · refine ExL.nil ?_
    refine Ex.cond_f rfl ?_
    refine Ex.exit ?_
    obtain rfl : d = l.length := (by omega)
    refine Ex.regSeq (ExL.pures 2 rfl ?_)
    refine ExL.nil ?_
    refine Ex.ret ?_
    refine RetQ.mk _ rfl (.tmp rfl .nil) (rfl) [0] (rfl) rfl (trivial)
end Go.Proofs.YtddflaaccmjoeaaGreatDoor

/- What these functions of the program hand back, each proved by walking its operations. -/
set_option linter.unusedVariables false
set_option linter.unusedSimpArgs false
set_option maxRecDepth 4000
namespace Go.Proofs.YtddflaaccmjoeaaGreatDoor
open Go Go.Sx Go.RowKit Go.W Go.Proofs
attribute [local irreducible] Ex ExL ExD Op1 Free RetQ MutQ Reads CellO SegO LoadsAs
theorem c_l04FitsI (s : List Int) (hu : Nums 255 s) (As : Option Addr) (cs : Nat) (hls : s.length ≤ maxLen) (l : List VP) (Al : Option Addr) (cl : Nat) (hll : l.length ≤ maxLen) (hL : Log s l) (f : VP) (hf : validFlow f = true) (i k : Int) (hi : 0 ≤ i ∧ i < (l.length : Int)) (hk : 0 ≤ k ∧ k < (l.length : Int)) : Ret Tryz.prog 35 [.slice As s.length cs, .slice Al l.length cl, .agg (encP f).toArray, .int .i64 i, .int .i64 k] (fun w => Rd w As (s.flatMap (eI .u8)) ∧ Rd w Al (l.flatMap encP)) (fun x : Unit => .bool (fitsF s l f i.toNat k.toNat)) (fun x => []) (fun x => True) := by
  have h := c_l04Fits s hu As cs hls l Al cl hll hL f hf i.toNat k.toNat (by omega) (by omega)
  rwa [Int.toNat_of_nonneg hi.1, Int.toNat_of_nonneg hk.1] at h
theorem e_33 : Enters Tryz.prog 33 := Enters.of Tryz.func33 rfl
theorem c_l04Best (s : List Int) (hu : Nums 255 s) (As : Option Addr) (cs : Nat) (hls : s.length ≤ maxLen) (l : List VP) (Al : Option Addr) (cl : Nat) (hll : l.length ≤ maxLen) (hL : Log s l) (f : VP) (hf : validFlow f = true) : Ret Tryz.prog 33 [.slice As s.length cs, .slice Al l.length cl, .agg (encP f).toArray] (fun w => Rd w As (s.flatMap (eI .u8)) ∧ Rd w Al (l.flatMap encP)) (fun x : (Option Addr × Nat) × (Option Addr × Nat) => .agg (encY x.1.1 x.1.2 x.2.1 x.2.2 (stV (fitsF s l f) l.length)).toArray) (fun x => [.row (.slice x.1.1 (stK (fitsF s l f) l.length).length x.1.2) 2 1 (stK (fitsF s l f) l.length).length ((stK (fitsF s l f) l.length).flatMap (eI .i64)), .row (.slice x.2.1 (stB (fitsF s l f) l.length).length x.2.2) 2 1 (stB (fitsF s l f) l.length).length ((stB (fitsF s l f) l.length).flatMap (eI .i64))]) (fun x => True) := by
  refine Ret.of e_33 Tryz.func33 rfl Tryz.ntmps33 rfl rfl (fun w hpre => ?_)
  have hs := hpre.1.base
  have hl := hpre.2.base
  have hm0 : maxLen = 9223372036854775807 := rfl
  have hLl := hL.len
  refine Ex.regSeq (ExL.pures 0 rfl ?_)
  refine ExL.op rfl (op_box rfl rfl rfl rfl rfl (fun b1 => ?_))
  refine ExL.op rfl (op_alloc rfl rfl rfl rfl rfl (fun b2 => ?_))
  refine ExL.nil ?_
  refine Ex.regSeq (ExL.pures 0 rfl ?_)
  refine ExL.free (fr_build rfl rfl rfl rfl) rfl rfl rfl ?_
  refine ExL.op rfl (op_alloc rfl rfl rfl rfl rfl (fun b3 => ?_))
  refine ExL.op rfl (op_storeC (i := 0) rfl rfl rfl rfl rfl rfl rfl rfl rfl rfl ?_)
  refine ExL.nil ?_
  refine Ex.regSeq (ExL.pures 2 rfl ?_)
  refine ExL.free (fr_loadN rfl rfl rfl rfl rfl (SegO.whole (i := 2) rfl)) rfl rfl rfl ?_
  refine ExL.op rfl (op_ret rfl rfl rfl (c_l04Rests s (by assumption) _ _ (by omega) l _ _ (by omega) (by assumption) f (by assumption)) (fun w hw => ⟨Reads.get (Reads.old hs) w hw, Reads.get (Reads.old hl) w hw⟩) rfl rfl (fun x4 hx4 => ?_))
  refine ExL.pures 1 rfl ?_
  refine ExL.nil ?_
  refine Ex.regSeq (ExL.pures 1 rfl ?_)
  refine ExL.nil ?_
  refine Ex.regSeq (ExL.pures 1 rfl ?_)
  refine ExL.nil ?_
  refine Ex.seq ?_
  refine Ex.regSeq (ExL.pures 1 rfl ?_)
  refine ExL.nil ?_
  refine Ex.block ?_
  refine Ex.loopK (X := Nat) (fun m => [(9, .int .i64 (bstV (fitsF s l f) l.length m).next), (10, .int .i64 (bstV (fitsF s l f) l.length m).breaks), (11, .int .i64 m)]) (fun m => [.blk b3 [.slice none 0 0, .slice none 0 0, .int .i64 (bstV (fitsF s l f) l.length m).cost] 32]) (fun m => m ≤ l.length) (fun m => l.length - m) 0 [(0, _), (1, _), (5, _), (6, _), (7, _), (8, _)] [_, _, _] 4 [1, 0, 2, 3] ⟨rfl, rfl, rfl, trivial⟩ ⟨rfl, rfl, rfl, rfl, rfl, rfl, trivial⟩ (rfl) rfl (Nat.zero_le _) (fun m hI => ?_)
  have hI : m ≤ l.length := hI
  refine Ex.seq ?_
  refine Ex.regSeq (ExL.pures 3 rfl ?_)
  refine ExL.lss rfl rfl rfl rfl rfl rfl (fun h5 => ?_) (fun h5 => ?_)
  · refine ExL.nil ?_
    refine Ex.cond_t rfl ?_
    refine Ex.skip ?_
    refine Ex.seq ?_
    refine Ex.block ?_
    have hrl := rstL_len (fitsF s l f) l.length
    have hrb := rst_bd (fit := (fitsF s l f)) (n := l.length) (i := m) (by omega)
    have hbb := bst_bd (fit := (fitsF s l f)) (n := l.length) m (by omega)
    refine Ex.regSeq (ExL.pures 1 rfl ?_)
    refine ExL.free (by first | exact fr_mul64 rfl rfl rfl (by omega) | exact fr_mul rfl rfl rfl) rfl rfl rfl ?_
    refine ExL.pures 2 rfl ?_
    refine ExL.free (fr_indexAddr (sz := 3) rfl rfl rfl rfl rfl rfl (by omega)) rfl rfl rfl ?_
    refine ExL.free (fr_fieldAddrF (i := (↑m : Int).toNat) (Reads.row (i := 1) rfl) encR_len rfl rfl rfl (by omega) rfl rfl rfl rfl) rfl rfl rfl ?_
    refine ExL.free (fr_load rfl rfl rfl rfl (by first | exact cellN (Reads.row (i := 1) rfl) encR_len zR 0 rfl (by omega) rfl | exact cellF (Reads.row (i := 1) rfl) encR_len zR 0 rfl (by omega) rfl)) rfl rfl rfl ?_
    refine ExL.free (by first | exact fr_add64 rfl rfl rfl (by omega) | exact fr_add rfl rfl rfl) rfl rfl rfl ?_
    refine ExL.pures 1 rfl ?_
    refine ExL.nil ?_
    refine Ex.regSeq (ExL.pures 1 rfl ?_)
    refine ExL.lss rfl rfl rfl rfl rfl rfl (fun h6 => ?_) (fun h6 => ?_)
    · refine ExL.pures 21 rfl ?_
      refine ExL.nil ?_
      refine Ex.cond_t rfl ?_
      refine Ex.regSeq (ExL.pures 2 rfl ?_)
      refine ExL.nil ?_
      refine Ex.regSeq (ExL.pures 2 rfl ?_)
      refine ExL.free (fr_indexAddr (sz := 3) rfl rfl rfl rfl rfl rfl (by omega)) rfl rfl rfl ?_
      refine ExL.free (fr_fieldAddrF (i := (↑m : Int).toNat) (Reads.row (i := 1) rfl) encR_len rfl rfl rfl (by omega) rfl rfl rfl rfl) rfl rfl rfl ?_
      refine ExL.free (fr_load rfl rfl rfl rfl (by first | exact cellN (Reads.row (i := 1) rfl) encR_len zR 1 rfl (by omega) rfl | exact cellF (Reads.row (i := 1) rfl) encR_len zR 1 rfl (by omega) rfl)) rfl rfl rfl ?_
      refine ExL.pures 1 rfl ?_
      refine ExL.nil ?_
      refine Ex.region (ExL.pures 2 rfl ?_)
      refine ExL.op rfl (op_storeC (i := 0) rfl rfl rfl rfl rfl rfl rfl rfl rfl rfl ?_)
      refine ExL.nil ?_
      refine Ex.region (ExL.pures 1 rfl ?_)
      refine ExL.free (by first | exact fr_add64 rfl rfl rfl (by omega) | exact fr_add rfl rfl rfl) rfl rfl rfl ?_
      refine ExL.pures 1 rfl ?_
      refine ExL.nil ?_
      refine Hand.mk (m + 1) 4 [0, 1, 2, 3] ⟨agI (by first | (rw [bst_y (by omega)]) | (rw [bst_n (by omega)])), agI (by first | (rw [bst_y (by omega)]) | (rw [bst_n (by omega)])), rfl, trivial⟩ ⟨rfl, rfl, rfl, rfl, rfl, rfl, trivial⟩ (by first | (rw [bst_y (by omega), Int.one_mul]; rfl) | (rw [bst_n (by omega)]; first | done | rfl)) rfl (by omega) (by omega)
    · refine ExL.pures 3 rfl ?_
      refine ExL.free (fr_load rfl rfl rfl rfl (CellO.blk (i := 0) rfl rfl)) rfl rfl rfl ?_
      refine ExL.lss rfl rfl rfl rfl rfl rfl (fun h7 => ?_) (fun h7 => ?_)
      · refine ExL.pures 16 rfl ?_
        refine ExL.nil ?_
        refine Ex.cond_t rfl ?_
        refine Ex.regSeq (ExL.pures 2 rfl ?_)
        refine ExL.nil ?_
        refine Ex.regSeq (ExL.pures 2 rfl ?_)
        refine ExL.free (fr_indexAddr (sz := 3) rfl rfl rfl rfl rfl rfl (by omega)) rfl rfl rfl ?_
        refine ExL.free (fr_fieldAddrF (i := (↑m : Int).toNat) (Reads.row (i := 1) rfl) encR_len rfl rfl rfl (by omega) rfl rfl rfl rfl) rfl rfl rfl ?_
        refine ExL.free (fr_load rfl rfl rfl rfl (by first | exact cellN (Reads.row (i := 1) rfl) encR_len zR 1 rfl (by omega) rfl | exact cellF (Reads.row (i := 1) rfl) encR_len zR 1 rfl (by omega) rfl)) rfl rfl rfl ?_
        refine ExL.pures 1 rfl ?_
        refine ExL.nil ?_
        refine Ex.region (ExL.pures 2 rfl ?_)
        refine ExL.op rfl (op_storeC (i := 0) rfl rfl rfl rfl rfl rfl rfl rfl rfl rfl ?_)
        refine ExL.nil ?_
        refine Ex.region (ExL.pures 1 rfl ?_)
        refine ExL.free (by first | exact fr_add64 rfl rfl rfl (by omega) | exact fr_add rfl rfl rfl) rfl rfl rfl ?_
        refine ExL.pures 1 rfl ?_
        refine ExL.nil ?_
        refine Hand.mk (m + 1) 4 [0, 1, 2, 3] ⟨agI (by first | (rw [bst_y (by omega)]) | (rw [bst_n (by omega)])), agI (by first | (rw [bst_y (by omega)]) | (rw [bst_n (by omega)])), rfl, trivial⟩ ⟨rfl, rfl, rfl, rfl, rfl, rfl, trivial⟩ (by first | (rw [bst_y (by omega), Int.one_mul]; rfl) | (rw [bst_n (by omega)]; first | done | rfl)) rfl (by omega) (by omega)
      · refine ExL.pures 4 rfl ?_
        refine ExL.free (fr_load rfl rfl rfl rfl (CellO.blk (i := 0) rfl rfl)) rfl rfl rfl ?_
        refine ExL.eql rfl rfl rfl rfl rfl rfl (fun h8 => ?_) (fun h8 => ?_)
        · refine ExL.pures 3 rfl ?_
          refine ExL.free (fr_indexAddr (sz := 3) rfl rfl rfl rfl rfl rfl (by omega)) rfl rfl rfl ?_
          refine ExL.free (fr_fieldAddrF (i := (↑m : Int).toNat) (Reads.row (i := 1) rfl) encR_len rfl rfl rfl (by omega) rfl rfl rfl rfl) rfl rfl rfl ?_
          refine ExL.free (fr_load rfl rfl rfl rfl (by first | exact cellN (Reads.row (i := 1) rfl) encR_len zR 1 rfl (by omega) rfl | exact cellF (Reads.row (i := 1) rfl) encR_len zR 1 rfl (by omega) rfl)) rfl rfl rfl ?_
          refine ExL.pures 1 rfl ?_
          refine ExL.lss rfl rfl rfl rfl rfl rfl (fun h9 => ?_) (fun h9 => ?_)
          · refine ExL.pures 2 rfl ?_
            refine ExL.nil ?_
            refine Ex.cond_t rfl ?_
            refine Ex.regSeq (ExL.pures 2 rfl ?_)
            refine ExL.nil ?_
            refine Ex.regSeq (ExL.pures 2 rfl ?_)
            refine ExL.free (fr_indexAddr (sz := 3) rfl rfl rfl rfl rfl rfl (by omega)) rfl rfl rfl ?_
            refine ExL.free (fr_fieldAddrF (i := (↑m : Int).toNat) (Reads.row (i := 1) rfl) encR_len rfl rfl rfl (by omega) rfl rfl rfl rfl) rfl rfl rfl ?_
            refine ExL.free (fr_load rfl rfl rfl rfl (by first | exact cellN (Reads.row (i := 1) rfl) encR_len zR 1 rfl (by omega) rfl | exact cellF (Reads.row (i := 1) rfl) encR_len zR 1 rfl (by omega) rfl)) rfl rfl rfl ?_
            refine ExL.pures 1 rfl ?_
            refine ExL.nil ?_
            refine Ex.region (ExL.pures 2 rfl ?_)
            refine ExL.op rfl (op_storeC (i := 0) rfl rfl rfl rfl rfl rfl rfl rfl rfl rfl ?_)
            refine ExL.nil ?_
            refine Ex.region (ExL.pures 1 rfl ?_)
            refine ExL.free (by first | exact fr_add64 rfl rfl rfl (by omega) | exact fr_add rfl rfl rfl) rfl rfl rfl ?_
            refine ExL.pures 1 rfl ?_
            refine ExL.nil ?_
            refine Hand.mk (m + 1) 4 [0, 1, 2, 3] ⟨agI (by first | (rw [bst_y (by omega)]) | (rw [bst_n (by omega)])), agI (by first | (rw [bst_y (by omega)]) | (rw [bst_n (by omega)])), rfl, trivial⟩ ⟨rfl, rfl, rfl, rfl, rfl, rfl, trivial⟩ (by first | (rw [bst_y (by omega), Int.one_mul]; rfl) | (rw [bst_n (by omega)]; first | done | rfl)) rfl (by omega) (by omega)
          · refine ExL.pures 2 rfl ?_
            refine ExL.nil ?_
            refine Ex.cond_f rfl ?_
            refine Ex.skip ?_
            refine Ex.region (ExL.pures 1 rfl ?_)
            refine ExL.free (by first | exact fr_add64 rfl rfl rfl (by omega) | exact fr_add rfl rfl rfl) rfl rfl rfl ?_
            refine ExL.pures 1 rfl ?_
            refine ExL.nil ?_
            refine Hand.mk (m + 1) 4 [0, 1, 2, 3] ⟨agI (by first | (rw [bst_y (by omega)]) | (rw [bst_n (by omega)])), agI (by first | (rw [bst_y (by omega)]) | (rw [bst_n (by omega)])), rfl, trivial⟩ ⟨rfl, rfl, rfl, rfl, rfl, rfl, trivial⟩ (by first | (rw [bst_y (by omega), Int.one_mul]; rfl) | (rw [bst_n (by omega)]; first | done | rfl)) rfl (by omega) (by omega)
        · refine ExL.pures 10 rfl ?_
          refine ExL.nil ?_
          refine Ex.cond_f rfl ?_
          refine Ex.skip ?_
          refine Ex.region (ExL.pures 1 rfl ?_)
          refine ExL.free (by first | exact fr_add64 rfl rfl rfl (by omega) | exact fr_add rfl rfl rfl) rfl rfl rfl ?_
          refine ExL.pures 1 rfl ?_
          refine ExL.nil ?_
          refine Hand.mk (m + 1) 4 [0, 1, 2, 3] ⟨agI (by first | (rw [bst_y (by omega)]) | (rw [bst_n (by omega)])), agI (by first | (rw [bst_y (by omega)]) | (rw [bst_n (by omega)])), rfl, trivial⟩ ⟨rfl, rfl, rfl, rfl, rfl, rfl, trivial⟩ (by first | (rw [bst_y (by omega), Int.one_mul]; rfl) | (rw [bst_n (by omega)]; first | done | rfl)) rfl (by omega) (by omega)
  · refine ExL.nil ?_
    refine Ex.cond_f rfl ?_
    refine Ex.exit ?_
    obtain rfl : m = l.length := (by omega)
    have hrl := rstL_len (fitsF s l f) l.length
    refine Ex.seq ?_
    refine Ex.block ?_
    refine Ex.nilRow 2 1 ?_
    refine Ex.nilRow 2 1 ?_
    refine Ex.loopK (X := PSt) (fun q => [(9, .int .i64 (ats (fitsF s l f) l.length q.j))]) (fun q => [.blk b3 [.slice q.A1 (kL (fitsF s l f) l.length q.j).length q.c1, .slice q.A2 (bL (fitsF s l f) l.length q.j).length q.c2, .int .i64 (bstV (fitsF s l f) l.length l.length).cost] 32, .row (.slice q.A1 (kL (fitsF s l f) l.length q.j).length q.c1) 2 1 (kL (fitsF s l f) l.length q.j).length ((kL (fitsF s l f) l.length q.j).flatMap (eI .i64)), .row (.slice q.A2 (bL (fitsF s l f) l.length q.j).length q.c2) 2 1 (bL (fitsF s l f) l.length q.j).length ((bL (fitsF s l f) l.length q.j).flatMap (eI .i64))]) (fun q => q.j ≤ l.length + 1) (fun q => muA l.length (ats (fitsF s l f) l.length q.j)) ⟨0, none, 0, none, 0⟩ [(0, _), (1, _), (5, _), (6, _), (7, _), (8, _)] [_, _, _] 6 [2, 0, 1, 3, 4, 5] ⟨rfl, trivial⟩ ⟨rfl, rfl, rfl, rfl, rfl, rfl, trivial⟩ (rfl) rfl (by dsimp only; omega) (fun q hI => ?_)
    have hI : q.j ≤ l.length + 1 := hI
    have hab := ats_bd (fitsF s l f) l.length q.j
    have hkl := kL_len (fitsF s l f) l.length q.j
    have hbl := bL_len (fitsF s l f) l.length q.j
    refine Ex.seq ?_
    refine Ex.regSeq (ExL.pures 1 rfl ?_)
    refine ExL.geq rfl rfl rfl rfl rfl rfl (fun h10 => ?_) (fun h10 => ?_)
    · refine ExL.nil ?_
      refine Ex.cond_t rfl ?_
      refine Ex.skip ?_
      refine Ex.block ?_
      have hj0 : ¬ (ats (fitsF s l f) l.length q.j) < 0 := by omega
      have hj1 := j_le hj0
      have hmu := hab
      obtain ⟨a, ha⟩ : ∃ a : Nat, (ats (fitsF s l f) l.length q.j) = (a : Int) := ⟨(ats (fitsF s l f) l.length q.j).toNat, by omega⟩
      have hnx : ats (fitsF s l f) l.length (q.j + 1) = ((rstL (fitsF s l f) l.length).getD a zR).next := by rw [ats, ha, nxt_nat]
      rw [ha]
      refine Ex.regSeq (ExL.pures 1 rfl ?_)
      refine ExL.free (fr_load rfl rfl rfl rfl (CellO.blk (i := 0) rfl rfl)) rfl rfl rfl ?_
      refine ExL.pures 1 rfl ?_
      refine ExL.op rfl (op_buildSlice (sz := 1) rfl rfl rfl rfl rfl rfl rfl rfl (by decide) rfl rfl rfl (fun r11 => ?_))
      refine ExL.op rfl (op_append (sz := 1) (bytes := 8) (i := 2) rfl rfl rfl rfl (Reads.row (i := 0) rfl) rfl (fun e => nomatch e) rfl rfl rfl rfl (by constructor <;> first | omega | (unfold maxLen; omega)) rfl rfl (fun A12 cA12 => ?_))
      refine ExL.pures 1 rfl ?_
      refine ExL.op rfl (op_storeC (i := 1) rfl rfl rfl rfl rfl rfl rfl rfl rfl rfl ?_)
      refine ExL.nil ?_
      refine Ex.regSeq (ExL.pures 2 rfl ?_)
      refine ExL.free (fr_indexAddr (sz := 3) rfl rfl rfl rfl rfl rfl (by omega)) rfl rfl rfl ?_
      refine ExL.free (fr_fieldAddrF (i := (↑a : Int).toNat) (Reads.row (i := 4) rfl) encR_len rfl rfl rfl (by omega) rfl rfl rfl rfl) rfl rfl rfl ?_
      refine ExL.free (fr_load rfl rfl rfl rfl (by first | exact cellN (Reads.row (i := 4) rfl) encR_len zR 2 rfl (by omega) rfl | exact cellF (Reads.row (i := 4) rfl) encR_len zR 2 rfl (by omega) rfl)) rfl rfl rfl ?_
      refine ExL.pures 1 rfl ?_
      refine ExL.nil ?_
      refine Ex.seq ?_
      have hrb := rst_bd (fit := (fitsF s l f)) (n := l.length) (i := a) (by omega)
      refine Ex.regSeq (ExL.pures 1 rfl ?_)
      refine ExL.geq rfl rfl rfl rfl rfl rfl (fun h14 => ?_) (fun h14 => ?_)
      · refine ExL.pures 3 rfl ?_
        refine ExL.free (fr_loadN rfl rfl rfl rfl rfl (SegO.whole (i := 6) rfl)) rfl rfl rfl ?_
        refine ExL.pures 2 rfl ?_
        refine ExL.op rfl (op_ret rfl rfl rfl (c_l04FitsI s (by assumption) _ _ (by omega) l _ _ (by omega) (by assumption) f (by assumption) ↑a ((rstL (fitsF s l f) l.length).getD a zR).next (by omega) (by omega)) (fun w hw => ⟨Reads.get (Reads.old hs) w hw, Reads.get (Reads.old hl) w hw⟩) rfl rfl (fun x15 hx15 => ?_))
        refine ExL.pures 2 rfl ?_
        refine ExL.nil ?_
        refine Ex.cond rfl (fun hb16 => ?_) (fun hb16 => ?_)
        · replace hb16 := nb_t hb16
          refine Ex.region (ExL.pures 1 rfl ?_)
          refine ExL.free (fr_load rfl rfl rfl rfl (CellO.blk (i := 1) rfl rfl)) rfl rfl rfl ?_
          refine ExL.pures 1 rfl ?_
          refine ExL.op rfl (op_buildSlice (sz := 1) rfl rfl rfl rfl rfl rfl rfl rfl (by decide) rfl rfl rfl (fun r17 => ?_))
          refine ExL.op rfl (op_append (sz := 1) (bytes := 8) (i := 4) rfl rfl rfl rfl (Reads.row (i := 0) rfl) rfl (fun e => nomatch e) rfl rfl rfl rfl (by constructor <;> first | omega | (unfold maxLen; omega)) rfl rfl (fun A18 cA18 => ?_))
          refine ExL.pures 1 rfl ?_
          refine ExL.op rfl (op_storeC (i := 2) rfl rfl rfl rfl rfl rfl rfl rfl rfl rfl ?_)
          refine ExL.nil ?_
          refine Ex.region (ExL.pures 2 rfl ?_)
          refine ExL.nil ?_
          refine Hand.mk ((⟨q.j + 1, A12, cA12, A18, cA18⟩ : PSt)) 8 [2, 3, 4, 5, 6, 7] ⟨agI (by rw [hnx]), trivial⟩ ⟨rfl, rfl, rfl, rfl, rfl, rfl, trivial⟩ (by first | (rw [kL_y hj0, bL_y hj0 (by rw [hnx]; omega) (by rw [hnx, ha]; simpa using ‹fitsF s l f _ _ = false›), hnx, ha, List.length_append, List.length_append, List.flatMap_append, List.flatMap_append]; rfl) | (rw [kL_y hj0, bL_n hj0 (by rw [hnx, ha]; rintro ⟨q1, q2⟩; simp at q2; first | omega | simp_all), ha, List.length_append, List.flatMap_append]; rfl)) rfl ((by dsimp only; omega)) ((by show muA _ (ats _ _ (q.j + 1)) < muA _ (ats _ _ q.j); exact mu_lt (by omega) (by omega) (nxt_bd (by omega) (by omega))))
        · replace hb16 := nb_f hb16
          refine Ex.skip ?_
          refine Ex.region (ExL.pures 2 rfl ?_)
          refine ExL.nil ?_
          refine Hand.mk ((⟨q.j + 1, A12, cA12, q.A2, q.c2⟩ : PSt)) 7 [1, 2, 3, 4, 5, 6] ⟨agI (by rw [hnx]), trivial⟩ ⟨rfl, rfl, rfl, rfl, rfl, rfl, trivial⟩ (by first | (rw [kL_y hj0, bL_y hj0 (by rw [hnx]; omega) (by rw [hnx, ha]; simpa using ‹fitsF s l f _ _ = false›), hnx, ha, List.length_append, List.length_append, List.flatMap_append, List.flatMap_append]; rfl) | (rw [kL_y hj0, bL_n hj0 (by rw [hnx, ha]; rintro ⟨q1, q2⟩; simp at q2; first | omega | simp_all), ha, List.length_append, List.flatMap_append]; rfl)) rfl ((by dsimp only; omega)) ((by show muA _ (ats _ _ (q.j + 1)) < muA _ (ats _ _ q.j); exact mu_lt (by omega) (by omega) (nxt_bd (by omega) (by omega))))
      · refine ExL.pures 9 rfl ?_
        refine ExL.nil ?_
        refine Ex.cond_f rfl ?_
        refine Ex.skip ?_
        refine Ex.region (ExL.pures 2 rfl ?_)
        refine ExL.nil ?_
        refine Hand.mk ((⟨q.j + 1, A12, cA12, q.A2, q.c2⟩ : PSt)) 7 [1, 2, 3, 4, 5, 6] ⟨agI (by rw [hnx]), trivial⟩ ⟨rfl, rfl, rfl, rfl, rfl, rfl, trivial⟩ (by first | (rw [kL_y hj0, bL_y hj0 (by rw [hnx]; omega) (by rw [hnx, ha]; simpa using ‹fitsF s l f _ _ = false›), hnx, ha, List.length_append, List.length_append, List.flatMap_append, List.flatMap_append]; rfl) | (rw [kL_y hj0, bL_n hj0 (by rw [hnx, ha]; rintro ⟨q1, q2⟩; simp at q2; first | omega | simp_all), ha, List.length_append, List.flatMap_append]; rfl)) rfl ((by dsimp only; omega)) ((by show muA _ (ats _ _ (q.j + 1)) < muA _ (ats _ _ q.j); exact mu_lt (by omega) (by omega) (nxt_bd (by omega) (by omega))))
    · refine ExL.nil ?_
      refine Ex.cond_f rfl ?_
      refine Ex.exit ?_
      obtain ⟨hk1, hk2⟩ := st_end (fit := (fitsF s l f)) (n := l.length) (j := q.j) (by omega) hI
      rw [hk1, hk2]
      refine Ex.regSeq (ExL.pures 0 rfl ?_)
      refine ExL.free (fr_loadN rfl rfl rfl rfl rfl (SegO.whole (i := 0) rfl)) rfl rfl rfl ?_
      refine ExL.op rfl (op_storeC (i := 4) rfl rfl rfl rfl rfl rfl rfl rfl rfl rfl ?_)
      refine ExL.nil ?_
      refine Ex.ret ?_
      refine RetQ.mk ((q.A1, q.c1), (q.A2, q.c2)) rfl (.cell rfl (.many rfl rfl rfl (SegO.whole (i := 4) rfl)) .nil) (rfl) [1, 2] (rfl) rfl (trivial)
end Go.Proofs.YtddflaaccmjoeaaGreatDoor

/- What these functions of the program hand back, each proved by walking its operations. -/
set_option linter.unusedVariables false
set_option linter.unusedSimpArgs false
set_option maxRecDepth 4000
namespace Go.Proofs.YtddflaaccmjoeaaGreatDoor
open Go Go.Sx Go.RowKit Go.W Go.Proofs
attribute [local irreducible] Ex ExL ExD Op1 Free RetQ MutQ Reads CellO SegO LoadsAs
end Go.Proofs.YtddflaaccmjoeaaGreatDoor

/- What these functions of the program hand back, each proved by walking its operations. -/
set_option linter.unusedVariables false
set_option linter.unusedSimpArgs false
set_option maxRecDepth 4000
namespace Go.Proofs.YtddflaaccmjoeaaGreatDoor
open Go Go.Sx Go.RowKit Go.W Go.Proofs
attribute [local irreducible] Ex ExL ExD Op1 Free RetQ MutQ Reads CellO SegO LoadsAs
end Go.Proofs.YtddflaaccmjoeaaGreatDoor

/- What these functions of the program hand back, each proved by walking its operations. -/
set_option linter.unusedVariables false
set_option linter.unusedSimpArgs false
set_option maxRecDepth 4000
namespace Go.Proofs.YtddflaaccmjoeaaGreatDoor
open Go Go.Sx Go.RowKit Go.W Go.Proofs
attribute [local irreducible] Ex ExL ExD Op1 Free RetQ MutQ Reads CellO SegO LoadsAs
end Go.Proofs.YtddflaaccmjoeaaGreatDoor

/- What these functions of the program hand back, each proved by walking its operations. -/
set_option linter.unusedVariables false
set_option linter.unusedSimpArgs false
set_option maxRecDepth 4000
namespace Go.Proofs.YtddflaaccmjoeaaGreatDoor
open Go Go.Sx Go.RowKit Go.W Go.Proofs
attribute [local irreducible] Ex ExL ExD Op1 Free RetQ MutQ Reads CellO SegO LoadsAs
end Go.Proofs.YtddflaaccmjoeaaGreatDoor

/- What these functions of the program hand back, each proved by walking its operations. -/
set_option linter.unusedVariables false
set_option linter.unusedSimpArgs false
set_option maxRecDepth 4000
namespace Go.Proofs.YtddflaaccmjoeaaGreatDoor
open Go Go.Sx Go.RowKit Go.W Go.Proofs
attribute [local irreducible] Ex ExL ExD Op1 Free RetQ MutQ Reads CellO SegO LoadsAs
end Go.Proofs.YtddflaaccmjoeaaGreatDoor

/- What these functions of the program hand back, each proved by walking its operations. -/
set_option linter.unusedVariables false
set_option linter.unusedSimpArgs false
set_option maxRecDepth 4000
namespace Go.Proofs.YtddflaaccmjoeaaGreatDoor
open Go Go.Sx Go.RowKit Go.W Go.Proofs
attribute [local irreducible] Ex ExL ExD Op1 Free RetQ MutQ Reads CellO SegO LoadsAs
theorem e_111 : Enters Tryz.prog 111 := Enters.of Tryz.func111 rfl
theorem c_isNaN (a : Int) : Ret Tryz.prog 111 [.int .i64 a] (fun w => True) (fun x : Unit => .bool false) (fun x => []) (fun x => True) := by
  refine Ret.of e_111 Tryz.func111 rfl Tryz.ntmps111 rfl rfl (fun w hpre => ?_)
  refine Ex.regSeq (ExL.pures 1 rfl ?_)
  refine ExL.nil ?_
  refine Ex.regSeq (ExL.pures 2 rfl ?_)
  refine ExL.free (fr_neq_f rfl rfl rfl (fun h => h rfl)) rfl rfl rfl ?_
  refine ExL.pures 1 rfl ?_
  refine ExL.nil ?_
  refine Ex.ret ?_
  refine RetQ.mk () rfl (.tmp rfl .nil) (rfl) [] (rfl) rfl (trivial)
theorem e_93 : Enters Tryz.prog 93 := Enters.of Tryz.func93 rfl
theorem c_cmp3 (a b : Int) : Ret Tryz.prog 93 [.int .i64 a, .int .i64 b] (fun w => True) (fun x : Unit => .int .i64 (c3 a b)) (fun x => []) (fun x => True) := by
  refine Ret.of e_93 Tryz.func93 rfl Tryz.ntmps93 rfl rfl (fun w hpre => ?_)
  refine Ex.regSeq (ExL.pures 1 rfl ?_)
  refine ExL.nil ?_
  refine Ex.regSeq (ExL.pures 1 rfl ?_)
  refine ExL.op rfl (op_ret rfl rfl rfl (c_isNaN _) (fun _ _ => trivial) rfl rfl (fun x1 hx1 => ?_))
  refine ExL.pures 1 rfl ?_
  refine ExL.nil ?_
  refine Ex.regSeq (ExL.pures 1 rfl ?_)
  refine ExL.op rfl (op_ret rfl rfl rfl (c_isNaN _) (fun _ _ => trivial) rfl rfl (fun x2 hx2 => ?_))
  refine ExL.pures 1 rfl ?_
  refine ExL.nil ?_
  refine Ex.seq ?_
  refine Ex.regSeq (ExL.pures 1 rfl ?_)
  refine ExL.nil ?_
  refine Ex.cond_f rfl ?_
  refine Ex.skip ?_
  refine Ex.seq ?_
  refine Ex.regSeq (ExL.pures 1 rfl ?_)
  refine ExL.nil ?_
  refine Ex.cond_f rfl ?_
  refine Ex.skip ?_
  refine Ex.seq ?_
  refine Ex.regSeq (ExL.pures 2 rfl ?_)
  refine ExL.lss rfl rfl rfl rfl rfl rfl (fun h3 => ?_) (fun h3 => ?_)
  · refine ExL.nil ?_
    refine Ex.cond_t rfl ?_
    refine Ex.regSeq (ExL.pures 1 rfl ?_)
    refine ExL.nil ?_
    refine Ex.ret ?_
    refine RetQ.mk () rfl (.tmp rfl .nil) (tI (by unfold c3; split <;> first | omega | (split <;> omega))) [] (rfl) rfl (trivial)
  · refine ExL.nil ?_
    refine Ex.cond_f rfl ?_
    refine Ex.skip ?_
    refine Ex.seq ?_
    refine Ex.regSeq (ExL.pures 2 rfl ?_)
    refine ExL.gtr rfl rfl rfl rfl rfl rfl (fun h4 => ?_) (fun h4 => ?_)
    · refine ExL.nil ?_
      refine Ex.cond_t rfl ?_
      refine Ex.regSeq (ExL.pures 1 rfl ?_)
      refine ExL.nil ?_
      refine Ex.ret ?_
      refine RetQ.mk () rfl (.tmp rfl .nil) (tI (by unfold c3; split <;> first | omega | (split <;> omega))) [] (rfl) rfl (trivial)
    · refine ExL.nil ?_
      refine Ex.cond_f rfl ?_
      refine Ex.skip ?_
      refine Ex.regSeq (ExL.pures 1 rfl ?_)
      refine ExL.nil ?_
      refine Ex.ret ?_
      refine RetQ.mk () rfl (.tmp rfl .nil) (tI (by unfold c3; split <;> first | omega | (split <;> omega))) [] (rfl) rfl (trivial)
theorem e_94 : Enters Tryz.prog 94 := Enters.of Tryz.func94 rfl
theorem c_slCompare (s : List Int) (As : Option Addr) (cs : Nat) (hls : s.length ≤ maxLen) (t : List Int) (At : Option Addr) (ct : Nat) (hlt : t.length ≤ maxLen) : Ret Tryz.prog 94 [.slice As s.length cs, .slice At t.length ct] (fun w => Rd w As (s.flatMap (eI .i64)) ∧ Rd w At (t.flatMap (eI .i64))) (fun x : Unit => .int .i64 (cmpL s t)) (fun x => []) (fun x => True) := by
  refine Ret.of e_94 Tryz.func94 rfl Tryz.ntmps94 rfl rfl (fun w hpre => ?_)
  have hs := hpre.1.base
  have ht := hpre.2.base
  have hm0 : maxLen = 9223372036854775807 := rfl
  refine Ex.regSeq (ExL.pures 1 rfl ?_)
  refine ExL.nil ?_
  refine Ex.seq ?_
  refine Ex.regSeq (ExL.pures 3 rfl ?_)
  refine ExL.nil ?_
  refine Ex.block ?_
  refine Ex.loopK (X := Nat) (fun k => [(11, .int .i64 k)]) (fun k => []) (fun k => k ≤ s.length ∧ cmpL s t = cmpL (s.drop k) (t.drop k)) (fun k => s.length - k) 0 [(0, _), (1, _), (9, _), (10, _)] [] 0 [] ⟨rfl, trivial⟩ ⟨rfl, rfl, rfl, rfl, trivial⟩ (rfl) rfl ⟨Nat.zero_le _, rfl⟩ (fun k hI => ?_)
  have hI : k ≤ s.length ∧ cmpL s t = cmpL (s.drop k) (t.drop k) := hI
  obtain ⟨hk, hcm⟩ := hI
  refine Ex.regSeq (ExL.pures 0 rfl ?_)
  refine ExL.lss rfl rfl rfl rfl rfl rfl (fun h1 => ?_) (fun h1 => ?_)
  · refine ExL.nil ?_
    refine Ex.seq ?_
    refine Ex.cond_t rfl ?_
    refine Ex.skip ?_
    refine Ex.seq ?_
    refine Ex.block ?_
    refine Ex.regSeq (ExL.pures 1 rfl ?_)
    refine ExL.free (fr_indexAddrF (Reads.old hs) (eI_len .i64) rfl rfl rfl rfl rfl rfl (by omega)) rfl rfl rfl ?_
    refine ExL.free (fr_load rfl rfl rfl rfl (by first | exact cellN (Reads.old hs) (eI_len .i64) 0 0 rfl (by omega) rfl | exact cellF (Reads.old hs) (eI_len .i64) 0 0 rfl (by omega) rfl)) rfl rfl rfl ?_
    refine ExL.pures 2 rfl ?_
    refine ExL.nil ?_
    refine Ex.seq ?_
    refine Ex.regSeq (ExL.pures 3 rfl ?_)
    refine ExL.geq rfl rfl rfl rfl rfl rfl (fun h2 => ?_) (fun h2 => ?_)
    · refine ExL.nil ?_
      refine Ex.cond_t rfl ?_
      refine Ex.regSeq (ExL.pures 1 rfl ?_)
      refine ExL.nil ?_
      refine Ex.ret ?_
      refine RetQ.mk () rfl (.tmp rfl .nil) (tI (by rw [hcm]; first | exact (cmpL_l (by omega) (by omega)).symm | (rw [cmpL_at (by omega) (by omega), if_pos (by omega)]) | exact (cmpL_r (by omega) (by omega)).symm | exact (cmpL_0 (by omega) (by omega)).symm)) [] (rfl) rfl (trivial)
    · refine ExL.nil ?_
      refine Ex.cond_f rfl ?_
      refine Ex.skip ?_
      refine Ex.regSeq (ExL.pures 2 rfl ?_)
      refine ExL.free (fr_indexAddrF (Reads.old ht) (eI_len .i64) rfl rfl rfl rfl rfl rfl (by omega)) rfl rfl rfl ?_
      refine ExL.free (fr_load rfl rfl rfl rfl (by first | exact cellN (Reads.old ht) (eI_len .i64) 0 0 rfl (by omega) rfl | exact cellF (Reads.old ht) (eI_len .i64) 0 0 rfl (by omega) rfl)) rfl rfl rfl ?_
      refine ExL.pures 1 rfl ?_
      refine ExL.nil ?_
      refine Ex.regSeq (ExL.pures 2 rfl ?_)
      refine ExL.op rfl (op_ret rfl rfl rfl (c_cmp3 _ _) (fun _ _ => trivial) rfl rfl (fun x3 hx3 => ?_))
      refine ExL.pures 1 rfl ?_
      refine ExL.nil ?_
      refine Ex.regSeq (ExL.pures 1 rfl ?_)
      refine ExL.neq rfl rfl rfl rfl rfl rfl (fun h4 => ?_) (fun h4 => ?_)
      · refine ExL.nil ?_
        refine Ex.cond_t rfl ?_
        refine Ex.regSeq (ExL.pures 2 rfl ?_)
        refine ExL.nil ?_
        refine Ex.ret ?_
        refine RetQ.mk () rfl (.tmp rfl .nil) (tI (by rw [hcm]; first | exact (cmpL_l (by omega) (by omega)).symm | (rw [cmpL_at (by omega) (by omega), if_pos (by omega)]) | exact (cmpL_r (by omega) (by omega)).symm | exact (cmpL_0 (by omega) (by omega)).symm)) [] (rfl) rfl (trivial)
      · refine ExL.nil ?_
        refine Ex.cond_f rfl ?_
        refine Ex.skip ?_
        refine Ex.region (ExL.pures 0 rfl ?_)
        refine ExL.free (by first | exact fr_add64 rfl rfl rfl (by omega) | exact fr_add rfl rfl rfl) rfl rfl rfl ?_
        refine ExL.pures 1 rfl ?_
        refine ExL.nil ?_
        refine Hand.mk (k + 1) 0 [] ⟨rfl, trivial⟩ ⟨rfl, rfl, rfl, rfl, trivial⟩ (rfl) rfl (⟨by omega, hcm.trans (by rw [cmpL_at (by omega) (by omega), if_neg (by omega)])⟩) (by omega)
  · refine ExL.nil ?_
    refine Ex.seq ?_
    refine Ex.cond_f rfl ?_
    refine Ex.exit ?_
    refine Ex.seq ?_
    refine Ex.regSeq (ExL.pures 4 rfl ?_)
    refine ExL.lss rfl rfl rfl rfl rfl rfl (fun h5 => ?_) (fun h5 => ?_)
    · refine ExL.nil ?_
      refine Ex.cond_t rfl ?_
      refine Ex.regSeq (ExL.pures 1 rfl ?_)
      refine ExL.nil ?_
      refine Ex.ret ?_
      refine RetQ.mk () rfl (.tmp rfl .nil) (tI (by rw [hcm]; first | exact (cmpL_l (by omega) (by omega)).symm | (rw [cmpL_at (by omega) (by omega), if_pos (by omega)]) | exact (cmpL_r (by omega) (by omega)).symm | exact (cmpL_0 (by omega) (by omega)).symm)) [] (rfl) rfl (trivial)
    · refine ExL.nil ?_
      refine Ex.cond_f rfl ?_
      refine Ex.skip ?_
      refine Ex.regSeq (ExL.pures 1 rfl ?_)
      refine ExL.nil ?_
      refine Ex.ret ?_
      refine RetQ.mk () rfl (.tmp rfl .nil) (tI (by rw [hcm]; first | exact (cmpL_l (by omega) (by omega)).symm | (rw [cmpL_at (by omega) (by omega), if_pos (by omega)]) | exact (cmpL_r (by omega) (by omega)).symm | exact (cmpL_0 (by omega) (by omega)).symm)) [] (rfl) rfl (trivial)
theorem e_92 : Enters Tryz.prog 92 := Enters.of Tryz.func92 rfl
theorem c_cmpOr (s : List Int) (As : Option Addr) (cs : Nat) (hls : s.length ≤ maxLen) : Ret Tryz.prog 92 [.slice As s.length cs] (fun w => Rd w As (s.flatMap (eI .i64))) (fun x : Unit => .int .i64 (orL s)) (fun x => []) (fun x => True) := by
  refine Ret.of e_92 Tryz.func92 rfl Tryz.ntmps92 rfl rfl (fun w hpre => ?_)
  have hs := hpre.base
  have hm0 : maxLen = 9223372036854775807 := rfl
  refine Ex.regSeq (ExL.pures 1 rfl ?_)
  refine ExL.nil ?_
  refine Ex.regSeq (ExL.pures 1 rfl ?_)
  refine ExL.nil ?_
  refine Ex.seq ?_
  refine Ex.regSeq (ExL.pures 3 rfl ?_)
  refine ExL.nil ?_
  refine Ex.block ?_
  refine Ex.loopK (X := Nat) (fun k => [(8, .int .i64 k)]) (fun k => []) (fun k => k ≤ s.length ∧ orL s = orL (s.drop k)) (fun k => s.length - k) 0 [(3, _), (6, _), (7, _)] [] 0 [] ⟨rfl, trivial⟩ ⟨rfl, rfl, rfl, trivial⟩ (rfl) rfl ⟨Nat.zero_le _, rfl⟩ (fun k hI => ?_)
  have hI : k ≤ s.length ∧ orL s = orL (s.drop k) := hI
  obtain ⟨hk, hcm⟩ := hI
  refine Ex.regSeq (ExL.pures 0 rfl ?_)
  refine ExL.lss rfl rfl rfl rfl rfl rfl (fun h1 => ?_) (fun h1 => ?_)
  · refine ExL.nil ?_
    refine Ex.seq ?_
    refine Ex.cond_t rfl ?_
    refine Ex.skip ?_
    refine Ex.seq ?_
    refine Ex.block ?_
    refine Ex.regSeq (ExL.pures 0 rfl ?_)
    refine ExL.free (fr_indexAddrF (Reads.old hs) (eI_len .i64) rfl rfl rfl rfl rfl rfl (by omega)) rfl rfl rfl ?_
    refine ExL.free (fr_load rfl rfl rfl rfl (by first | exact cellN (Reads.old hs) (eI_len .i64) 0 0 rfl (by omega) rfl | exact cellF (Reads.old hs) (eI_len .i64) 0 0 rfl (by omega) rfl)) rfl rfl rfl ?_
    refine ExL.pures 1 rfl ?_
    refine ExL.nil ?_
    refine Ex.regSeq (ExL.pures 2 rfl ?_)
    refine ExL.neq rfl rfl rfl rfl rfl rfl (fun h2 => ?_) (fun h2 => ?_)
    · refine ExL.nil ?_
      refine Ex.cond_t rfl ?_
      refine Ex.regSeq (ExL.pures 2 rfl ?_)
      refine ExL.nil ?_
      refine Ex.ret ?_
      refine RetQ.mk () rfl (.tmp rfl .nil) (tI (by rw [hcm]; first | (rw [orL_at (by omega), if_pos (by omega)]) | exact (orL_0 (by omega)).symm)) [] (rfl) rfl (trivial)
    · refine ExL.nil ?_
      refine Ex.cond_f rfl ?_
      refine Ex.skip ?_
      refine Ex.region (ExL.pures 0 rfl ?_)
      refine ExL.free (by first | exact fr_add64 rfl rfl rfl (by omega) | exact fr_add rfl rfl rfl) rfl rfl rfl ?_
      refine ExL.pures 1 rfl ?_
      refine ExL.nil ?_
      refine Hand.mk (k + 1) 0 [] ⟨rfl, trivial⟩ ⟨rfl, rfl, rfl, trivial⟩ (rfl) rfl (⟨by omega, hcm.trans (by rw [orL_at (by omega), if_neg (by omega)])⟩) (by omega)
  · refine ExL.nil ?_
    refine Ex.seq ?_
    refine Ex.cond_f rfl ?_
    refine Ex.exit ?_
    refine Ex.regSeq (ExL.pures 2 rfl ?_)
    refine ExL.nil ?_
    refine Ex.ret ?_
    refine RetQ.mk () rfl (.tmp rfl .nil) (tI (by rw [hcm]; first | (rw [orL_at (by omega), if_pos (by omega)]) | exact (orL_0 (by omega)).symm)) [] (rfl) rfl (trivial)
theorem e_66 : Enters Tryz.prog 66 := Enters.of Tryz.func66 rfl
theorem c_oneUnless (b : Bool) : Ret Tryz.prog 66 [.bool b] (fun w => True) (fun x : Unit => .int .i64 (brk b)) (fun x => []) (fun x => True) := by
  refine Ret.of e_66 Tryz.func66 rfl Tryz.ntmps66 rfl rfl (fun w hpre => ?_)
  refine Ex.regSeq (ExL.pures 1 rfl ?_)
  refine ExL.nil ?_
  refine Ex.seq ?_
  refine Ex.regSeq (ExL.pures 1 rfl ?_)
  refine ExL.nil ?_
  refine Ex.cond rfl (fun hb1 => ?_) (fun hb1 => ?_)
  · refine Ex.regSeq (ExL.pures 1 rfl ?_)
    refine ExL.nil ?_
    refine Ex.ret ?_
    refine RetQ.mk () rfl (.tmp rfl .nil) (tI (by first | (rw [(by assumption : b = true)]; rfl) | (rw [(by assumption : b = false)]; rfl))) [] (rfl) rfl (trivial)
  · refine Ex.skip ?_
    refine Ex.regSeq (ExL.pures 1 rfl ?_)
    refine ExL.nil ?_
    refine Ex.ret ?_
    refine RetQ.mk () rfl (.tmp rfl .nil) (tI (by first | (rw [(by assumption : b = true)]; rfl) | (rw [(by assumption : b = false)]; rfl))) [] (rfl) rfl (trivial)
end Go.Proofs.YtddflaaccmjoeaaGreatDoor

/- What these functions of the program hand back, each proved by walking its operations. -/
set_option linter.unusedVariables false
set_option linter.unusedSimpArgs false
set_option maxRecDepth 4000
namespace Go.Proofs.YtddflaaccmjoeaaGreatDoor
open Go Go.Sx Go.RowKit Go.W Go.Proofs
attribute [local irreducible] Ex ExL ExD Op1 Free RetQ MutQ Reads CellO SegO LoadsAs
theorem e_70 : Enters Tryz.prog 70 := Enters.of Tryz.func70 rfl
theorem c_rising (s : List Int) (As : Option Addr) (cs : Nat) (hls : s.length ≤ maxLen) (n : Nat) (hn : n ≤ 1048576) : Ret Tryz.prog 70 [.slice As s.length cs, .int .i64 (n : Int)] (fun w => Rd w As (s.flatMap (eI .i64))) (fun x : Unit => .bool (risB n s)) (fun x => []) (fun x => True) := by
  refine Ret.of e_70 Tryz.func70 rfl Tryz.ntmps70 rfl rfl (fun w hpre => ?_)
  have hs := hpre.base
  have hm0 : maxLen = 9223372036854775807 := rfl
  refine Ex.regSeq (ExL.pures 1 rfl ?_)
  refine ExL.nil ?_
  refine Ex.seq ?_
  refine Ex.regSeq (ExL.pures 3 rfl ?_)
  refine ExL.nil ?_
  refine Ex.block ?_
  refine Ex.loopK (X := Nat) (fun k => [(9, .int .i64 k)]) (fun k => []) (fun k => k ≤ s.length ∧ RisTo n s k) (fun k => s.length - k) 0 [(0, _), (1, _), (7, _), (8, _)] [] 0 [] ⟨rfl, trivial⟩ ⟨rfl, rfl, rfl, rfl, trivial⟩ (rfl) rfl ⟨Nat.zero_le _, RisTo.zero⟩ (fun k hI => ?_)
  have hI : k ≤ s.length ∧ RisTo n s k := hI
  obtain ⟨hk, hR⟩ := hI
  refine Ex.regSeq (ExL.pures 0 rfl ?_)
  refine ExL.lss rfl rfl rfl rfl rfl rfl (fun h1 => ?_) (fun h1 => ?_)
  · refine ExL.nil ?_
    refine Ex.seq ?_
    refine Ex.cond_t rfl ?_
    refine Ex.skip ?_
    refine Ex.seq ?_
    refine Ex.block ?_
    have hkl : k < s.length := by omega
    refine Ex.regSeq (ExL.pures 1 rfl ?_)
    refine ExL.free (fr_indexAddrF (Reads.old hs) (eI_len .i64) rfl rfl rfl rfl rfl rfl (by omega)) rfl rfl rfl ?_
    refine ExL.free (fr_load rfl rfl rfl rfl (cellJ (i := ↑k) (k) (Reads.old hs) (eI_len .i64) 0 0 rfl (by omega) (by omega) rfl)) rfl rfl rfl ?_
    refine ExL.pures 2 rfl ?_
    refine ExL.nil ?_
    refine Ex.regSeq (ExL.pures 2 rfl ?_)
    refine ExL.free (by first | exact fr_sub64 rfl rfl rfl (by omega) | exact fr_sub rfl rfl rfl) rfl rfl rfl ?_
    refine ExL.op rfl (op_ret rfl rfl rfl (c_within _ _ _) (fun _ _ => trivial) rfl rfl (fun x2 hx2 => ?_))
    refine ExL.pures 2 rfl ?_
    refine ExL.bool (d := 19) rfl (fun hb3 => ?_) (fun hb3 => ?_)
    · replace hb3 := nd_t hb3
      refine ExL.pures 12 rfl ?_
      refine ExL.nil ?_
      refine Ex.cond_t rfl ?_
      refine Ex.regSeq (ExL.pures 1 rfl ?_)
      refine ExL.nil ?_
      refine Ex.ret ?_
      refine RetQ.mk () rfl (.tmp rfl .nil) (tB (by first | exact ris_yes hR (by omega) | exact ris_no1 (k := k) (by omega) (by assumption) | exact ris_no1 (k := k) (by omega) (by omega) | exact ris_no2 (k := k) (by omega) (by omega) (by omega))) [] (rfl) rfl (trivial)
    · replace hb3 := nd_f hb3
      refine ExL.pures 1 rfl ?_
      refine ExL.gtr rfl rfl rfl rfl rfl rfl (fun h4 => ?_) (fun h4 => ?_)
      · refine ExL.pures 3 rfl ?_
        refine ExL.free (by first | exact fr_sub64 rfl rfl rfl (by omega) | exact fr_sub rfl rfl rfl) rfl rfl rfl ?_
        refine ExL.free (fr_indexAddrF (Reads.old hs) (eI_len .i64) rfl rfl rfl rfl rfl rfl (by omega)) rfl rfl rfl ?_
        refine ExL.free (fr_load rfl rfl rfl rfl (cellJ (i := (↑k - 1)) ((k - 1)) (Reads.old hs) (eI_len .i64) 0 0 rfl (by omega) (by omega) rfl)) rfl rfl rfl ?_
        refine ExL.pures 1 rfl ?_
        refine ExL.geq rfl rfl rfl rfl rfl rfl (fun h5 => ?_) (fun h5 => ?_)
        · refine ExL.pures 2 rfl ?_
          refine ExL.nil ?_
          refine Ex.cond_t rfl ?_
          refine Ex.regSeq (ExL.pures 1 rfl ?_)
          refine ExL.nil ?_
          refine Ex.ret ?_
          refine RetQ.mk () rfl (.tmp rfl .nil) (tB (by first | exact ris_yes hR (by omega) | exact ris_no1 (k := k) (by omega) (by assumption) | exact ris_no1 (k := k) (by omega) (by omega) | exact ris_no2 (k := k) (by omega) (by omega) (by omega))) [] (rfl) rfl (trivial)
        · refine ExL.pures 2 rfl ?_
          refine ExL.nil ?_
          refine Ex.cond_f rfl ?_
          refine Ex.skip ?_
          refine Ex.region (ExL.pures 0 rfl ?_)
          refine ExL.free (by first | exact fr_add64 rfl rfl rfl (by omega) | exact fr_add rfl rfl rfl) rfl rfl rfl ?_
          refine ExL.pures 1 rfl ?_
          refine ExL.nil ?_
          refine Hand.mk (k + 1) 0 [] ⟨rfl, trivial⟩ ⟨rfl, rfl, rfl, rfl, trivial⟩ (rfl) rfl (⟨by omega, hR.snoc (by first | assumption | omega) (by rintro ⟨h8, h9⟩; omega)⟩) (by omega)
      · refine ExL.pures 10 rfl ?_
        refine ExL.nil ?_
        refine Ex.cond_f rfl ?_
        refine Ex.skip ?_
        refine Ex.region (ExL.pures 0 rfl ?_)
        refine ExL.free (by first | exact fr_add64 rfl rfl rfl (by omega) | exact fr_add rfl rfl rfl) rfl rfl rfl ?_
        refine ExL.pures 1 rfl ?_
        refine ExL.nil ?_
        refine Hand.mk (k + 1) 0 [] ⟨rfl, trivial⟩ ⟨rfl, rfl, rfl, rfl, trivial⟩ (rfl) rfl (⟨by omega, hR.snoc (by first | assumption | omega) (by rintro ⟨h8, h9⟩; omega)⟩) (by omega)
  · refine ExL.nil ?_
    refine Ex.seq ?_
    refine Ex.cond_f rfl ?_
    refine Ex.exit ?_
    refine Ex.regSeq (ExL.pures 1 rfl ?_)
    refine ExL.nil ?_
    refine Ex.ret ?_
    refine RetQ.mk () rfl (.tmp rfl .nil) (tB (by first | exact ris_yes hR (by omega) | exact ris_no1 (k := k) (by omega) (by assumption) | exact ris_no1 (k := k) (by omega) (by omega) | exact ris_no2 (k := k) (by omega) (by omega) (by omega))) [] (rfl) rfl (trivial)
theorem e_88 : Enters Tryz.prog 88 := Enters.of Tryz.func88 rfl
theorem c_l04Rising (s : List Int) (As : Option Addr) (cs : Nat) (hls : s.length ≤ maxLen) (n : Nat) (hn : n ≤ 1048576) : Ret Tryz.prog 88 [.slice As s.length cs, .int .i64 (n : Int)] (fun w => Rd w As (s.flatMap (eI .i64))) (fun x : Unit => .bool (risB n s)) (fun x => []) (fun x => True) := by
  refine Ret.of e_88 Tryz.func88 rfl Tryz.ntmps88 rfl rfl (fun w hpre => ?_)
  have hs := hpre.base
  have hm0 : maxLen = 9223372036854775807 := rfl
  refine Ex.regSeq (ExL.pures 1 rfl ?_)
  refine ExL.nil ?_
  refine Ex.seq ?_
  refine Ex.regSeq (ExL.pures 1 rfl ?_)
  refine ExL.nil ?_
  refine Ex.block ?_
  refine Ex.loopK (X := Nat) (fun k => [(5, .int .i64 k)]) (fun k => []) (fun k => k ≤ s.length ∧ RisTo n s k) (fun k => s.length - k) 0 [(0, _), (1, _)] [] 0 [] ⟨rfl, trivial⟩ ⟨rfl, rfl, trivial⟩ (rfl) rfl ⟨Nat.zero_le _, RisTo.zero⟩ (fun k hI => ?_)
  have hI : k ≤ s.length ∧ RisTo n s k := hI
  obtain ⟨hk, hR⟩ := hI
  refine Ex.seq ?_
  refine Ex.regSeq (ExL.pures 3 rfl ?_)
  refine ExL.lss rfl rfl rfl rfl rfl rfl (fun h1 => ?_) (fun h1 => ?_)
  · refine ExL.nil ?_
    refine Ex.cond_t rfl ?_
    refine Ex.skip ?_
    refine Ex.seq ?_
    refine Ex.block ?_
    have hkl : k < s.length := by omega
    refine Ex.drawSeqM rfl ?_
    refine ExD.take (i := 0) rfl (by kernel_rfl) (pureVal_ok rfl) ((List.Sublist.refl _)) rfl rfl rfl ?_
    refine ExD.take (i := 1) rfl (by kernel_rfl) (pureVal_ok rfl) ((List.Sublist.refl _)) rfl rfl rfl ?_
    refine ExD.take (i := 2) rfl (by kernel_rfl) (fr_indexAddrF (Reads.old hs) (eI_len .i64) rfl rfl rfl rfl rfl rfl (by omega)) ((List.Sublist.refl _)) rfl rfl rfl ?_
    refine ExD.take (i := 3) rfl (by kernel_rfl) (fr_load rfl rfl rfl rfl (cellJ (i := ↑k) (k) (Reads.old hs) (eI_len .i64) 0 0 rfl (by omega) (by omega) rfl)) ((List.Sublist.refl _)) rfl rfl rfl ?_
    refine ExD.take (i := 4) rfl (by kernel_rfl) (pureVal_ok rfl) ((List.Sublist.refl _)) rfl rfl rfl ?_
    refine ExD.take (i := 5) rfl (by kernel_rfl) (by first | exact fr_sub64 rfl rfl rfl (by omega) | exact fr_sub rfl rfl rfl) ((List.Sublist.refl _)) rfl rfl rfl ?_
    refine ExD.op (i := 6) rfl (by kernel_rfl) rfl (op_ret rfl rfl rfl (c_l00In _ _ _) (fun _ _ => trivial) rfl rfl (fun x2 hx2 => ⟨(List.Sublist.refl _), ?_⟩))
    refine ExD.take (i := 7) rfl (by kernel_rfl) (pureVal_ok rfl) ((List.Sublist.refl _)) rfl rfl rfl ?_
    refine ExD.take (i := 8) rfl (by kernel_rfl) (pureVal_ok rfl) ((List.Sublist.refl _)) rfl rfl rfl ?_
    refine ExD.bool (d := 20) rfl (fun hb3 => ?_) (fun hb3 => ?_)
    · replace hb3 := nd_t hb3
      refine ExD.pass (i := 9) rfl (by kernel_rfl) ((List.Sublist.refl _)) rfl rfl rfl ?_
      refine ExD.pass (i := 10) rfl (by kernel_rfl) ((List.Sublist.refl _)) rfl rfl rfl ?_
      refine ExD.pass (i := 11) rfl (by kernel_rfl) ((List.Sublist.refl _)) rfl rfl rfl ?_
      refine ExD.pass (i := 12) rfl (by kernel_rfl) ((List.Sublist.refl _)) rfl rfl rfl ?_
      refine ExD.pass (i := 13) rfl (by kernel_rfl) ((List.Sublist.refl _)) rfl rfl rfl ?_
      refine ExD.pass (i := 14) rfl (by kernel_rfl) ((List.Sublist.refl _)) rfl rfl rfl ?_
      refine ExD.pass (i := 15) rfl (by kernel_rfl) ((List.Sublist.refl _)) rfl rfl rfl ?_
      refine ExD.pass (i := 16) rfl (by kernel_rfl) ((List.Sublist.refl _)) rfl rfl rfl ?_
      refine ExD.pass (i := 17) rfl (by kernel_rfl) ((List.Sublist.refl _)) rfl rfl rfl ?_
      refine ExD.pass (i := 18) rfl (by kernel_rfl) ((List.Sublist.refl _)) rfl rfl rfl ?_
      refine ExD.pass (i := 19) rfl (by kernel_rfl) ((List.Sublist.refl _)) rfl rfl rfl ?_
      refine ExD.pass (i := 20) rfl (by kernel_rfl) ((List.Sublist.refl _)) rfl rfl rfl ?_
      refine ExD.pass (i := 21) rfl (by kernel_rfl) ((List.Sublist.refl _)) rfl rfl rfl ?_
      refine ExD.pass (i := 22) rfl (by kernel_rfl) ((List.Sublist.refl _)) rfl rfl rfl ?_
      refine ExD.take (i := 23) rfl (by kernel_rfl) (pureVal_ok rfl) ((List.Sublist.refl _)) rfl rfl rfl ?_
      refine ExD.done (by kernel_rfl) ?_
      refine Ex.cond_t rfl ?_
      refine Ex.regSeq (ExL.pures 1 rfl ?_)
      refine ExL.nil ?_
      refine Ex.ret ?_
      refine RetQ.mk () rfl (.tmp rfl .nil) (tB (by first | exact ris_yes hR (by omega) | exact ris_no1 (k := k) (by omega) (by assumption) | exact ris_no1 (k := k) (by omega) (by omega) | exact ris_no2 (k := k) (by omega) (by omega) (by omega))) [] (rfl) rfl (trivial)
    · replace hb3 := nd_f hb3
      refine ExD.take (i := 9) rfl (by kernel_rfl) (pureVal_ok rfl) ((List.Sublist.refl _)) rfl rfl rfl ?_
      refine ExD.cmp_gtr (i := 10) rfl (by kernel_rfl) rfl rfl rfl ((List.Sublist.refl _)) rfl rfl rfl (fun h4 => ?_) (fun h4 => ?_)
      · refine ExD.take (i := 11) rfl (by kernel_rfl) (pureVal_ok rfl) ((List.Sublist.refl _)) rfl rfl rfl ?_
        refine ExD.take (i := 12) rfl (by kernel_rfl) (pureVal_ok rfl) ((List.Sublist.refl _)) rfl rfl rfl ?_
        refine ExD.take (i := 13) rfl (by kernel_rfl) (pureVal_ok rfl) ((List.Sublist.refl _)) rfl rfl rfl ?_
        refine ExD.take (i := 14) rfl (by kernel_rfl) (fr_indexAddrF (Reads.old hs) (eI_len .i64) rfl rfl rfl rfl rfl rfl (by omega)) ((List.Sublist.refl _)) rfl rfl rfl ?_
        refine ExD.take (i := 15) rfl (by kernel_rfl) (fr_load rfl rfl rfl rfl (cellJ (i := ↑k) (k) (Reads.old hs) (eI_len .i64) 0 0 rfl (by omega) (by omega) rfl)) ((List.Sublist.refl _)) rfl rfl rfl ?_
        refine ExD.take (i := 16) rfl (by kernel_rfl) (pureVal_ok rfl) ((List.Sublist.refl _)) rfl rfl rfl ?_
        refine ExD.take (i := 17) rfl (by kernel_rfl) (pureVal_ok rfl) ((List.Sublist.refl _)) rfl rfl rfl ?_
        refine ExD.take (i := 18) rfl (by kernel_rfl) (by first | exact fr_sub64 rfl rfl rfl (by omega) | exact fr_sub rfl rfl rfl) ((List.Sublist.refl _)) rfl rfl rfl ?_
        refine ExD.take (i := 19) rfl (by kernel_rfl) (fr_indexAddrF (Reads.old hs) (eI_len .i64) rfl rfl rfl rfl rfl rfl (by omega)) ((List.Sublist.refl _)) rfl rfl rfl ?_
        refine ExD.take (i := 20) rfl (by kernel_rfl) (fr_load rfl rfl rfl rfl (cellJ (i := (↑k - 1)) ((k - 1)) (Reads.old hs) (eI_len .i64) 0 0 rfl (by omega) (by omega) rfl)) ((List.Sublist.refl _)) rfl rfl rfl ?_
        refine ExD.cmp_leq (i := 21) rfl (by kernel_rfl) rfl rfl rfl ((List.Sublist.refl _)) rfl rfl rfl (fun h5 => ?_) (fun h5 => ?_)
        · refine ExD.take (i := 22) rfl (by kernel_rfl) (pureVal_ok rfl) ((List.Sublist.refl _)) rfl rfl rfl ?_
          refine ExD.take (i := 23) rfl (by kernel_rfl) (pureVal_ok rfl) ((List.Sublist.refl _)) rfl rfl rfl ?_
          refine ExD.done (by kernel_rfl) ?_
          refine Ex.cond_t rfl ?_
          refine Ex.regSeq (ExL.pures 1 rfl ?_)
          refine ExL.nil ?_
          refine Ex.ret ?_
          refine RetQ.mk () rfl (.tmp rfl .nil) (tB (by first | exact ris_yes hR (by omega) | exact ris_no1 (k := k) (by omega) (by assumption) | exact ris_no1 (k := k) (by omega) (by omega) | exact ris_no2 (k := k) (by omega) (by omega) (by omega))) [] (rfl) rfl (trivial)
        · refine ExD.take (i := 22) rfl (by kernel_rfl) (pureVal_ok rfl) ((List.Sublist.refl _)) rfl rfl rfl ?_
          refine ExD.take (i := 23) rfl (by kernel_rfl) (pureVal_ok rfl) ((List.Sublist.refl _)) rfl rfl rfl ?_
          refine ExD.done (by kernel_rfl) ?_
          refine Ex.cond_f rfl ?_
          refine Ex.skip ?_
          refine Ex.region (ExL.pures 1 rfl ?_)
          refine ExL.free (by first | exact fr_add64 rfl rfl rfl (by omega) | exact fr_add rfl rfl rfl) rfl rfl rfl ?_
          refine ExL.pures 1 rfl ?_
          refine ExL.nil ?_
          refine Hand.mk (k + 1) 0 [] ⟨rfl, trivial⟩ ⟨rfl, rfl, trivial⟩ (rfl) rfl (⟨by omega, hR.snoc (by first | assumption | omega) (by rintro ⟨h8, h9⟩; omega)⟩) (by omega)
      · refine ExD.take (i := 11) rfl (by kernel_rfl) (pureVal_ok rfl) ((List.Sublist.refl _)) rfl rfl rfl ?_
        refine ExD.pass (i := 12) rfl (by kernel_rfl) ((List.Sublist.refl _)) rfl rfl rfl ?_
        refine ExD.pass (i := 13) rfl (by kernel_rfl) ((List.Sublist.refl _)) rfl rfl rfl ?_
        refine ExD.pass (i := 14) rfl (by kernel_rfl) ((List.Sublist.refl _)) rfl rfl rfl ?_
        refine ExD.pass (i := 15) rfl (by kernel_rfl) ((List.Sublist.refl _)) rfl rfl rfl ?_
        refine ExD.pass (i := 16) rfl (by kernel_rfl) ((List.Sublist.refl _)) rfl rfl rfl ?_
        refine ExD.pass (i := 17) rfl (by kernel_rfl) ((List.Sublist.refl _)) rfl rfl rfl ?_
        refine ExD.pass (i := 18) rfl (by kernel_rfl) ((List.Sublist.refl _)) rfl rfl rfl ?_
        refine ExD.pass (i := 19) rfl (by kernel_rfl) ((List.Sublist.refl _)) rfl rfl rfl ?_
        refine ExD.pass (i := 20) rfl (by kernel_rfl) ((List.Sublist.refl _)) rfl rfl rfl ?_
        refine ExD.pass (i := 21) rfl (by kernel_rfl) ((List.Sublist.refl _)) rfl rfl rfl ?_
        refine ExD.take (i := 22) rfl (by kernel_rfl) (pureVal_ok rfl) ((List.Sublist.refl _)) rfl rfl rfl ?_
        refine ExD.take (i := 23) rfl (by kernel_rfl) (pureVal_ok rfl) ((List.Sublist.refl _)) rfl rfl rfl ?_
        refine ExD.done (by kernel_rfl) ?_
        refine Ex.cond_f rfl ?_
        refine Ex.skip ?_
        refine Ex.region (ExL.pures 1 rfl ?_)
        refine ExL.free (by first | exact fr_add64 rfl rfl rfl (by omega) | exact fr_add rfl rfl rfl) rfl rfl rfl ?_
        refine ExL.pures 1 rfl ?_
        refine ExL.nil ?_
        refine Hand.mk (k + 1) 0 [] ⟨rfl, trivial⟩ ⟨rfl, rfl, trivial⟩ (rfl) rfl (⟨by omega, hR.snoc (by first | assumption | omega) (by rintro ⟨h8, h9⟩; omega)⟩) (by omega)
  · refine ExL.nil ?_
    refine Ex.cond_f rfl ?_
    refine Ex.exit ?_
    refine Ex.regSeq (ExL.pures 1 rfl ?_)
    refine ExL.nil ?_
    refine Ex.ret ?_
    refine RetQ.mk () rfl (.tmp rfl .nil) (tB (by first | exact ris_yes hR (by omega) | exact ris_no1 (k := k) (by omega) (by assumption) | exact ris_no1 (k := k) (by omega) (by omega) | exact ris_no2 (k := k) (by omega) (by omega) (by omega))) [] (rfl) rfl (trivial)
theorem e_60 : Enters Tryz.prog 60 := Enters.of Tryz.func60 rfl
theorem c_l04Has (s : List Int) (As : Option Addr) (cs : Nat) (hls : s.length ≤ maxLen) (n : Int) : Ret Tryz.prog 60 [.slice As s.length cs, .int .i64 n] (fun w => Rd w As (s.flatMap (eI .i64))) (fun x : Unit => .bool (s.contains n)) (fun x => []) (fun x => True) := by
  refine Ret.of e_60 Tryz.func60 rfl Tryz.ntmps60 rfl rfl (fun w hpre => ?_)
  have hs := hpre.base
  have hm0 : maxLen = 9223372036854775807 := rfl
  refine Ex.regSeq (ExL.pures 1 rfl ?_)
  refine ExL.nil ?_
  refine Ex.seq ?_
  refine Ex.regSeq (ExL.pures 1 rfl ?_)
  refine ExL.nil ?_
  refine Ex.block ?_
  refine Ex.loopK (X := Nat) (fun k => [(5, .int .i64 k)]) (fun k => []) (fun k => k ≤ s.length ∧ ∀ i, i < k → s.getD i 0 ≠ n) (fun k => s.length - k) 0 [(0, _), (1, _)] [] 0 [] ⟨rfl, trivial⟩ ⟨rfl, rfl, trivial⟩ (rfl) rfl ⟨Nat.zero_le _, fun i hi => by omega⟩ (fun k hI => ?_)
  have hI : k ≤ s.length ∧ ∀ i, i < k → s.getD i 0 ≠ n := hI
  obtain ⟨hk, hall⟩ := hI
  refine Ex.seq ?_
  refine Ex.regSeq (ExL.pures 3 rfl ?_)
  refine ExL.lss rfl rfl rfl rfl rfl rfl (fun h1 => ?_) (fun h1 => ?_)
  · refine ExL.nil ?_
    refine Ex.cond_t rfl ?_
    refine Ex.skip ?_
    refine Ex.seq ?_
    refine Ex.block ?_
    refine Ex.regSeq (ExL.pures 2 rfl ?_)
    refine ExL.free (fr_indexAddrF (Reads.old hs) (eI_len .i64) rfl rfl rfl rfl rfl rfl (by omega)) rfl rfl rfl ?_
    refine ExL.free (fr_load rfl rfl rfl rfl (by first | exact cellN (Reads.old hs) (eI_len .i64) 0 0 rfl (by omega) rfl | exact cellF (Reads.old hs) (eI_len .i64) 0 0 rfl (by omega) rfl)) rfl rfl rfl ?_
    refine ExL.pures 1 rfl ?_
    refine ExL.eql rfl rfl rfl rfl rfl rfl (fun h2 => ?_) (fun h2 => ?_)
    · refine ExL.nil ?_
      refine Ex.cond_t rfl ?_
      refine Ex.regSeq (ExL.pures 1 rfl ?_)
      refine ExL.nil ?_
      refine Ex.ret ?_
      refine RetQ.mk () rfl (.tmp rfl .nil) (tB (by first | exact has_tt (k := k) (by omega) (by assumption) | exact has_ff (k := k) (by omega) hall)) [] (rfl) rfl (trivial)
    · refine ExL.nil ?_
      refine Ex.cond_f rfl ?_
      refine Ex.skip ?_
      refine Ex.region (ExL.pures 1 rfl ?_)
      refine ExL.free (by first | exact fr_add64 rfl rfl rfl (by omega) | exact fr_add rfl rfl rfl) rfl rfl rfl ?_
      refine ExL.pures 1 rfl ?_
      refine ExL.nil ?_
      refine Hand.mk (k + 1) 0 [] ⟨rfl, trivial⟩ ⟨rfl, rfl, trivial⟩ (rfl) rfl (⟨by omega, all_snoc hall (by first | assumption | (intro h9; exact absurd h9.symm (by assumption)))⟩) (by omega)
  · refine ExL.nil ?_
    refine Ex.cond_f rfl ?_
    refine Ex.exit ?_
    refine Ex.regSeq (ExL.pures 1 rfl ?_)
    refine ExL.nil ?_
    refine Ex.ret ?_
    refine RetQ.mk () rfl (.tmp rfl .nil) (tB (by first | exact has_tt (k := k) (by omega) (by assumption) | exact has_ff (k := k) (by omega) hall)) [] (rfl) rfl (trivial)
theorem e_26 : Enters Tryz.prog 26 := Enters.of Tryz.func26 rfl
theorem c_A2Has (s : List Int) (As : Option Addr) (cs : Nat) (hls : s.length ≤ maxLen) (n : Int) : Ret Tryz.prog 26 [.slice As s.length cs, .int .i64 n] (fun w => Rd w As (s.flatMap (eI .i64))) (fun x : Unit => .bool (s.contains n)) (fun x => []) (fun x => True) := by
  refine Ret.of e_26 Tryz.func26 rfl Tryz.ntmps26 rfl rfl (fun w hpre => ?_)
  have hs := hpre.base
  have hm0 : maxLen = 9223372036854775807 := rfl
  refine Ex.regSeq (ExL.pures 1 rfl ?_)
  refine ExL.nil ?_
  refine Ex.regSeq (ExL.pures 2 rfl ?_)
  refine ExL.op rfl (op_ret rfl rfl rfl (c_l04Has s _ _ (by omega) n) (Reads.get (Reads.old hs)) rfl rfl (fun x1 hx1 => ?_))
  refine ExL.pures 1 rfl ?_
  refine ExL.nil ?_
  refine Ex.ret ?_
  refine RetQ.mk () rfl (.tmp rfl .nil) (rfl) [] (rfl) rfl (trivial)
theorem e_71 : Enters Tryz.prog 71 := Enters.of Tryz.func71 rfl
theorem c_nIndex (s : List Int) (As : Option Addr) (cs : Nat) (hls : s.length ≤ maxLen) (n : Int) : Ret Tryz.prog 71 [.slice As s.length cs, .int .i64 n] (fun w => Rd w As (s.flatMap (eI .i64))) (fun x : Unit => .int .i64 (idxF (fun x => decide (n = x)) s)) (fun x => []) (fun x => True) := by
  refine Ret.of e_71 Tryz.func71 rfl Tryz.ntmps71 rfl rfl (fun w hpre => ?_)
  have hs := hpre.base
  have hm0 : maxLen = 9223372036854775807 := rfl
  refine Ex.regSeq (ExL.pures 1 rfl ?_)
  refine ExL.nil ?_
  refine Ex.seq ?_
  refine Ex.regSeq (ExL.pures 3 rfl ?_)
  refine ExL.nil ?_
  refine Ex.block ?_
  refine Ex.loopK (X := Nat) (fun k => [(8, .int .i64 k)]) (fun k => []) (fun k => k ≤ s.length ∧ ∀ i, i < k → (fun x => decide (n = x)) (s.getD i 0) = false) (fun k => s.length - k) 0 [(0, _), (1, _), (7, _)] [] 0 [] ⟨rfl, trivial⟩ ⟨rfl, rfl, rfl, trivial⟩ (rfl) rfl ⟨Nat.zero_le _, fun i hi => by omega⟩ (fun k hI => ?_)
  have hI : k ≤ s.length ∧ ∀ i, i < k → (fun x => decide (n = x)) (s.getD i 0) = false := hI
  obtain ⟨hk, hall⟩ := hI
  refine Ex.regSeq (ExL.pures 0 rfl ?_)
  refine ExL.lss rfl rfl rfl rfl rfl rfl (fun h1 => ?_) (fun h1 => ?_)
  · refine ExL.nil ?_
    refine Ex.seq ?_
    refine Ex.cond_t rfl ?_
    refine Ex.skip ?_
    refine Ex.seq ?_
    refine Ex.block ?_
    refine Ex.regSeq (ExL.pures 2 rfl ?_)
    refine ExL.nil ?_
    refine Ex.regSeq (ExL.pures 3 rfl ?_)
    refine ExL.free (fr_indexAddrF (Reads.old hs) (eI_len .i64) rfl rfl rfl rfl rfl rfl (by omega)) rfl rfl rfl ?_
    refine ExL.free (fr_load rfl rfl rfl rfl (by first | exact cellN (Reads.old hs) (eI_len .i64) 0 0 rfl (by omega) rfl | exact cellF (Reads.old hs) (eI_len .i64) 0 0 rfl (by omega) rfl)) rfl rfl rfl ?_
    refine ExL.eql rfl rfl rfl rfl rfl rfl (fun h2 => ?_) (fun h2 => ?_)
    · refine ExL.nil ?_
      refine Ex.cond_t rfl ?_
      refine Ex.regSeq (ExL.pures 2 rfl ?_)
      refine ExL.nil ?_
      refine Ex.ret ?_
      refine RetQ.mk () rfl (.tmp rfl .nil) (tI (by first | exact (idx_hit (p := (fun x => decide (n = x))) (d := 0) (by omega) hall (decide_eq_true (by assumption))).symm | exact (idx_none (p := (fun x => decide (n = x))) (d := 0) (by omega) hall).symm)) [] (rfl) rfl (trivial)
    · refine ExL.nil ?_
      refine Ex.cond_f rfl ?_
      refine Ex.skip ?_
      refine Ex.region (ExL.pures 0 rfl ?_)
      refine ExL.free (by first | exact fr_add64 rfl rfl rfl (by omega) | exact fr_add rfl rfl rfl) rfl rfl rfl ?_
      refine ExL.pures 1 rfl ?_
      refine ExL.nil ?_
      refine Hand.mk (k + 1) 0 [] ⟨rfl, trivial⟩ ⟨rfl, rfl, rfl, trivial⟩ (rfl) rfl (⟨by omega, all_snoc hall (decide_eq_false (by assumption))⟩) (by omega)
  · refine ExL.nil ?_
    refine Ex.seq ?_
    refine Ex.cond_f rfl ?_
    refine Ex.exit ?_
    refine Ex.regSeq (ExL.pures 1 rfl ?_)
    refine ExL.nil ?_
    refine Ex.ret ?_
    refine RetQ.mk () rfl (.tmp rfl .nil) (tI (by first | exact (idx_hit (p := (fun x => decide (n = x))) (d := 0) (by omega) hall (decide_eq_true (by assumption))).symm | exact (idx_none (p := (fun x => decide (n = x))) (d := 0) (by omega) hall).symm)) [] (rfl) rfl (trivial)
theorem e_53 : Enters Tryz.prog 53 := Enters.of Tryz.func53 rfl
theorem c_nContains (s : List Int) (As : Option Addr) (cs : Nat) (hls : s.length ≤ maxLen) (n : Int) : Ret Tryz.prog 53 [.slice As s.length cs, .int .i64 n] (fun w => Rd w As (s.flatMap (eI .i64))) (fun x : Unit => .bool (s.contains n)) (fun x => []) (fun x => True) := by
  refine Ret.of e_53 Tryz.func53 rfl Tryz.ntmps53 rfl rfl (fun w hpre => ?_)
  have hs := hpre.base
  have hm0 : maxLen = 9223372036854775807 := rfl
  refine Ex.regSeq (ExL.pures 1 rfl ?_)
  refine ExL.nil ?_
  refine Ex.regSeq (ExL.pures 2 rfl ?_)
  refine ExL.op rfl (op_ret rfl rfl rfl (c_nIndex s _ _ (by omega) n) (Reads.get (Reads.old hs)) rfl rfl (fun x1 hx1 => ?_))
  refine ExL.geq rfl rfl rfl rfl rfl rfl (fun h2 => ?_) (fun h2 => ?_)
  · refine ExL.pures 1 rfl ?_
    refine ExL.nil ?_
    refine Ex.ret ?_
    refine RetQ.mk () rfl (.tmp rfl .nil) (tB (by rw [← hasB]; first | exact dec_t (by omega) | exact dec_f (by omega) | rfl)) [] (rfl) rfl (trivial)
  · refine ExL.pures 1 rfl ?_
    refine ExL.nil ?_
    refine Ex.ret ?_
    refine RetQ.mk () rfl (.tmp rfl .nil) (tB (by rw [← hasB]; first | exact dec_t (by omega) | exact dec_f (by omega) | rfl)) [] (rfl) rfl (trivial)
theorem e_48 : Enters Tryz.prog 48 := Enters.of Tryz.func48 rfl
theorem c_slEqualI (s : List Int) (As : Option Addr) (cs : Nat) (hls : s.length ≤ maxLen) (At : Option Addr) (ct : Nat) : Ret Tryz.prog 48 [.slice As s.length cs, .slice At s.length ct] (fun w => Rd w As (s.flatMap (eI .i64)) ∧ Rd w At (s.flatMap (eI .i64))) (fun x : Unit => .bool true) (fun x => []) (fun x => True) := by
  refine Ret.of e_48 Tryz.func48 rfl Tryz.ntmps48 rfl rfl (fun w hpre => ?_)
  have hs := hpre.1.base
  have ht := hpre.2.base
  have hm0 : maxLen = 9223372036854775807 := rfl
  refine Ex.regSeq (ExL.pures 1 rfl ?_)
  refine ExL.nil ?_
  refine Ex.seq ?_
  refine Ex.regSeq (ExL.pures 4 rfl ?_)
  refine ExL.free (fr_neq_f rfl rfl rfl (fun h => h rfl)) rfl rfl rfl ?_
  refine ExL.nil ?_
  refine Ex.cond_f rfl ?_
  refine Ex.skip ?_
  refine Ex.seq ?_
  refine Ex.regSeq (ExL.pures 3 rfl ?_)
  refine ExL.nil ?_
  refine Ex.block ?_
  refine Ex.loopK (X := Nat) (fun k => [(13, .int .i64 k)]) (fun k => []) (fun k => k ≤ s.length) (fun k => s.length - k) 0 [(0, _), (1, _), (12, _)] [] 0 [] ⟨rfl, trivial⟩ ⟨rfl, rfl, rfl, trivial⟩ (rfl) rfl (Nat.zero_le _) (fun k hI => ?_)
  have hI : k ≤ s.length := hI
  refine Ex.regSeq (ExL.pures 0 rfl ?_)
  refine ExL.lss rfl rfl rfl rfl rfl rfl (fun h1 => ?_) (fun h1 => ?_)
  · refine ExL.nil ?_
    refine Ex.seq ?_
    refine Ex.cond_t rfl ?_
    refine Ex.skip ?_
    refine Ex.seq ?_
    refine Ex.block ?_
    refine Ex.regSeq (ExL.pures 2 rfl ?_)
    refine ExL.nil ?_
    refine Ex.drawSeqM rfl ?_
    refine ExD.take (i := 0) rfl (by kernel_rfl) (pureVal_ok rfl) ((List.Sublist.refl _)) rfl rfl rfl ?_
    refine ExD.take (i := 1) rfl (by kernel_rfl) (pureVal_ok rfl) ((List.Sublist.refl _)) rfl rfl rfl ?_
    refine ExD.take (i := 2) rfl (by kernel_rfl) (fr_indexAddrF (Reads.old hs) (eI_len .i64) rfl rfl rfl rfl rfl rfl (by omega)) ((List.Sublist.refl _)) rfl rfl rfl ?_
    refine ExD.take (i := 3) rfl (by kernel_rfl) (fr_load rfl rfl rfl rfl (by first | exact cellN (Reads.old hs) (eI_len .i64) 0 0 rfl (by omega) rfl | exact cellF (Reads.old hs) (eI_len .i64) 0 0 rfl (by omega) rfl)) ((List.Sublist.refl _)) rfl rfl rfl ?_
    refine ExD.take (i := 4) rfl (by kernel_rfl) (pureVal_ok rfl) ((List.Sublist.refl _)) rfl rfl rfl ?_
    refine ExD.take (i := 5) rfl (by kernel_rfl) (pureVal_ok rfl) ((List.Sublist.refl _)) rfl rfl rfl ?_
    refine ExD.take (i := 6) rfl (by kernel_rfl) (fr_indexAddrF (Reads.old ht) (eI_len .i64) rfl rfl rfl rfl rfl rfl (by omega)) ((List.Sublist.refl _)) rfl rfl rfl ?_
    refine ExD.take (i := 7) rfl (by kernel_rfl) (fr_load rfl rfl rfl rfl (by first | exact cellN (Reads.old ht) (eI_len .i64) 0 0 rfl (by omega) rfl | exact cellF (Reads.old ht) (eI_len .i64) 0 0 rfl (by omega) rfl)) ((List.Sublist.refl _)) rfl rfl rfl ?_
    refine ExD.cmp_neq (i := 8) rfl (by kernel_rfl) rfl rfl rfl ((List.Sublist.refl _)) rfl rfl rfl (fun h2 => ?_) (fun h2 => ?_)
    · refine ExD.done (by kernel_rfl) ?_
      refine Ex.cond_t rfl ?_
      refine Ex.regSeq (ExL.pures 1 rfl ?_)
      refine ExL.nil ?_
      refine Ex.ret ?_
      refine RetQ.mk () rfl (.tmp rfl .nil) (tB (by first | rfl | exact absurd rfl (by assumption))) [] (rfl) rfl (trivial)
    · refine ExD.done (by kernel_rfl) ?_
      refine Ex.cond_f rfl ?_
      refine Ex.skip ?_
      refine Ex.region (ExL.pures 0 rfl ?_)
      refine ExL.free (by first | exact fr_add64 rfl rfl rfl (by omega) | exact fr_add rfl rfl rfl) rfl rfl rfl ?_
      refine ExL.pures 1 rfl ?_
      refine ExL.nil ?_
      refine Hand.mk (k + 1) 0 [] ⟨rfl, trivial⟩ ⟨rfl, rfl, rfl, trivial⟩ (rfl) rfl (by omega) (by omega)
  · refine ExL.nil ?_
    refine Ex.seq ?_
    refine Ex.cond_f rfl ?_
    refine Ex.exit ?_
    refine Ex.regSeq (ExL.pures 1 rfl ?_)
    refine ExL.nil ?_
    refine Ex.ret ?_
    refine RetQ.mk () rfl (.tmp rfl .nil) (tB (by first | rfl | exact absurd rfl (by assumption))) [] (rfl) rfl (trivial)
theorem eq_Rdg (a : VP) : EqOk Tryz.prog 10000 85 (.agg (encP a).toArray) (.agg (encP a).toArray) true := by
  refine EqOk.as (EqOk.struct (d := 9999) rfl rfl (by kernel_rfl) (EqFs.one rfl rfl rfl rfl rfl (EqOk.int rfl) (EqFs.one rfl rfl rfl rfl rfl (EqOk.int rfl) EqFs.nil))) ?_
  simp
theorem e_16 : Enters Tryz.prog 16 := Enters.of Tryz.func16 rfl
theorem c_sSameLog (s : List VP) (As : Option Addr) (cs : Nat) (hls : s.length ≤ maxLen) (At : Option Addr) (ct : Nat) : Ret Tryz.prog 16 [.slice As s.length cs, .slice At s.length ct] (fun w => Rd w As (s.flatMap encP) ∧ Rd w At (s.flatMap encP)) (fun x : Unit => .bool true) (fun x => []) (fun x => True) := by
  refine Ret.of e_16 Tryz.func16 rfl Tryz.ntmps16 rfl rfl (fun w hpre => ?_)
  have hs := hpre.1.base
  have ht := hpre.2.base
  have hm0 : maxLen = 9223372036854775807 := rfl
  refine Ex.regSeq (ExL.pures 1 rfl ?_)
  refine ExL.nil ?_
  refine Ex.seq ?_
  refine Ex.regSeq (ExL.pures 4 rfl ?_)
  refine ExL.free (fr_neq_f rfl rfl rfl (fun h => h rfl)) rfl rfl rfl ?_
  refine ExL.nil ?_
  refine Ex.cond_f rfl ?_
  refine Ex.skip ?_
  refine Ex.seq ?_
  refine Ex.regSeq (ExL.pures 1 rfl ?_)
  refine ExL.nil ?_
  refine Ex.block ?_
  refine Ex.loopK (X := Nat) (fun k => [(5, .int .i64 k)]) (fun k => []) (fun k => k ≤ s.length) (fun k => s.length - k) 0 [(0, _), (1, _)] [] 0 [] ⟨rfl, trivial⟩ ⟨rfl, rfl, trivial⟩ (rfl) rfl (Nat.zero_le _) (fun k hI => ?_)
  have hI : k ≤ s.length := hI
  refine Ex.seq ?_
  refine Ex.regSeq (ExL.pures 3 rfl ?_)
  refine ExL.lss rfl rfl rfl rfl rfl rfl (fun h1 => ?_) (fun h1 => ?_)
  · refine ExL.nil ?_
    refine Ex.cond_t rfl ?_
    refine Ex.skip ?_
    refine Ex.seq ?_
    refine Ex.block ?_
    refine Ex.drawSeqM rfl ?_
    refine ExD.take (i := 0) rfl (by kernel_rfl) (pureVal_ok rfl) ((List.Sublist.refl _)) rfl rfl rfl ?_
    refine ExD.take (i := 1) rfl (by kernel_rfl) (pureVal_ok rfl) ((List.Sublist.refl _)) rfl rfl rfl ?_
    refine ExD.take (i := 2) rfl (by kernel_rfl) (fr_indexAddrF (Reads.old hs) encP_len rfl rfl rfl rfl rfl rfl (by omega)) ((List.Sublist.refl _)) rfl rfl rfl ?_
    refine ExD.take (i := 3) rfl (by kernel_rfl) (fr_loadN rfl rfl rfl rfl rfl (by first | exact segN (Reads.old hs) encP_len rfl zP (by omega) | exact segF (Reads.old hs) encP_len rfl zP (by omega))) ((List.Sublist.refl _)) rfl rfl rfl ?_
    refine ExD.take (i := 4) rfl (by kernel_rfl) (pureVal_ok rfl) ((List.Sublist.refl _)) rfl rfl rfl ?_
    refine ExD.take (i := 5) rfl (by kernel_rfl) (pureVal_ok rfl) ((List.Sublist.refl _)) rfl rfl rfl ?_
    refine ExD.take (i := 6) rfl (by kernel_rfl) (fr_indexAddrF (Reads.old ht) encP_len rfl rfl rfl rfl rfl rfl (by omega)) ((List.Sublist.refl _)) rfl rfl rfl ?_
    refine ExD.take (i := 7) rfl (by kernel_rfl) (fr_loadN rfl rfl rfl rfl rfl (by first | exact segN (Reads.old ht) encP_len rfl zP (by omega) | exact segF (Reads.old ht) encP_len rfl zP (by omega))) ((List.Sublist.refl _)) rfl rfl rfl ?_
    refine ExD.take (i := 8) rfl (by kernel_rfl) (fr_neq_rec (eq_Rdg (s.getD k zP)) rfl rfl rfl (by kernel_rfl)) ((List.Sublist.refl _)) rfl rfl rfl ?_
    refine ExD.done (by kernel_rfl) ?_
    refine Ex.cond_f rfl ?_
    refine Ex.skip ?_
    refine Ex.region (ExL.pures 1 rfl ?_)
    refine ExL.free (by first | exact fr_add64 rfl rfl rfl (by omega) | exact fr_add rfl rfl rfl) rfl rfl rfl ?_
    refine ExL.pures 1 rfl ?_
    refine ExL.nil ?_
    refine Hand.mk (k + 1) 0 [] ⟨rfl, trivial⟩ ⟨rfl, rfl, trivial⟩ (rfl) rfl (by omega) (by omega)
  · refine ExL.nil ?_
    refine Ex.cond_f rfl ?_
    refine Ex.exit ?_
    refine Ex.regSeq (ExL.pures 1 rfl ?_)
    refine ExL.nil ?_
    refine Ex.ret ?_
    refine RetQ.mk () rfl (.tmp rfl .nil) (rfl) [] (rfl) rfl (trivial)
theorem e_49 : Enters Tryz.prog 49 := Enters.of Tryz.func49 rfl
theorem c_slEqualR (s : List VP) (As : Option Addr) (cs : Nat) (hls : s.length ≤ maxLen) (At : Option Addr) (ct : Nat) : Ret Tryz.prog 49 [.slice As s.length cs, .slice At s.length ct] (fun w => Rd w As (s.flatMap encP) ∧ Rd w At (s.flatMap encP)) (fun x : Unit => .bool true) (fun x => []) (fun x => True) := by
  refine Ret.of e_49 Tryz.func49 rfl Tryz.ntmps49 rfl rfl (fun w hpre => ?_)
  have hs := hpre.1.base
  have ht := hpre.2.base
  have hm0 : maxLen = 9223372036854775807 := rfl
  refine Ex.regSeq (ExL.pures 1 rfl ?_)
  refine ExL.nil ?_
  refine Ex.seq ?_
  refine Ex.regSeq (ExL.pures 4 rfl ?_)
  refine ExL.free (fr_neq_f rfl rfl rfl (fun h => h rfl)) rfl rfl rfl ?_
  refine ExL.nil ?_
  refine Ex.cond_f rfl ?_
  refine Ex.skip ?_
  refine Ex.seq ?_
  refine Ex.regSeq (ExL.pures 3 rfl ?_)
  refine ExL.nil ?_
  refine Ex.block ?_
  refine Ex.loopK (X := Nat) (fun k => [(13, .int .i64 k)]) (fun k => []) (fun k => k ≤ s.length) (fun k => s.length - k) 0 [(0, _), (1, _), (12, _)] [] 0 [] ⟨rfl, trivial⟩ ⟨rfl, rfl, rfl, trivial⟩ (rfl) rfl (Nat.zero_le _) (fun k hI => ?_)
  have hI : k ≤ s.length := hI
  refine Ex.regSeq (ExL.pures 0 rfl ?_)
  refine ExL.lss rfl rfl rfl rfl rfl rfl (fun h1 => ?_) (fun h1 => ?_)
  · refine ExL.nil ?_
    refine Ex.seq ?_
    refine Ex.cond_t rfl ?_
    refine Ex.skip ?_
    refine Ex.seq ?_
    refine Ex.block ?_
    refine Ex.regSeq (ExL.pures 2 rfl ?_)
    refine ExL.nil ?_
    refine Ex.drawSeqM rfl ?_
    refine ExD.take (i := 0) rfl (by kernel_rfl) (pureVal_ok rfl) ((List.Sublist.refl _)) rfl rfl rfl ?_
    refine ExD.take (i := 1) rfl (by kernel_rfl) (pureVal_ok rfl) ((List.Sublist.refl _)) rfl rfl rfl ?_
    refine ExD.take (i := 2) rfl (by kernel_rfl) (fr_indexAddrF (Reads.old hs) encP_len rfl rfl rfl rfl rfl rfl (by omega)) ((List.Sublist.refl _)) rfl rfl rfl ?_
    refine ExD.take (i := 3) rfl (by kernel_rfl) (fr_loadN rfl rfl rfl rfl rfl (by first | exact segN (Reads.old hs) encP_len rfl zP (by omega) | exact segF (Reads.old hs) encP_len rfl zP (by omega))) ((List.Sublist.refl _)) rfl rfl rfl ?_
    refine ExD.take (i := 4) rfl (by kernel_rfl) (pureVal_ok rfl) ((List.Sublist.refl _)) rfl rfl rfl ?_
    refine ExD.take (i := 5) rfl (by kernel_rfl) (pureVal_ok rfl) ((List.Sublist.refl _)) rfl rfl rfl ?_
    refine ExD.take (i := 6) rfl (by kernel_rfl) (fr_indexAddrF (Reads.old ht) encP_len rfl rfl rfl rfl rfl rfl (by omega)) ((List.Sublist.refl _)) rfl rfl rfl ?_
    refine ExD.take (i := 7) rfl (by kernel_rfl) (fr_loadN rfl rfl rfl rfl rfl (by first | exact segN (Reads.old ht) encP_len rfl zP (by omega) | exact segF (Reads.old ht) encP_len rfl zP (by omega))) ((List.Sublist.refl _)) rfl rfl rfl ?_
    refine ExD.take (i := 8) rfl (by kernel_rfl) (fr_neq_rec (eq_Rdg (s.getD k zP)) rfl rfl rfl (by kernel_rfl)) ((List.Sublist.refl _)) rfl rfl rfl ?_
    refine ExD.done (by kernel_rfl) ?_
    refine Ex.cond_f rfl ?_
    refine Ex.skip ?_
    refine Ex.region (ExL.pures 0 rfl ?_)
    refine ExL.free (by first | exact fr_add64 rfl rfl rfl (by omega) | exact fr_add rfl rfl rfl) rfl rfl rfl ?_
    refine ExL.pures 1 rfl ?_
    refine ExL.nil ?_
    refine Hand.mk (k + 1) 0 [] ⟨rfl, trivial⟩ ⟨rfl, rfl, rfl, trivial⟩ (rfl) rfl (by omega) (by omega)
  · refine ExL.nil ?_
    refine Ex.seq ?_
    refine Ex.cond_f rfl ?_
    refine Ex.exit ?_
    refine Ex.regSeq (ExL.pures 1 rfl ?_)
    refine ExL.nil ?_
    refine Ex.ret ?_
    refine RetQ.mk () rfl (.tmp rfl .nil) (rfl) [] (rfl) rfl (trivial)
theorem e_17 : Enters Tryz.prog 17 := Enters.of Tryz.func17 rfl
theorem c_iSameLog (s : List VP) (As : Option Addr) (cs : Nat) (hls : s.length ≤ maxLen) (At : Option Addr) (ct : Nat) : Ret Tryz.prog 17 [.slice As s.length cs, .slice At s.length ct] (fun w => Rd w As (s.flatMap encP) ∧ Rd w At (s.flatMap encP)) (fun x : Unit => .bool true) (fun x => []) (fun x => True) := by
  refine Ret.of e_17 Tryz.func17 rfl Tryz.ntmps17 rfl rfl (fun w hpre => ?_)
  have hs := hpre.1.base
  have ht := hpre.2.base
  have hm0 : maxLen = 9223372036854775807 := rfl
  refine Ex.regSeq (ExL.pures 1 rfl ?_)
  refine ExL.nil ?_
  refine Ex.regSeq (ExL.pures 2 rfl ?_)
  refine ExL.op rfl (op_ret rfl rfl rfl (c_slEqualR s _ _ (by omega) _ _) (fun w hw => ⟨Reads.get (Reads.old hs) w hw, Reads.get (Reads.old ht) w hw⟩) rfl rfl (fun x1 hx1 => ?_))
  refine ExL.pures 1 rfl ?_
  refine ExL.nil ?_
  refine Ex.ret ?_
  refine RetQ.mk () rfl (.tmp rfl .nil) (rfl) [] (rfl) rfl (trivial)
theorem e_14 : Enters Tryz.prog 14 := Enters.of Tryz.func14 rfl
theorem c_iSameStory (y : VSt) (Y1 : Option Addr) (yc1 : Nat) (Y2 : Option Addr) (yc2 : Nat) (Z1 : Option Addr) (zc1 : Nat) (Z2 : Option Addr) (zc2 : Nat) (hy : y.kept.length ≤ 1000 ∧ y.breaks.length ≤ 1000) : Ret Tryz.prog 14 [.agg (encY Y1 yc1 Y2 yc2 y).toArray, .agg (encY Z1 zc1 Z2 zc2 y).toArray] (fun w => Rd w Y1 (y.kept.flatMap (eI .i64)) ∧ Rd w Y2 (y.breaks.flatMap (eI .i64)) ∧ Rd w Z1 (y.kept.flatMap (eI .i64)) ∧ Rd w Z2 (y.breaks.flatMap (eI .i64))) (fun x : Unit => .bool true) (fun x => []) (fun x => True) := by
  refine Ret.of e_14 Tryz.func14 rfl Tryz.ntmps14 rfl rfl (fun w hpre => ?_)
  have hk := hpre.1.base
  have hb := hpre.2.1.base
  have hk2 := hpre.2.2.1.base
  have hb2 := hpre.2.2.2.base
  obtain ⟨hy1, hy2⟩ := hy
  have hm0 : maxLen = 9223372036854775807 := rfl
  refine Ex.regSeq (ExL.pures 0 rfl ?_)
  refine ExL.op rfl (op_box rfl rfl rfl rfl rfl (fun b1 => ?_))
  refine ExL.op rfl (op_box rfl rfl rfl rfl rfl (fun b2 => ?_))
  refine ExL.pures 1 rfl ?_
  refine ExL.nil ?_
  refine Ex.regSeq (ExL.pures 1 rfl ?_)
  refine ExL.free (fr_load rfl rfl rfl rfl (CellO.blk (i := 1) rfl rfl)) rfl rfl rfl ?_
  refine ExL.pures 1 rfl ?_
  refine ExL.free (fr_load rfl rfl rfl rfl (CellO.blk (i := 0) rfl rfl)) rfl rfl rfl ?_
  refine ExL.op rfl (op_ret rfl rfl rfl (c_slEqualI y.kept _ _ (by omega) _ _) (fun w hw => ⟨Reads.get (Reads.old hk) w hw, Reads.get (Reads.old hk2) w hw⟩) rfl rfl (fun x3 hx3 => ?_))
  refine ExL.pures 2 rfl ?_
  refine ExL.free (fr_load rfl rfl rfl rfl (CellO.blk (i := 1) rfl rfl)) rfl rfl rfl ?_
  refine ExL.pures 1 rfl ?_
  refine ExL.free (fr_load rfl rfl rfl rfl (CellO.blk (i := 0) rfl rfl)) rfl rfl rfl ?_
  refine ExL.op rfl (op_ret rfl rfl rfl (c_slEqualI y.breaks _ _ (by omega) _ _) (fun w hw => ⟨Reads.get (Reads.old hb) w hw, Reads.get (Reads.old hb2) w hw⟩) rfl rfl (fun x4 hx4 => ?_))
  refine ExL.pures 3 rfl ?_
  refine ExL.free (fr_load rfl rfl rfl rfl (CellO.blk (i := 1) rfl rfl)) rfl rfl rfl ?_
  refine ExL.pures 1 rfl ?_
  refine ExL.free (fr_load rfl rfl rfl rfl (CellO.blk (i := 0) rfl rfl)) rfl rfl rfl ?_
  refine ExL.free (fr_eql rfl rfl rfl) rfl rfl rfl ?_
  refine ExL.pures 2 rfl ?_
  refine ExL.nil ?_
  refine Ex.ret ?_
  refine RetQ.mk () rfl (.tmp rfl .nil) (tB (by first | rfl | exact absurd rfl (by assumption) | (simp; done))) [] (rfl) rfl (trivial)
theorem e_13 : Enters Tryz.prog 13 := Enters.of Tryz.func13 rfl
theorem c_sSameStory (y : VSt) (Y1 : Option Addr) (yc1 : Nat) (Y2 : Option Addr) (yc2 : Nat) (Z1 : Option Addr) (zc1 : Nat) (Z2 : Option Addr) (zc2 : Nat) (hy : y.kept.length ≤ 1000 ∧ y.breaks.length ≤ 1000) : Ret Tryz.prog 13 [.agg (encY Y1 yc1 Y2 yc2 y).toArray, .agg (encY Z1 zc1 Z2 zc2 y).toArray] (fun w => Rd w Y1 (y.kept.flatMap (eI .i64)) ∧ Rd w Y2 (y.breaks.flatMap (eI .i64)) ∧ Rd w Z1 (y.kept.flatMap (eI .i64)) ∧ Rd w Z2 (y.breaks.flatMap (eI .i64))) (fun x : Unit => .bool true) (fun x => []) (fun x => True) := by
  refine Ret.of e_13 Tryz.func13 rfl Tryz.ntmps13 rfl rfl (fun w hpre => ?_)
  have hk := hpre.1.base
  have hb := hpre.2.1.base
  have hk2 := hpre.2.2.1.base
  have hb2 := hpre.2.2.2.base
  obtain ⟨hy1, hy2⟩ := hy
  have hm0 : maxLen = 9223372036854775807 := rfl
  refine Ex.regSeq (ExL.pures 0 rfl ?_)
  refine ExL.op rfl (op_box rfl rfl rfl rfl rfl (fun b1 => ?_))
  refine ExL.op rfl (op_box rfl rfl rfl rfl rfl (fun b2 => ?_))
  refine ExL.pures 1 rfl ?_
  refine ExL.nil ?_
  refine Ex.regSeq (ExL.pures 1 rfl ?_)
  refine ExL.free (fr_load rfl rfl rfl rfl (CellO.blk (i := 1) rfl rfl)) rfl rfl rfl ?_
  refine ExL.pures 1 rfl ?_
  refine ExL.free (fr_load rfl rfl rfl rfl (CellO.blk (i := 0) rfl rfl)) rfl rfl rfl ?_
  refine ExL.free (fr_eql_t rfl rfl rfl (rfl)) rfl rfl rfl ?_
  refine ExL.pures 2 rfl ?_
  refine ExL.free (fr_load rfl rfl rfl rfl (CellO.blk (i := 1) rfl rfl)) rfl rfl rfl ?_
  refine ExL.pures 1 rfl ?_
  refine ExL.free (fr_load rfl rfl rfl rfl (CellO.blk (i := 0) rfl rfl)) rfl rfl rfl ?_
  refine ExL.op rfl (op_ret rfl rfl rfl (c_l00Same y.kept (Y1) (yc1) (by omega) y.kept (Z1) (zc1) (by omega)) (fun w hw => ⟨Reads.get (Reads.old hk) w hw, Reads.get (Reads.old hk2) w hw⟩) rfl rfl (fun x3 hx3 => ?_))
  refine ExL.pures 2 rfl ?_
  refine ExL.bool (d := 17) rfl (fun hb4 => ?_) (fun hb4 => ?_)
  · replace hb4 := of_decide_eq_true hb4
    refine ExL.pures 1 rfl ?_
    refine ExL.free (fr_load rfl rfl rfl rfl (CellO.blk (i := 1) rfl rfl)) rfl rfl rfl ?_
    refine ExL.pures 1 rfl ?_
    refine ExL.free (fr_load rfl rfl rfl rfl (CellO.blk (i := 0) rfl rfl)) rfl rfl rfl ?_
    refine ExL.op rfl (op_ret rfl rfl rfl (c_l00Same y.breaks (Y2) (yc2) (by omega) y.breaks (Z2) (zc2) (by omega)) (fun w hw => ⟨Reads.get (Reads.old hb) w hw, Reads.get (Reads.old hb2) w hw⟩) rfl rfl (fun x5 hx5 => ?_))
    refine ExL.pures 2 rfl ?_
    refine ExL.nil ?_
    refine Ex.ret ?_
    refine RetQ.mk () rfl (.tmp rfl .nil) (tB (by first | rfl | exact absurd rfl (by assumption) | (simp; done))) [] (rfl) rfl (trivial)
  · replace hb4 := of_decide_eq_false hb4
    refine ExL.pures 7 rfl ?_
    refine ExL.nil ?_
    refine Ex.ret ?_
    refine RetQ.mk () rfl (.tmp rfl .nil) (tB (by first | rfl | exact absurd rfl (by assumption) | (simp; done))) [] (rfl) rfl (trivial)
end Go.Proofs.YtddflaaccmjoeaaGreatDoor

/- What these functions of the program hand back, each proved by walking its operations. -/
set_option linter.unusedVariables false
set_option linter.unusedSimpArgs false
set_option maxRecDepth 4000
namespace Go.Proofs.YtddflaaccmjoeaaGreatDoor
open Go Go.Sx Go.RowKit Go.W Go.Proofs
attribute [local irreducible] Ex ExL ExD Op1 Free RetQ MutQ Reads CellO SegO LoadsAs
theorem e_67 : Enters Tryz.prog 67 := Enters.of Tryz.func67 rfl
theorem c_less (p q : VPl) (hlp : p.xs.length ≤ maxLen) (hlq : q.xs.length ≤ maxLen) : Ret Tryz.prog 67 [.agg (encPl p).toArray, .agg (encPl q).toArray] (fun w => Rd w p.A (p.xs.flatMap (eI .i64)) ∧ Rd w q.A (q.xs.flatMap (eI .i64))) (fun x : Unit => .bool (lessT p.t q.t)) (fun x => []) (fun x => True) := by
  refine Ret.of e_67 Tryz.func67 rfl Tryz.ntmps67 rfl rfl (fun w hpre => ?_)
  have hp := hpre.1.base
  have hq := hpre.2.base
  have hm0 : maxLen = 9223372036854775807 := rfl
  refine Ex.regSeq (ExL.pures 0 rfl ?_)
  refine ExL.op rfl (op_box rfl rfl rfl rfl rfl (fun b1 => ?_))
  refine ExL.op rfl (op_box rfl rfl rfl rfl rfl (fun b2 => ?_))
  refine ExL.pures 1 rfl ?_
  refine ExL.nil ?_
  refine Ex.drawSeqM rfl ?_
  refine ExD.take (i := 0) rfl (by kernel_rfl) (pureVal_ok rfl) ((List.Sublist.refl _)) rfl rfl rfl ?_
  refine ExD.take (i := 1) rfl (by kernel_rfl) (fr_load rfl rfl rfl rfl (CellO.blk (i := 1) rfl rfl)) ((List.Sublist.refl _)) rfl rfl rfl ?_
  refine ExD.take (i := 2) rfl (by kernel_rfl) (pureVal_ok rfl) ((List.Sublist.refl _)) rfl rfl rfl ?_
  refine ExD.take (i := 3) rfl (by kernel_rfl) (fr_load rfl rfl rfl rfl (CellO.blk (i := 0) rfl rfl)) ((List.Sublist.refl _)) rfl rfl rfl ?_
  refine ExD.take (i := 5) rfl (by kernel_rfl) (pureVal_ok rfl) ((List.Sublist.refl _)) rfl rfl rfl ?_
  refine ExD.take (i := 6) rfl (by kernel_rfl) (fr_load rfl rfl rfl rfl (CellO.blk (i := 1) rfl rfl)) ((List.Sublist.refl _)) rfl rfl rfl ?_
  refine ExD.take (i := 7) rfl (by kernel_rfl) (pureVal_ok rfl) ((List.Sublist.refl _)) rfl rfl rfl ?_
  refine ExD.take (i := 8) rfl (by kernel_rfl) (fr_load rfl rfl rfl rfl (CellO.blk (i := 0) rfl rfl)) ((List.Sublist.refl _)) rfl rfl rfl ?_
  refine ExD.take (i := 10) rfl (by kernel_rfl) (pureVal_ok rfl) ((List.Sublist.refl _)) rfl rfl rfl ?_
  refine ExD.take (i := 11) rfl (by kernel_rfl) (fr_load rfl rfl rfl rfl (CellO.blk (i := 1) rfl rfl)) ((List.Sublist.refl _)) rfl rfl rfl ?_
  refine ExD.take (i := 12) rfl (by kernel_rfl) (pureVal_ok rfl) ((List.Sublist.refl _)) rfl rfl rfl ?_
  refine ExD.take (i := 13) rfl (by kernel_rfl) (fr_load rfl rfl rfl rfl (CellO.blk (i := 0) rfl rfl)) ((List.Sublist.refl _)) rfl rfl rfl ?_
  refine ExD.op (i := 4) rfl (by kernel_rfl) rfl (op_ret rfl rfl rfl (c_cmp3 p.cost q.cost) (fun _ _ => trivial) rfl rfl (fun x3 hx3 => ⟨(List.Sublist.refl _), ?_⟩))
  refine ExD.op (i := 9) rfl (by kernel_rfl) rfl (op_ret rfl rfl rfl (c_cmp3 p.breaks q.breaks) (fun _ _ => trivial) rfl rfl (fun x4 hx4 => ⟨(List.Sublist.refl _), ?_⟩))
  refine ExD.op (i := 14) rfl (by kernel_rfl) rfl (op_ret rfl rfl rfl (c_slCompare p.xs (p.A) (p.c) (by omega) q.xs (q.A) (q.c) (by omega)) (fun w hw => ⟨Reads.get (Reads.old hp) w hw, Reads.get (Reads.old hq) w hw⟩) rfl rfl (fun x5 hx5 => ⟨(List.Sublist.refl _), ?_⟩))
  refine ExD.op (i := 15) rfl (by kernel_rfl) rfl (op_buildSlice (sz := 1) rfl rfl rfl rfl rfl rfl rfl rfl (by decide) rfl rfl rfl (fun r6 => ⟨(List.Sublist.cons _ (List.Sublist.refl _)), ?_⟩))
  refine ExD.op (i := 16) rfl (by kernel_rfl) rfl (op_ret rfl rfl rfl (c_cmpOr [c3 p.cost q.cost, c3 p.breaks q.breaks, cmpL p.xs q.xs] _ _ (by first | omega | (simp only [List.length_cons, List.length_nil]; omega))) (Reads.get (Reads.row (i := 0) rfl)) rfl rfl (fun x7 hx7 => ⟨(List.Sublist.cons _ (List.Sublist.refl _)), ?_⟩))
  refine ExD.take (i := 17) rfl (by kernel_rfl) (fr_lss rfl rfl rfl) ((List.Sublist.cons _ (List.Sublist.refl _))) rfl rfl rfl ?_
  refine ExD.take (i := 18) rfl (by kernel_rfl) (pureVal_ok rfl) ((List.Sublist.cons _ (List.Sublist.refl _))) rfl rfl rfl ?_
  refine ExD.done (by kernel_rfl) ?_
  refine Ex.ret ?_
  refine RetQ.mk () rfl (.tmp rfl .nil) (tB less_pl) [] (rfl) rfl (trivial)
theorem e_65 : Enters Tryz.prog 65 := Enters.of Tryz.func65 rfl
theorem c_from (p : VPl) (hpA : p.A = none → p.xs.length = 0 ∧ p.c = 0) (hpl : p.xs.length ≤ 1000) (hpc : (-1000 ≤ p.cost ∧ p.cost ≤ 1000) ∧ -1000 ≤ p.breaks ∧ p.breaks ≤ 1000) (i mi : Int) (hmi : -1000 ≤ mi ∧ mi ≤ 1000) (br : Int) (hbr : 0 ≤ br ∧ br ≤ 1) : Ret Tryz.prog 65 [.agg (encPl p).toArray, .int .i64 i, .int .i64 mi, .int .i64 br] (fun w => Rd w p.A (p.xs.flatMap (eI .i64))) (fun x : Option Addr × Nat => .agg (encPl ⟨p.cost + mi * 1 + br * 2, p.breaks + br, x.1, x.2, i :: p.xs⟩).toArray) (fun x => [.row (.slice x.1 (i :: p.xs).length x.2) 2 1 (i :: p.xs).length ((i :: p.xs).flatMap (eI .i64))]) (fun x => x.1.isSome = true) := by
  refine Ret.of e_65 Tryz.func65 rfl Tryz.ntmps65 rfl rfl (fun w hpre => ?_)
  have hp := hpre.base
  have hm0 : maxLen = 9223372036854775807 := rfl
  refine Ex.regSeq (ExL.pures 0 rfl ?_)
  refine ExL.op rfl (op_box rfl rfl rfl rfl rfl (fun b1 => ?_))
  refine ExL.op rfl (op_alloc rfl rfl rfl rfl rfl (fun b2 => ?_))
  refine ExL.nil ?_
  refine Ex.regSeq (ExL.pures 1 rfl ?_)
  refine ExL.op rfl (op_buildSlice (sz := 1) rfl rfl rfl rfl rfl rfl rfl rfl (by decide) rfl rfl rfl (fun r3 => ?_))
  refine ExL.pures 1 rfl ?_
  refine ExL.free (fr_load rfl rfl rfl rfl (CellO.blk (i := 2) rfl rfl)) rfl rfl rfl ?_
  refine ExL.op rfl (op_append (sz := 1) (bytes := 8) (i := 0) rfl rfl rfl rfl (Reads.old hp) (flat_len (eI_len .i64) _) hpA (all_flat (fun _ => rfl) _) rfl rfl rfl (by constructor <;> first | omega | (unfold maxLen; omega)) rfl rfl (fun A4 cA4 => ?_))
  rw [Nat.add_comm 1 p.xs.length]
  refine ExL.know (row_isSome (i := 0) rfl (by omega)) (fun hsome => ?_)
  refine ExL.pures 1 rfl ?_
  refine ExL.nil ?_
  refine Ex.regSeq (ExL.pures 1 rfl ?_)
  refine ExL.free (fr_load rfl rfl rfl rfl (CellO.blk (i := 2) rfl rfl)) rfl rfl rfl ?_
  refine ExL.pures 1 rfl ?_
  refine ExL.free (by first | exact fr_mul64 rfl rfl rfl (by omega) | exact fr_mul rfl rfl rfl) rfl rfl rfl ?_
  refine ExL.free (by first | exact fr_add64 rfl rfl rfl (by omega) | exact fr_add rfl rfl rfl) rfl rfl rfl ?_
  refine ExL.pures 1 rfl ?_
  refine ExL.free (by first | exact fr_mul64 rfl rfl rfl (by omega) | exact fr_mul rfl rfl rfl) rfl rfl rfl ?_
  refine ExL.free (by first | exact fr_add64 rfl rfl rfl (by omega) | exact fr_add rfl rfl rfl) rfl rfl rfl ?_
  refine ExL.pures 1 rfl ?_
  refine ExL.free (fr_load rfl rfl rfl rfl (CellO.blk (i := 2) rfl rfl)) rfl rfl rfl ?_
  refine ExL.pures 1 rfl ?_
  refine ExL.free (by first | exact fr_add64 rfl rfl rfl (by omega) | exact fr_add rfl rfl rfl) rfl rfl rfl ?_
  refine ExL.pures 1 rfl ?_
  refine ExL.free (fr_build rfl rfl rfl rfl) rfl rfl rfl ?_
  refine ExL.op rfl (op_storeC (i := 1) rfl rfl rfl rfl rfl rfl rfl rfl rfl rfl ?_)
  refine ExL.nil ?_
  refine Ex.ret ?_
  refine RetQ.mk (A4, cA4) rfl (.cell rfl (.many rfl rfl rfl (SegO.whole (i := 1) rfl)) .nil) (rfl) [0] (rfl) rfl (hsome)
end Go.Proofs.YtddflaaccmjoeaaGreatDoor

/- What these functions of the program hand back, each proved by walking its operations. -/
set_option linter.unusedVariables false
set_option linter.unusedSimpArgs false
set_option maxRecDepth 4000
namespace Go.Proofs.YtddflaaccmjoeaaGreatDoor
open Go Go.Sx Go.RowKit Go.W Go.Proofs
attribute [local irreducible] Ex ExL ExD Op1 Free RetQ MutQ Reads CellO SegO LoadsAs
theorem e_30 : Enters Tryz.prog 30 := Enters.of Tryz.func30 rfl
theorem c_detOf_f (s : List Int) (hu : Nums 255 s) (As : Option Addr) (cs : Nat) (hls : s.length ≤ maxLen) (l : List VP) (Al : Option Addr) (cl : Nat) (hll : l.length ≤ maxLen) (f : VP) (hask : askS s l f = false) : Ret Tryz.prog 30 [.slice As s.length cs, .slice Al l.length cl, .agg (encP f).toArray] (fun w => Rd w As (s.flatMap (eI .u8)) ∧ Rd w Al (l.flatMap encP)) (fun x : Unit => .pointer none) (fun x => []) (fun x => True) := by
  refine Ret.of e_30 Tryz.func30 rfl Tryz.ntmps30 rfl rfl (fun w hpre => ?_)
  have hs := hpre.1.base
  have hl := hpre.2.base
  have hm0 : maxLen = 9223372036854775807 := rfl
  unfold askS at hask
  refine Ex.regSeq (ExL.pures 0 rfl ?_)
  refine ExL.op rfl (op_box rfl rfl rfl rfl rfl (fun b1 => ?_))
  refine ExL.pures 1 rfl ?_
  refine ExL.nil ?_
  refine Ex.seq ?_
  refine Ex.regSeq (ExL.pures 2 rfl ?_)
  refine ExL.op rfl (op_ret rfl rfl rfl (c_ValidLog s (by assumption) _ _ (by omega) l _ _ (by omega)) (fun w hw => ⟨Reads.get (Reads.old hs) w hw, Reads.get (Reads.old hl) w hw⟩) rfl rfl (fun x2 hx2 => ?_))
  refine ExL.pures 2 rfl ?_
  refine ExL.bool (d := 14) rfl (fun hb3 => ?_) (fun hb3 => ?_)
  · replace hb3 := nb_t hb3
    refine ExL.pures 4 rfl ?_
    refine ExL.nil ?_
    refine Ex.cond_t rfl ?_
    refine Ex.regSeq (ExL.pures 1 rfl ?_)
    refine ExL.nil ?_
    refine Ex.ret ?_
    refine RetQ.mk () rfl (.tmp rfl .nil) (rfl) [] (rfl) rfl (trivial)
  · replace hb3 := nb_f hb3
    refine ExL.free (fr_loadN rfl rfl rfl rfl rfl (SegO.whole (i := 0) rfl)) rfl rfl rfl ?_
    refine ExL.op rfl (op_ret rfl rfl rfl (c_ValidFlow f) (fun _ _ => trivial) rfl rfl (fun x4 hx4 => ?_))
    refine ExL.pures 2 rfl ?_
    refine ExL.nil ?_
    refine Ex.cond rfl (fun hb5 => ?_) (fun hb5 => ?_)
    · replace hb5 := nb_t hb5
      refine Ex.regSeq (ExL.pures 1 rfl ?_)
      refine ExL.nil ?_
      refine Ex.ret ?_
      refine RetQ.mk () rfl (.tmp rfl .nil) (rfl) [] (rfl) rfl (trivial)
    · replace hb5 := nb_f hb5
      refine Ex.skip ?_
      exfalso; simp_all
theorem c_detOf_t (s : List Int) (hu : Nums 255 s) (As : Option Addr) (cs : Nat) (hls : s.length ≤ maxLen) (l : List VP) (Al : Option Addr) (cl : Nat) (hll : l.length ≤ maxLen) (f : VP) (hask : askS s l f = true) : Ret Tryz.prog 30 [.slice As s.length cs, .slice Al l.length cl, .agg (encP f).toArray] (fun w => Rd w As (s.flatMap (eI .u8)) ∧ Rd w Al (l.flatMap encP)) (fun x : DX => .pointer (some ⟨x.b, 0, none⟩)) (fun x => [.blk x.b [.slice As s.length cs, .slice Al l.length cl, .slice (some ⟨x.o, 0, none⟩) l.length l.length] 66, .row (.slice (some ⟨x.o, 0, none⟩) l.length l.length) 63 1 l.length (x.K.flatMap encX), .pile (x.K.map (rwX eB 4 1))]) (fun x => x.K.length = l.length ∧ CanK (fitsF s l f) l.length x.K) := by
  refine Ret.of e_30 Tryz.func30 rfl Tryz.ntmps30 rfl rfl (fun w hpre => ?_)
  have hs := hpre.1.base
  have hl := hpre.2.base
  have hm0 : maxLen = 9223372036854775807 := rfl
  obtain ⟨hL, hf⟩ := ask_of hask
  have hv := hL.stk
  have hLl := hL.len
  unfold askS at hask
  refine Ex.regSeq (ExL.pures 0 rfl ?_)
  refine ExL.op rfl (op_box rfl rfl rfl rfl rfl (fun b1 => ?_))
  refine ExL.pures 1 rfl ?_
  refine ExL.nil ?_
  refine Ex.seq ?_
  refine Ex.regSeq (ExL.pures 2 rfl ?_)
  refine ExL.op rfl (op_ret rfl rfl rfl (c_ValidLog s (by assumption) _ _ (by omega) l _ _ (by omega)) (fun w hw => ⟨Reads.get (Reads.old hs) w hw, Reads.get (Reads.old hl) w hw⟩) rfl rfl (fun x2 hx2 => ?_))
  refine ExL.pures 2 rfl ?_
  refine ExL.bool (d := 14) rfl (fun hb3 => ?_) (fun hb3 => ?_)
  · replace hb3 := nb_t hb3
    refine ExL.pures 4 rfl ?_
    refine ExL.nil ?_
    refine Ex.cond_t rfl ?_
    exfalso; simp_all
  · replace hb3 := nb_f hb3
    refine ExL.free (fr_loadN rfl rfl rfl rfl rfl (SegO.whole (i := 0) rfl)) rfl rfl rfl ?_
    refine ExL.op rfl (op_ret rfl rfl rfl (c_ValidFlow f) (fun _ _ => trivial) rfl rfl (fun x4 hx4 => ?_))
    refine ExL.pures 2 rfl ?_
    refine ExL.nil ?_
    refine Ex.cond rfl (fun hb5 => ?_) (fun hb5 => ?_)
    · replace hb5 := nb_t hb5
      exfalso; simp_all
    · replace hb5 := nb_f hb5
      refine Ex.skip ?_
      refine Ex.regSeq (ExL.pures 4 rfl ?_)
      refine ExL.op rfl (op_makeSlice (sz := 24) rfl rfl rfl rfl rfl rfl rfl rfl (⟨by omega, by unfold maxLen; omega⟩) rfl rfl (fun r6 => ?_))
      refine ExL.free (fr_build rfl rfl rfl rfl) rfl rfl rfl ?_
      refine ExL.op rfl (op_box rfl rfl rfl rfl rfl (fun b7 => ?_))
      refine ExL.pures 1 rfl ?_
      refine ExL.nil ?_
      refine Ex.seq ?_
      refine Ex.pile0 ?_
      refine Ex.regSeq (ExL.pures 3 rfl ?_)
      refine ExL.nil ?_
      refine Ex.block ?_
      refine Ex.loopK (X := List (VX Bool)) (fun K => [(28, .int .i64 K.length)]) (fun K => [.row (.slice (some ⟨r6, 0, none⟩) l.length l.length) 63 1 l.length ((outX K l.length).flatMap encX), .pile (K.map (rwX eB 4 1))]) (fun K => K.length ≤ l.length ∧ CanK (fitsF s l f) l.length K) (fun K => l.length - K.length) [] [(0, _), (1, _), (5, _), (6, _), (7, _), (27, _)] [_, _] 4 [2, 0, 1, 3] ⟨rfl, trivial⟩ ⟨rfl, rfl, rfl, rfl, rfl, rfl, trivial⟩ (pkR (zoutX rfl)) rfl ⟨Nat.zero_le _, fun i hi => by simp at hi⟩ (fun K hI => ?_)
      have hI : K.length ≤ l.length ∧ CanK (fitsF s l f) l.length K := hI
      obtain ⟨hK, hCK⟩ := hI
      refine Ex.regSeq (ExL.pures 0 rfl ?_)
      refine ExL.lss rfl rfl rfl rfl rfl rfl (fun h8 => ?_) (fun h8 => ?_)
      · refine ExL.nil ?_
        refine Ex.seq ?_
        refine Ex.cond_t rfl ?_
        refine Ex.skip ?_
        refine Ex.seq ?_
        refine Ex.block ?_
        refine Ex.regSeq (ExL.pures 2 rfl ?_)
        refine ExL.nil ?_
        refine Ex.drawSeqM rfl ?_
        refine ExD.take (i := 0) rfl (by kernel_rfl) (pureVal_ok rfl) ((List.Sublist.refl _)) rfl rfl rfl ?_
        refine ExD.take (i := 1) rfl (by kernel_rfl) (pureVal_ok rfl) ((List.Sublist.refl _)) rfl rfl rfl ?_
        refine ExD.take (i := 2) rfl (by kernel_rfl) (pureVal_ok rfl) ((List.Sublist.refl _)) rfl rfl rfl ?_
        refine ExD.take (i := 3) rfl (by kernel_rfl) (fr_load rfl rfl rfl rfl (CellO.blk (i := 2) rfl rfl)) ((List.Sublist.refl _)) rfl rfl rfl ?_
        refine ExD.take (i := 4) rfl (by kernel_rfl) (pureVal_ok rfl) ((List.Sublist.refl _)) rfl rfl rfl ?_
        refine ExD.take (i := 5) rfl (by kernel_rfl) (pureVal_ok rfl) ((List.Sublist.refl _)) rfl rfl rfl ?_
        refine ExD.take (i := 6) rfl (by kernel_rfl) (pureVal_ok rfl) ((List.Sublist.refl _)) rfl rfl rfl ?_
        refine ExD.op (i := 7) rfl (by kernel_rfl) rfl (op_makeSlice (sz := 1) rfl rfl rfl rfl rfl rfl rfl rfl (⟨by omega, by unfold maxLen; omega⟩) rfl rfl (fun r9 => ⟨(List.Sublist.cons _ (List.Sublist.refl _)), ?_⟩))
        refine ExD.take (i := 8) rfl (by kernel_rfl) (fr_indexAddr (sz := 1) rfl rfl rfl rfl rfl rfl (by omega)) ((List.Sublist.cons _ (List.Sublist.refl _))) rfl rfl rfl ?_
        refine ExD.last (i := 9) rfl (by kernel_rfl) (by kernel_rfl) rfl (op_storeRowF (i := 1) rfl rfl rfl rfl rfl rfl rfl rfl (room encX_len (k := K.length) (by rw [outX_len (by omega)]; omega) (by simp) rfl) (List.cons_ne_nil _ _) rfl (outX_put (⟨(some ⟨r9, 0, none⟩), l.length, (canR (fitsF s l f) l.length K.length)⟩ : VX Bool) (by omega) (by simp) (by unfold encX canR; rw [canP_len])) ?_)
        refine ExD.done (by kernel_rfl) ?_
        refine Ex.regSeq (ExL.pures 1 rfl ?_)
        refine ExL.free (by first | exact fr_add64 rfl rfl rfl (by omega) | exact fr_add rfl rfl rfl) rfl rfl rfl ?_
        refine ExL.pures 1 rfl ?_
        refine ExL.nil ?_
        refine Ex.block ?_
        refine Ex.loopK (X := Nat) (fun j => [(9, .int .i64 (j : Int))]) (fun j => [.row (.slice (some ⟨r9, 0, none⟩) l.length l.length) 4 1 l.length ((canP (fitsF s l f) l.length K.length j).flatMap eB)]) (fun j => K.length + 1 ≤ j ∧ j ≤ l.length) (fun j => l.length - j) (K.length + 1) [(0, _), (1, _), (5, _), (6, _), (7, _), (8, _), (27, _), (28, _)] [_, _, _, _] 5 [0, 1, 2, 3, 4] ⟨agI (by omega), trivial⟩ ⟨rfl, rfl, rfl, rfl, rfl, rfl, rfl, rfl, trivial⟩ (pkR (canP_zero rfl)) rfl ⟨by omega, by omega⟩ (fun j hI => ?_)
        have hI : K.length + 1 ≤ j ∧ j ≤ l.length := hI
        refine Ex.seq ?_
        refine Ex.regSeq (ExL.pures 3 rfl ?_)
        refine ExL.lss rfl rfl rfl rfl rfl rfl (fun h10 => ?_) (fun h10 => ?_)
        · refine ExL.nil ?_
          refine Ex.cond_t rfl ?_
          refine Ex.skip ?_
          refine Ex.seq ?_
          refine Ex.block ?_
          have hri := hL.rd (i := K.length) (by omega)
          have hrj := hL.rd (i := j) (by omega)
          refine Ex.drawM rfl ?_
          refine ExD.take (i := 0) rfl (by kernel_rfl) (pureVal_ok rfl) ((List.Sublist.refl _)) rfl rfl rfl ?_
          refine ExD.take (i := 1) rfl (by kernel_rfl) (pureVal_ok rfl) ((List.Sublist.refl _)) rfl rfl rfl ?_
          refine ExD.take (i := 2) rfl (by kernel_rfl) (pureVal_ok rfl) ((List.Sublist.refl _)) rfl rfl rfl ?_
          refine ExD.take (i := 3) rfl (by kernel_rfl) (fr_load rfl rfl rfl rfl (CellO.blk (i := 3) rfl rfl)) ((List.Sublist.refl _)) rfl rfl rfl ?_
          refine ExD.take (i := 4) rfl (by kernel_rfl) (pureVal_ok rfl) ((List.Sublist.refl _)) rfl rfl rfl ?_
          refine ExD.take (i := 5) rfl (by kernel_rfl) (fr_indexAddr (sz := 1) rfl rfl rfl rfl rfl rfl (by omega)) ((List.Sublist.refl _)) rfl rfl rfl ?_
          refine ExD.take (i := 6) rfl (by kernel_rfl) (fr_load rfl rfl rfl rfl (cellE (v := .slice (some ⟨r9, 0, none⟩) l.length l.length) (i := ↑K.length) K.length (Reads.row (i := 1) rfl) encX_len zX 0 rfl (by omega) (by rw [outX_len (by simp; omega)]; omega) outX_last (by unfold encX canR; rw [canP_len]; rfl))) ((List.Sublist.refl _)) rfl rfl rfl ?_
          refine ExD.take (i := 7) rfl (by kernel_rfl) (pureVal_ok rfl) ((List.Sublist.refl _)) rfl rfl rfl ?_
          refine ExD.take (i := 8) rfl (by kernel_rfl) (pureVal_ok rfl) ((List.Sublist.refl _)) rfl rfl rfl ?_
          refine ExD.take (i := 9) rfl (by kernel_rfl) (pureVal_ok rfl) ((List.Sublist.refl _)) rfl rfl rfl ?_
          refine ExD.take (i := 10) rfl (by kernel_rfl) (pureVal_ok rfl) ((List.Sublist.refl _)) rfl rfl rfl ?_
          refine ExD.take (i := 11) rfl (by kernel_rfl) (fr_indexAddrF (Reads.old hl) encP_len rfl rfl rfl rfl rfl rfl (by omega)) ((List.Sublist.refl _)) rfl rfl rfl ?_
          refine ExD.take (i := 12) rfl (by kernel_rfl) (fr_loadN rfl rfl rfl rfl rfl (segJ (K.length) (Reads.old hl) encP_len rfl zP (by omega) (by omega))) ((List.Sublist.refl _)) rfl rfl rfl ?_
          refine ExD.take (i := 13) rfl (by kernel_rfl) (pureVal_ok rfl) ((List.Sublist.refl _)) rfl rfl rfl ?_
          refine ExD.take (i := 14) rfl (by kernel_rfl) (pureVal_ok rfl) ((List.Sublist.refl _)) rfl rfl rfl ?_
          refine ExD.take (i := 15) rfl (by kernel_rfl) (fr_indexAddrF (Reads.old hl) encP_len rfl rfl rfl rfl rfl rfl (by omega)) ((List.Sublist.refl _)) rfl rfl rfl ?_
          refine ExD.take (i := 16) rfl (by kernel_rfl) (fr_loadN rfl rfl rfl rfl rfl (by first | exact segN (Reads.old hl) encP_len rfl zP (by omega) | exact segF (Reads.old hl) encP_len rfl zP (by omega))) ((List.Sublist.refl _)) rfl rfl rfl ?_
          refine ExD.take (i := 17) rfl (by kernel_rfl) (fr_loadN rfl rfl rfl rfl rfl (SegO.whole (i := 4) rfl)) ((List.Sublist.refl _)) rfl rfl rfl ?_
          refine ExD.op (i := 18) rfl (by kernel_rfl) rfl (op_ret rfl rfl rfl (c_counts s (by assumption) (by assumption) _ _ (by omega) (l.getD K.length zP) (l.getD j zP) f (by assumption) (by assumption) (by assumption)) (Reads.get (Reads.old hs)) rfl rfl (fun x11 hx11 => ⟨(List.Sublist.refl _), ?_⟩))
          refine ExD.take (i := 19) rfl (by kernel_rfl) (pureVal_ok rfl) ((List.Sublist.refl _)) rfl rfl rfl ?_
          refine ExD.take (i := 20) rfl (by kernel_rfl) (pureVal_ok rfl) ((List.Sublist.refl _)) rfl rfl rfl ?_
          refine ExD.take (i := 21) rfl (by kernel_rfl) (pureVal_ok rfl) ((List.Sublist.refl _)) rfl rfl rfl ?_
          refine ExD.take (i := 22) rfl (by kernel_rfl) (pureVal_ok rfl) ((List.Sublist.refl _)) rfl rfl rfl ?_
          refine ExD.take (i := 23) rfl (by kernel_rfl) (fr_indexAddr (sz := 1) rfl rfl rfl rfl rfl rfl (by omega)) ((List.Sublist.refl _)) rfl rfl rfl ?_
          refine ExD.last (i := 24) rfl (by kernel_rfl) (by kernel_rfl) rfl (op_storeRowF (i := 0) rfl rfl rfl rfl rfl rfl rfl rfl (room eB_len (k := j) (by rw [canP_len]; omega) (by simp) rfl) (List.cons_ne_nil _ _) rfl (canP_put (by omega) (by omega) (by simp) rfl) ?_)
          refine ExD.done (by kernel_rfl) ?_
          refine Ex.region (ExL.pures 1 rfl ?_)
          refine ExL.free (by first | exact fr_add64 rfl rfl rfl (by omega) | exact fr_add rfl rfl rfl) rfl rfl rfl ?_
          refine ExL.pures 1 rfl ?_
          refine ExL.nil ?_
          refine Hand.mk (j + 1) 5 [0, 1, 2, 3, 4] ⟨agI (by omega), trivial⟩ ⟨rfl, rfl, rfl, rfl, rfl, rfl, rfl, rfl, trivial⟩ (rfl) rfl (⟨by omega, by omega⟩) (by omega)
        · refine ExL.nil ?_
          refine Ex.cond_f rfl ?_
          refine Ex.exit ?_
          obtain rfl : j = l.length := (by omega)
          refine Ex.conv (layX (canP_len _ _ _ _) (perm_lt (i := 0) (j := 2) rfl rfl rfl)) ?_
          refine Ex.region (ExL.pures 0 rfl ?_)
          refine ExL.free (by first | exact fr_add64 rfl rfl rfl (by omega) | exact fr_add rfl rfl rfl) rfl rfl rfl ?_
          refine ExL.pures 1 rfl ?_
          refine ExL.nil ?_
          have hKn : (K ++ [(⟨(some ⟨r9, 0, none⟩), l.length, (canR (fitsF s l f) l.length K.length)⟩ : VX Bool)]).length = K.length + 1 := by simp
          refine Hand.mk (K ++ [(⟨(some ⟨r9, 0, none⟩), l.length, (canR (fitsF s l f) l.length K.length)⟩ : VX Bool)]) 4 [1, 0, 2, 3] ⟨agI (by rw [hKn]; rfl), trivial⟩ ⟨rfl, rfl, rfl, rfl, rfl, rfl, trivial⟩ (rfl) rfl (⟨by rw [hKn]; omega, hCK.snoc _ _⟩) (by rw [hKn]; omega)
      · refine ExL.nil ?_
        refine Ex.seq ?_
        refine Ex.cond_f rfl ?_
        refine Ex.exit ?_
        have hKn : K.length = l.length := by omega
        refine Ex.regSeq (ExL.pures 2 rfl ?_)
        refine ExL.nil ?_
        refine Ex.ret ?_
        refine RetQ.mk ⟨b7, r6, K⟩ rfl (.tmp rfl .nil) (rfl) [2, 0, 1] (by rw [outX_all hKn]; rfl) rfl (⟨hKn, hCK⟩)
end Go.Proofs.YtddflaaccmjoeaaGreatDoor
