/- Several texts, one behind the other. -/
import Derived.Test.YtekofeabooliiaaRows
import Derived.ProofKit
import Derived.SizedLaws
import Derived.Test.YtekofeabooliiaaProg
import Derived.Test.YtekofeabooliiaaXaa
import Derived.Test.YtekofeabooliiaaXab
import Derived.Test.YtekofeabooliiaaXac
/- The head of the dump as a list of words, and what the claims ask of it. -/
namespace Go.Proofs.Ytekofeabooliiaa
open Go Go.RowKit
set_option maxRecDepth 100000
theorem words_cons (s : List Char) : ∀ w : List Char, w.all (· != Char.ofNat 32) = true → wordsSigns (w ++ Char.ofNat 32 :: s) = w :: wordsSigns s
  | [], _ => rfl
  | c :: w, h => by
    simp only [List.all_cons, Bool.and_eq_true, bne_iff_ne, ne_eq] at h
    have ih := words_cons s w h.2
    show wordsSigns (c :: (w ++ Char.ofNat 32 :: s)) = _
    conv => lhs; unfold wordsSigns
    split
    · next e => cases e
    · next e => injection e with e1 e2; exact absurd e1 h.1
    · next c' r' _ e => injection e with e1 e2; subst e1; subst e2; rw [ih]
theorem io : Try.pinned.checked.prog.initOrder.toList = [Char.ofNat 104, Char.ofNat 97, Char.ofNat 114, Char.ofNat 110, Char.ofNat 101, Char.ofNat 115, Char.ofNat 115] ++ Char.ofNat 32 :: ([Char.ofNat 51, Char.ofNat 99, Char.ofNat 51, Char.ofNat 102, Char.ofNat 57, Char.ofNat 52, Char.ofNat 57, Char.ofNat 51, Char.ofNat 51, Char.ofNat 50, Char.ofNat 100, Char.ofNat 57, Char.ofNat 56, Char.ofNat 102, Char.ofNat 55, Char.ofNat 100, Char.ofNat 97, Char.ofNat 55, Char.ofNat 99, Char.ofNat 99, Char.ofNat 54, Char.ofNat 49, Char.ofNat 101, Char.ofNat 51, Char.ofNat 51, Char.ofNat 99, Char.ofNat 102, Char.ofNat 101, Char.ofNat 49, Char.ofNat 102, Char.ofNat 48, Char.ofNat 99, Char.ofNat 102, Char.ofNat 57, Char.ofNat 51, Char.ofNat 51, Char.ofNat 102, Char.ofNat 102, Char.ofNat 57, Char.ofNat 100, Char.ofNat 48, Char.ofNat 48, Char.ofNat 57, Char.ofNat 51, Char.ofNat 50, Char.ofNat 51, Char.ofNat 49, Char.ofNat 54, Char.ofNat 56, Char.ofNat 55, Char.ofNat 102, Char.ofNat 102, Char.ofNat 55, Char.ofNat 97, Char.ofNat 50, Char.ofNat 98, Char.ofNat 57, Char.ofNat 57, Char.ofNat 53, Char.ofNat 51, Char.ofNat 57, Char.ofNat 98, Char.ofNat 52, Char.ofNat 98] ++ Char.ofNat 32 :: ([Char.ofNat 99, Char.ofNat 117, Char.ofNat 116] ++ Char.ofNat 32 :: [Char.ofNat 97, Char.ofNat 116, Char.ofNat 32, Char.ofNat 108, Char.ofNat 111, Char.ofNat 111, Char.ofNat 112, Char.ofNat 46, Char.ofNat 101, Char.ofNat 120, Char.ofNat 97, Char.ofNat 109, Char.ofNat 112, Char.ofNat 108, Char.ofNat 101, Char.ofNat 47, Char.ofNat 103, Char.ofNat 48, Char.ofNat 49, Char.ofNat 50, Char.ofNat 55, Char.ofNat 56, Char.ofNat 47, Char.ofNat 108, Char.ofNat 97, Char.ofNat 119, Char.ofNat 115, Char.ofNat 46, Char.ofNat 70, Char.ofNat 110, Char.ofNat 69, Char.ofNat 120, Char.ofNat 97, Char.ofNat 99, Char.ofNat 116, Char.ofNat 77, Char.ofNat 101, Char.ofNat 114, Char.ofNat 103, Char.ofNat 101, Char.ofNat 84, Char.ofNat 111, Char.ofNat 116, Char.ofNat 97, Char.ofNat 108, Char.ofNat 115])) := by
  have h : Try.pinned.checked.prog.initOrder = String.ofList ([Char.ofNat 104, Char.ofNat 97, Char.ofNat 114, Char.ofNat 110, Char.ofNat 101, Char.ofNat 115, Char.ofNat 115] ++ Char.ofNat 32 :: ([Char.ofNat 51, Char.ofNat 99, Char.ofNat 51, Char.ofNat 102, Char.ofNat 57, Char.ofNat 52, Char.ofNat 57, Char.ofNat 51, Char.ofNat 51, Char.ofNat 50, Char.ofNat 100, Char.ofNat 57, Char.ofNat 56, Char.ofNat 102, Char.ofNat 55, Char.ofNat 100, Char.ofNat 97, Char.ofNat 55, Char.ofNat 99, Char.ofNat 99, Char.ofNat 54, Char.ofNat 49, Char.ofNat 101, Char.ofNat 51, Char.ofNat 51, Char.ofNat 99, Char.ofNat 102, Char.ofNat 101, Char.ofNat 49, Char.ofNat 102, Char.ofNat 48, Char.ofNat 99, Char.ofNat 102, Char.ofNat 57, Char.ofNat 51, Char.ofNat 51, Char.ofNat 102, Char.ofNat 102, Char.ofNat 57, Char.ofNat 100, Char.ofNat 48, Char.ofNat 48, Char.ofNat 57, Char.ofNat 51, Char.ofNat 50, Char.ofNat 51, Char.ofNat 49, Char.ofNat 54, Char.ofNat 56, Char.ofNat 55, Char.ofNat 102, Char.ofNat 102, Char.ofNat 55, Char.ofNat 97, Char.ofNat 50, Char.ofNat 98, Char.ofNat 57, Char.ofNat 57, Char.ofNat 53, Char.ofNat 51, Char.ofNat 57, Char.ofNat 98, Char.ofNat 52, Char.ofNat 98] ++ Char.ofNat 32 :: ([Char.ofNat 99, Char.ofNat 117, Char.ofNat 116] ++ Char.ofNat 32 :: [Char.ofNat 97, Char.ofNat 116, Char.ofNat 32, Char.ofNat 108, Char.ofNat 111, Char.ofNat 111, Char.ofNat 112, Char.ofNat 46, Char.ofNat 101, Char.ofNat 120, Char.ofNat 97, Char.ofNat 109, Char.ofNat 112, Char.ofNat 108, Char.ofNat 101, Char.ofNat 47, Char.ofNat 103, Char.ofNat 48, Char.ofNat 49, Char.ofNat 50, Char.ofNat 55, Char.ofNat 56, Char.ofNat 47, Char.ofNat 108, Char.ofNat 97, Char.ofNat 119, Char.ofNat 115, Char.ofNat 46, Char.ofNat 70, Char.ofNat 110, Char.ofNat 69, Char.ofNat 120, Char.ofNat 97, Char.ofNat 99, Char.ofNat 116, Char.ofNat 77, Char.ofNat 101, Char.ofNat 114, Char.ofNat 103, Char.ofNat 101, Char.ofNat 84, Char.ofNat 111, Char.ofNat 116, Char.ofNat 97, Char.ofNat 108, Char.ofNat 115]))) := by kernel_rfl
  rw [h, String.toList_ofList]
theorem io_words : ∃ rest, wordsSigns Try.pinned.checked.prog.initOrder.toList = [Char.ofNat 104, Char.ofNat 97, Char.ofNat 114, Char.ofNat 110, Char.ofNat 101, Char.ofNat 115, Char.ofNat 115] :: [Char.ofNat 51, Char.ofNat 99, Char.ofNat 51, Char.ofNat 102, Char.ofNat 57, Char.ofNat 52, Char.ofNat 57, Char.ofNat 51, Char.ofNat 51, Char.ofNat 50, Char.ofNat 100, Char.ofNat 57, Char.ofNat 56, Char.ofNat 102, Char.ofNat 55, Char.ofNat 100, Char.ofNat 97, Char.ofNat 55, Char.ofNat 99, Char.ofNat 99, Char.ofNat 54, Char.ofNat 49, Char.ofNat 101, Char.ofNat 51, Char.ofNat 51, Char.ofNat 99, Char.ofNat 102, Char.ofNat 101, Char.ofNat 49, Char.ofNat 102, Char.ofNat 48, Char.ofNat 99, Char.ofNat 102, Char.ofNat 57, Char.ofNat 51, Char.ofNat 51, Char.ofNat 102, Char.ofNat 102, Char.ofNat 57, Char.ofNat 100, Char.ofNat 48, Char.ofNat 48, Char.ofNat 57, Char.ofNat 51, Char.ofNat 50, Char.ofNat 51, Char.ofNat 49, Char.ofNat 54, Char.ofNat 56, Char.ofNat 55, Char.ofNat 102, Char.ofNat 102, Char.ofNat 55, Char.ofNat 97, Char.ofNat 50, Char.ofNat 98, Char.ofNat 57, Char.ofNat 57, Char.ofNat 53, Char.ofNat 51, Char.ofNat 57, Char.ofNat 98, Char.ofNat 52, Char.ofNat 98] :: [Char.ofNat 99, Char.ofNat 117, Char.ofNat 116] :: rest := by
  rw [io, words_cons _ _ (by decide), words_cons _ _ (by decide), words_cons _ _ (by decide)]; exact ⟨_, rfl⟩
theorem io_main : ∃ rest, behindMainWord (wordsSigns Try.pinned.checked.prog.initOrder.toList) = [Char.ofNat 99, Char.ofNat 117, Char.ofNat 116] :: rest := by
  obtain ⟨rest, h⟩ := io_words; rw [h]; exact ⟨rest, by kernel_rfl⟩
theorem head_of {P : Program} {rest : List (List Char)} (h : behindMainWord (wordsSigns P.initOrder.toList) = [Char.ofNat 99, Char.ofNat 117, Char.ofNat 116] :: rest) : P.headLifts = [] := by
  unfold Program.headLifts; rw [h]; kernel_rfl
theorem lifts_of {P : Program} {rest : List (List Char)} (h : behindMainWord (wordsSigns P.initOrder.toList) = [Char.ofNat 99, Char.ofNat 117, Char.ofNat 116] :: rest) : P.liftsFinal = false := by
  unfold Program.liftsFinal; rw [head_of h, h]; kernel_rfl
theorem make_of {P : Program} {rest : List (List Char)} (h : behindMainWord (wordsSigns P.initOrder.toList) = [Char.ofNat 99, Char.ofNat 117, Char.ofNat 116] :: rest) : P.make = some .cut := by
  unfold Program.make; rw [head_of h, h]; kernel_rfl
theorem enter_of {P : Program} {rest : List (List Char)} (h : behindMainWord (wordsSigns P.initOrder.toList) = [Char.ofNat 99, Char.ofNat 117, Char.ofNat 116] :: rest) (h1 : P.laysLater = false) (h2 : P.bearsReflect = false) (h3 : P.doorFits [] = true) : P.mayEnter = true := by
  unfold Program.mayEnter; rw [h, h1, h2]
  have e : stripLifts liftWords ([Char.ofNat 99, Char.ofNat 117, Char.ofNat 116] :: rest) = ([], [Char.ofNat 99, Char.ofNat 117, Char.ofNat 116] :: rest) := by kernel_rfl
  simp only [e, h3]; rfl
theorem io_lifts : Try.pinned.checked.prog.liftsFinal = false := by obtain ⟨rest, h⟩ := io_main; exact lifts_of h
theorem io_make : Try.pinned.checked.prog.make = some .cut := by obtain ⟨rest, h⟩ := io_main; exact make_of h
theorem io_later : Try.pinned.checked.prog.laysLater = false := by kernel_rfl
theorem io_reflect : Try.pinned.checked.prog.bearsReflect = false := by kernel_rfl
theorem io_door : Try.pinned.checked.prog.doorFits [] = true := by kernel_rfl
theorem io_enter : Try.pinned.checked.prog.mayEnter = true := by obtain ⟨rest, h⟩ := io_main; exact enter_of h io_later io_reflect io_door
end Go.Proofs.Ytekofeabooliiaa

/- Arguments, opened by their types. -/
namespace Go.Proofs.Ytekofeabooliiaa
open Go Go.Sx Go.W Go.RowKit
set_option maxRecDepth 100000
theorem o_Total {W : World} {cs : List Value} (h : Cl Try.prog W 35 cs) : ∃ a : VP, cs = encP a ∧ OkP a := by
  obtain ⟨hl, hf⟩ := h.struct rfl
  have hl' : cs.length = 2 := hl
  match cs, hl' with
  | [c0, c1], _ =>
    obtain ⟨x0, e0, w0⟩ := Cl.int (cs := [c0]) rfl (hf _ (.head _))
    have b0 := bounds_i64 w0
    have f0 : [c0] = [.int .i64 x0] := e0
    obtain ⟨x1, e1, w1⟩ := Cl.int (cs := [c1]) rfl (hf _ (.tail _ (.head _)))
    have b1 := bounds_i64 w1
    have f1 : [c1] = [.int .i64 x1] := e1
    cases f0; cases f1
    exact ⟨⟨x0, x1⟩, rfl, b0, b1⟩
theorem o_TotalS {W : World} {cs : List Value} (h : Cl Try.prog W 22 cs) : ∃ (A : Option Addr) (c : Nat) (s : List VP), cs = [.slice A s.length c] ∧ s.length ≤ maxLen ∧ (∀ k ∈ s, OkP k) ∧ Rd W A (s.flatMap (encP)) := by
  obtain ⟨A, n, c, e, hn, els, hlen, hall, hr⟩ := h.slice rfl (of_decide_eq_true (by kernel_rfl))
  obtain ⟨s, e2, l2, p2⟩ := each (f := encP) (p := fun k => OkP k) (fun x hx => by obtain ⟨k, e, w⟩ := o_Total (hall x hx).2; exact ⟨k, e, w⟩)
  rw [e2] at hr
  obtain rfl : n = s.length := by omega
  exact ⟨A, c, s, e, hn, p2, hr⟩
end Go.Proofs.Ytekofeabooliiaa

/- What these functions of the program hand back, each proved by walking its operations. -/
set_option linter.unusedVariables false
set_option linter.unusedSimpArgs false
set_option maxRecDepth 4000
namespace Go.Proofs.Ytekofeabooliiaa
open Go Go.Sx Go.RowKit Go.W Go.Proofs
attribute [local irreducible] Ex ExL ExD Op1 Free RetQ MutQ Reads CellO SegO LoadsAs
theorem e_20 : Enters Try.prog 20 := Enters.of Try.func20 rfl
theorem c_l00In (a b c : Int) : Ret Try.prog 20 [.int .i64 a, .int .i64 b, .int .i64 c] (fun w => True) (fun x : Unit => .bool (decide (b ≤ a ∧ a ≤ c))) (fun x => []) (fun x => True) := by
  refine Ret.of e_20 Try.func20 rfl Try.ntmps20 rfl rfl (fun w hpre => ?_)
  refine Ex.regSeq (ExL.pures 1 rfl ?_)
  refine ExL.nil ?_
  refine Ex.regSeq (ExL.pures 2 rfl ?_)
  refine ExL.geq rfl rfl rfl rfl rfl rfl (fun h1 => ?_) (fun h1 => ?_)
  · refine ExL.pures 3 rfl ?_
    refine ExL.leq rfl rfl rfl rfl rfl rfl (fun h2 => ?_) (fun h2 => ?_)
    · refine ExL.pures 2 rfl ?_
      refine ExL.nil ?_
      refine Ex.ret ?_
      refine RetQ.mk () rfl (.tmp rfl .nil) (tB (by simp; omega)) [] (rfl) rfl (trivial)
    · refine ExL.pures 2 rfl ?_
      refine ExL.nil ?_
      refine Ex.ret ?_
      refine RetQ.mk () rfl (.tmp rfl .nil) (tB (by simp; omega)) [] (rfl) rfl (trivial)
  · refine ExL.pures 6 rfl ?_
    refine ExL.nil ?_
    refine Ex.ret ?_
    refine RetQ.mk () rfl (.tmp rfl .nil) (tB (by simp; omega)) [] (rfl) rfl (trivial)
theorem e_22 : Enters Try.prog 22 := Enters.of Try.func22 rfl
theorem c_within (a b c : Int) : Ret Try.prog 22 [.int .i64 a, .int .i64 b, .int .i64 c] (fun w => True) (fun x : Unit => .bool (decide (b ≤ a ∧ a ≤ c))) (fun x => []) (fun x => True) := by
  refine Ret.of e_22 Try.func22 rfl Try.ntmps22 rfl rfl (fun w hpre => ?_)
  refine Ex.regSeq (ExL.pures 1 rfl ?_)
  refine ExL.nil ?_
  refine Ex.regSeq (ExL.pures 2 rfl ?_)
  refine ExL.leq rfl rfl rfl rfl rfl rfl (fun h1 => ?_) (fun h1 => ?_)
  · refine ExL.pures 3 rfl ?_
    refine ExL.leq rfl rfl rfl rfl rfl rfl (fun h2 => ?_) (fun h2 => ?_)
    · refine ExL.pures 2 rfl ?_
      refine ExL.nil ?_
      refine Ex.ret ?_
      refine RetQ.mk () rfl (.tmp rfl .nil) (tB (by simp; omega)) [] (rfl) rfl (trivial)
    · refine ExL.pures 2 rfl ?_
      refine ExL.nil ?_
      refine Ex.ret ?_
      refine RetQ.mk () rfl (.tmp rfl .nil) (tB (by simp; omega)) [] (rfl) rfl (trivial)
  · refine ExL.pures 6 rfl ?_
    refine ExL.nil ?_
    refine Ex.ret ?_
    refine RetQ.mk () rfl (.tmp rfl .nil) (tB (by simp; omega)) [] (rfl) rfl (trivial)
end Go.Proofs.Ytekofeabooliiaa

/- What these functions of the program hand back, each proved by walking its operations. -/
set_option linter.unusedVariables false
set_option linter.unusedSimpArgs false
set_option maxRecDepth 4000
namespace Go.Proofs.Ytekofeabooliiaa
open Go Go.Sx Go.RowKit Go.W Go.Proofs
attribute [local irreducible] Ex ExL ExD Op1 Free RetQ MutQ Reads CellO SegO LoadsAs
end Go.Proofs.Ytekofeabooliiaa

/- What these functions of the program hand back, each proved by walking its operations. -/
set_option linter.unusedVariables false
set_option linter.unusedSimpArgs false
set_option maxRecDepth 4000
namespace Go.Proofs.Ytekofeabooliiaa
open Go Go.Sx Go.RowKit Go.W Go.Proofs
attribute [local irreducible] Ex ExL ExD Op1 Free RetQ MutQ Reads CellO SegO LoadsAs
end Go.Proofs.Ytekofeabooliiaa

/- What these functions of the program hand back, each proved by walking its operations. -/
set_option linter.unusedVariables false
set_option linter.unusedSimpArgs false
set_option maxRecDepth 4000
namespace Go.Proofs.Ytekofeabooliiaa
open Go Go.Sx Go.RowKit Go.W Go.Proofs
attribute [local irreducible] Ex ExL ExD Op1 Free RetQ MutQ Reads CellO SegO LoadsAs
end Go.Proofs.Ytekofeabooliiaa

/- What these functions of the program hand back, each proved by walking its operations. -/
set_option linter.unusedVariables false
set_option linter.unusedSimpArgs false
set_option maxRecDepth 4000
namespace Go.Proofs.Ytekofeabooliiaa
open Go Go.Sx Go.RowKit Go.W Go.Proofs
attribute [local irreducible] Ex ExL ExD Op1 Free RetQ MutQ Reads CellO SegO LoadsAs
end Go.Proofs.Ytekofeabooliiaa

/- What these functions of the program hand back, each proved by walking its operations. -/
set_option linter.unusedVariables false
set_option linter.unusedSimpArgs false
set_option maxRecDepth 4000
namespace Go.Proofs.Ytekofeabooliiaa
open Go Go.Sx Go.RowKit Go.W Go.Proofs
attribute [local irreducible] Ex ExL ExD Op1 Free RetQ MutQ Reads CellO SegO LoadsAs
end Go.Proofs.Ytekofeabooliiaa

/- What these functions of the program hand back, each proved by walking its operations. -/
set_option linter.unusedVariables false
set_option linter.unusedSimpArgs false
set_option maxRecDepth 4000
namespace Go.Proofs.Ytekofeabooliiaa
open Go Go.Sx Go.RowKit Go.W Go.Proofs
attribute [local irreducible] Ex ExL ExD Op1 Free RetQ MutQ Reads CellO SegO LoadsAs
end Go.Proofs.Ytekofeabooliiaa

/- What these functions of the program hand back, each proved by walking its operations. -/
set_option linter.unusedVariables false
set_option linter.unusedSimpArgs false
set_option maxRecDepth 4000
namespace Go.Proofs.Ytekofeabooliiaa
open Go Go.Sx Go.RowKit Go.W Go.Proofs
attribute [local irreducible] Ex ExL ExD Op1 Free RetQ MutQ Reads CellO SegO LoadsAs
theorem e_4 : Enters Try.prog 4 := Enters.of Try.func4 rfl
theorem c_szTotalS (s : List VP) (As : Option Addr) (cs : Nat) (hls : s.length ≤ maxLen) (n : Int) (hn : 0 ≤ n ∧ n ≤ 1048576) : Ret Try.prog 4 [.slice As s.length cs, .int .i64 n] (fun w => True) (fun x : Int => .int .i64 x) (fun x => []) (fun x => x ≤ n ∧ (0 ≤ x → x = n - (s.length : Int))) := by
  refine Ret.of e_4 Try.func4 rfl Try.ntmps4 rfl rfl (fun w hpre => ?_)
  have hm0 : maxLen = 9223372036854775807 := rfl
  refine Ex.regSeq (ExL.pures 1 rfl ?_)
  refine ExL.nil ?_
  refine Ex.regSeq (ExL.pures 3 rfl ?_)
  refine ExL.free (by first | exact fr_sub64 rfl rfl rfl (by omega) | exact fr_sub rfl rfl rfl) rfl rfl rfl ?_
  refine ExL.pures 1 rfl ?_
  refine ExL.nil ?_
  refine Ex.seq ?_
  refine Ex.regSeq (ExL.pures 1 rfl ?_)
  refine ExL.lss rfl rfl rfl rfl rfl rfl (fun h1 => ?_) (fun h1 => ?_)
  · refine ExL.nil ?_
    refine Ex.cond_t rfl ?_
    refine Ex.regSeq (ExL.pures 1 rfl ?_)
    refine ExL.nil ?_
    refine Ex.ret ?_
    refine RetQ.mk _ rfl (.tmp rfl .nil) (rfl) [] (rfl) rfl (by first | omega | (simp; omega))
  · refine ExL.nil ?_
    refine Ex.cond_f rfl ?_
    refine Ex.skip ?_
    refine Ex.regSeq (ExL.pures 2 rfl ?_)
    refine ExL.nil ?_
    refine Ex.ret ?_
    refine RetQ.mk _ rfl (.tmp rfl .nil) (rfl) [] (rfl) rfl (by first | omega | (simp; omega))
theorem e_12 : Enters Try.prog 12 := Enters.of Try.func12 rfl
theorem c_toTotal (a : VP) : Ret Try.prog 12 [.agg (encP a).toArray] (fun w => True) (fun x : Unit => .agg (encP a).toArray) (fun x => []) (fun x => True) := by
  refine Ret.of e_12 Try.func12 rfl Try.ntmps12 rfl rfl (fun w hpre => ?_)
  refine Ex.regSeq (ExL.pures 0 rfl ?_)
  refine ExL.op rfl (op_box rfl rfl rfl rfl rfl (fun b1 => ?_))
  refine ExL.op rfl (op_alloc rfl rfl rfl rfl rfl (fun b2 => ?_))
  refine ExL.nil ?_
  refine Ex.regSeq (ExL.pures 0 rfl ?_)
  refine ExL.op rfl (op_alloc rfl rfl rfl rfl rfl (fun b3 => ?_))
  refine ExL.nil ?_
  refine Ex.regSeq (ExL.pures 1 rfl ?_)
  refine ExL.free (fr_load rfl rfl rfl rfl (CellO.blk (i := 2) rfl rfl)) rfl rfl rfl ?_
  refine ExL.pures 1 rfl ?_
  refine ExL.op rfl (op_storeC (i := 0) rfl rfl rfl rfl rfl rfl rfl rfl rfl rfl ?_)
  refine ExL.nil ?_
  refine Ex.regSeq (ExL.pures 1 rfl ?_)
  refine ExL.free (fr_load rfl rfl rfl rfl (CellO.blk (i := 2) rfl rfl)) rfl rfl rfl ?_
  refine ExL.pures 1 rfl ?_
  refine ExL.op rfl (op_storeC (i := 0) rfl rfl rfl rfl rfl rfl rfl rfl rfl rfl ?_)
  refine ExL.nil ?_
  refine Ex.regSeq (ExL.pures 0 rfl ?_)
  refine ExL.free (fr_loadN rfl rfl rfl rfl rfl (SegO.whole (i := 0) rfl)) rfl rfl rfl ?_
  refine ExL.op rfl (op_storeC (i := 1) rfl rfl rfl rfl rfl rfl rfl rfl rfl rfl ?_)
  refine ExL.nil ?_
  refine Ex.ret ?_
  refine RetQ.mk () rfl (.cell rfl (.many rfl rfl rfl (SegO.whole (i := 1) rfl)) .nil) (rfl) [] (rfl) rfl (trivial)
theorem e_6 : Enters Try.prog 6 := Enters.of Try.func6 rfl
theorem c_toTotalS (s : List VP) (As : Option Addr) (cs : Nat) (hls : s.length ≤ 1048576) : Ret Try.prog 6 [.slice As s.length cs] (fun w => Rd w As (s.flatMap encP)) (fun x : Nat => .slice (some ⟨x, 0, none⟩) s.length s.length) (fun x => [.row (.slice (some ⟨x, 0, none⟩) s.length s.length) 33 2 s.length (s.flatMap encP)]) (fun x => True) := by
  refine Ret.of e_6 Try.func6 rfl Try.ntmps6 rfl rfl (fun w hpre => ?_)
  have hs := hpre.base
  refine Ex.regSeq (ExL.pures 1 rfl ?_)
  refine ExL.nil ?_
  refine Ex.regSeq (ExL.pures 2 rfl ?_)
  refine ExL.op rfl (op_makeSlice (sz := 16) rfl rfl rfl rfl rfl rfl rfl rfl (⟨by omega, by unfold maxLen; omega⟩) rfl rfl (fun r1 => ?_))
  refine ExL.pures 1 rfl ?_
  refine ExL.nil ?_
  refine Ex.seq ?_
  refine Ex.regSeq (ExL.pures 1 rfl ?_)
  refine ExL.nil ?_
  refine Ex.block ?_
  refine Ex.loopK (X := Nat) (fun k => [(4, .int .i64 k)]) (fun k => [.row (.slice (some ⟨r1, 0, none⟩) s.length s.length) 33 2 s.length ((Sx.part zP s k).flatMap encP)]) (fun k => k ≤ s.length) (fun k => s.length - k) 0 [(0, _), (2, _), (3, _)] [] 1 [0] ⟨rfl, trivial⟩ ⟨rfl, rfl, rfl, trivial⟩ (pkR (zpart encP_len zP rfl s rfl)) rfl (Nat.zero_le _) (fun k hI => ?_)
  have hI : k ≤ s.length := hI
  refine Ex.seq ?_
  refine Ex.regSeq (ExL.pures 3 rfl ?_)
  refine ExL.lss rfl rfl rfl rfl rfl rfl (fun h2 => ?_) (fun h2 => ?_)
  · refine ExL.nil ?_
    refine Ex.cond_t rfl ?_
    refine Ex.skip ?_
    refine Ex.seq ?_
    refine Ex.block ?_
    refine Ex.region (ExL.pures 4 rfl ?_)
    refine ExL.free (fr_indexAddrF (Reads.old hs) encP_len rfl rfl rfl rfl rfl rfl (by omega)) rfl rfl rfl ?_
    refine ExL.free (fr_loadN rfl rfl rfl rfl rfl (by first | exact segN (Reads.old hs) encP_len rfl zP (by omega) | exact segF (Reads.old hs) encP_len rfl zP (by omega))) rfl rfl rfl ?_
    refine ExL.op rfl (op_ret rfl rfl rfl (c_toTotal (s.getD k zP)) (fun _ _ => trivial) rfl rfl (fun x3 hx3 => ?_))
    refine ExL.free (fr_indexAddr (sz := 2) rfl rfl rfl rfl rfl rfl (by omega)) rfl rfl rfl ?_
    refine ExL.op rfl (op_storeRow (i := 0) rfl rfl rfl rfl rfl rfl rfl rfl (room encP_len (k := k) (part_lt (by omega) (by omega)) (by first | rfl | simp) rfl) (List.cons_ne_nil _ _) rfl ?_)
    refine ExL.nil ?_
    refine Ex.region (ExL.pures 1 rfl ?_)
    refine ExL.free (by first | exact fr_add64 rfl rfl rfl (by omega) | exact fr_add rfl rfl rfl) rfl rfl rfl ?_
    refine ExL.pures 1 rfl ?_
    refine ExL.nil ?_
    refine Hand.mk (k + 1) 1 [0] ⟨rfl, trivial⟩ ⟨rfl, rfl, rfl, trivial⟩ (pkR (part_put encP_len zP zP s k (by omega) (by simp) rfl)) rfl (by omega) (by omega)
  · refine ExL.nil ?_
    refine Ex.cond_f rfl ?_
    refine Ex.exit ?_
    refine Ex.regSeq (ExL.pures 2 rfl ?_)
    refine ExL.nil ?_
    refine Ex.ret ?_
    refine RetQ.mk _ rfl (.tmp rfl .nil) (rfl) [0] (pkR (by obtain rfl : k = s.length := (by omega); rw [part_all])) rfl (trivial)
theorem e_19 : Enters Try.prog 19 := Enters.of Try.func19 rfl
theorem c_eqTotal (a b : VP) : Ret Try.prog 19 [.agg (encP a).toArray, .agg (encP b).toArray] (fun w => True) (fun x : Unit => .bool (sameP a b)) (fun x => []) (fun x => True) := by
  refine Ret.of e_19 Try.func19 rfl Try.ntmps19 rfl rfl (fun w hpre => ?_)
  refine Ex.regSeq (ExL.pures 0 rfl ?_)
  refine ExL.op rfl (op_box rfl rfl rfl rfl rfl (fun b1 => ?_))
  refine ExL.op rfl (op_box rfl rfl rfl rfl rfl (fun b2 => ?_))
  refine ExL.pures 1 rfl ?_
  refine ExL.nil ?_
  refine Ex.seq ?_
  refine Ex.regSeq (ExL.pures 1 rfl ?_)
  refine ExL.free (fr_load rfl rfl rfl rfl (CellO.blk (i := 1) rfl rfl)) rfl rfl rfl ?_
  refine ExL.pures 1 rfl ?_
  refine ExL.free (fr_load rfl rfl rfl rfl (CellO.blk (i := 0) rfl rfl)) rfl rfl rfl ?_
  refine ExL.neq rfl rfl rfl rfl rfl rfl (fun h3 => ?_) (fun h3 => ?_)
  · refine ExL.nil ?_
    refine Ex.cond_t rfl ?_
    refine Ex.regSeq (ExL.pures 1 rfl ?_)
    refine ExL.nil ?_
    refine Ex.ret ?_
    refine RetQ.mk () rfl (.tmp rfl .nil) (tB (by first | rfl | (unfold sameP; first | exact dec_t (by simp_all) | exact dec_f (by simp_all) | exact decide_eq_decide.2 (by simp_all)))) [] (rfl) rfl (trivial)
  · refine ExL.nil ?_
    refine Ex.cond_f rfl ?_
    refine Ex.skip ?_
    refine Ex.seq ?_
    refine Ex.regSeq (ExL.pures 1 rfl ?_)
    refine ExL.free (fr_load rfl rfl rfl rfl (CellO.blk (i := 1) rfl rfl)) rfl rfl rfl ?_
    refine ExL.pures 1 rfl ?_
    refine ExL.free (fr_load rfl rfl rfl rfl (CellO.blk (i := 0) rfl rfl)) rfl rfl rfl ?_
    refine ExL.neq rfl rfl rfl rfl rfl rfl (fun h4 => ?_) (fun h4 => ?_)
    · refine ExL.nil ?_
      refine Ex.cond_t rfl ?_
      refine Ex.regSeq (ExL.pures 1 rfl ?_)
      refine ExL.nil ?_
      refine Ex.ret ?_
      refine RetQ.mk () rfl (.tmp rfl .nil) (tB (by first | rfl | (unfold sameP; first | exact dec_t (by simp_all) | exact dec_f (by simp_all) | exact decide_eq_decide.2 (by simp_all)))) [] (rfl) rfl (trivial)
    · refine ExL.nil ?_
      refine Ex.cond_f rfl ?_
      refine Ex.skip ?_
      refine Ex.regSeq (ExL.pures 1 rfl ?_)
      refine ExL.nil ?_
      refine Ex.ret ?_
      refine RetQ.mk () rfl (.tmp rfl .nil) (tB (by first | rfl | (unfold sameP; first | exact dec_t (by simp_all) | exact dec_f (by simp_all) | exact decide_eq_decide.2 (by simp_all)))) [] (rfl) rfl (trivial)
theorem e_8 : Enters Try.prog 8 := Enters.of Try.func8 rfl
theorem c_eqTotalS (s : List VP) (As : Option Addr) (cs : Nat) (hls : s.length ≤ maxLen) (t : List VP) (At : Option Addr) (ct : Nat) (hlt : t.length ≤ maxLen) : Ret Try.prog 8 [.slice As s.length cs, .slice At t.length ct] (fun w => Rd w As (s.flatMap encP) ∧ Rd w At (t.flatMap encP)) (fun x : Unit => .bool (allEq sameP zP s t)) (fun x => []) (fun x => True) := by
  refine Ret.of e_8 Try.func8 rfl Try.ntmps8 rfl rfl (fun w hpre => ?_)
  have hs := hpre.1.base
  have ht := hpre.2.base
  have hm0 : maxLen = 9223372036854775807 := rfl
  refine Ex.regSeq (ExL.pures 1 rfl ?_)
  refine ExL.nil ?_
  refine Ex.seq ?_
  refine Ex.regSeq (ExL.pures 4 rfl ?_)
  refine ExL.neq rfl rfl rfl rfl rfl rfl (fun h1 => ?_) (fun h1 => ?_)
  · refine ExL.nil ?_
    refine Ex.cond_t rfl ?_
    refine Ex.regSeq (ExL.pures 1 rfl ?_)
    refine ExL.nil ?_
    refine Ex.ret ?_
    refine RetQ.mk () rfl (.tmp rfl .nil) (tB (by first | exact ae_len (by omega) | exact ae_no k (by omega) (by assumption) | exact ae_yes (k := k) (by omega) (by omega) hall)) [] (rfl) rfl (trivial)
  · refine ExL.nil ?_
    refine Ex.cond_f rfl ?_
    refine Ex.skip ?_
    refine Ex.seq ?_
    refine Ex.regSeq (ExL.pures 1 rfl ?_)
    refine ExL.nil ?_
    refine Ex.block ?_
    refine Ex.loopK (X := Nat) (fun k => [(5, .int .i64 k)]) (fun k => []) (fun k => k ≤ s.length ∧ ∀ i, i < k → sameP (s.getD i zP) (t.getD i zP) = true) (fun k => s.length - k) 0 [(0, _), (1, _)] [] 0 [] ⟨rfl, trivial⟩ ⟨rfl, rfl, trivial⟩ (rfl) rfl ⟨Nat.zero_le _, fun i hi => by omega⟩ (fun k hI => ?_)
    have hI : k ≤ s.length ∧ ∀ i, i < k → sameP (s.getD i zP) (t.getD i zP) = true := hI
    obtain ⟨hk, hall⟩ := hI
    refine Ex.seq ?_
    refine Ex.regSeq (ExL.pures 3 rfl ?_)
    refine ExL.lss rfl rfl rfl rfl rfl rfl (fun h2 => ?_) (fun h2 => ?_)
    · refine ExL.nil ?_
      refine Ex.cond_t rfl ?_
      refine Ex.skip ?_
      refine Ex.seq ?_
      refine Ex.block ?_
      refine Ex.drawSeqM rfl ?_
      refine ExD.take (i := 0) rfl (by kernel_rfl) (pureVal_ok rfl) ((List.Sublist.refl _)) rfl rfl rfl ?_
      refine ExD.take (i := 1) rfl (by kernel_rfl) (pureVal_ok rfl) ((List.Sublist.refl _)) rfl rfl rfl ?_
      refine ExD.take (i := 2) rfl (by kernel_rfl) (fr_indexAddrF (Reads.old hs) encP_len rfl rfl rfl rfl rfl rfl (by omega)) ((List.Sublist.refl _)) rfl rfl rfl ?_
      refine ExD.take (i := 3) rfl (by kernel_rfl) (fr_loadN rfl rfl rfl rfl rfl (by first | exact segN (Reads.old hs) encP_len rfl zP (by omega) | exact segF (Reads.old hs) encP_len rfl zP (by omega))) ((List.Sublist.refl _)) rfl rfl rfl ?_
      refine ExD.take (i := 4) rfl (by kernel_rfl) (pureVal_ok rfl) ((List.Sublist.refl _)) rfl rfl rfl ?_
      refine ExD.take (i := 5) rfl (by kernel_rfl) (pureVal_ok rfl) ((List.Sublist.refl _)) rfl rfl rfl ?_
      refine ExD.take (i := 6) rfl (by kernel_rfl) (fr_indexAddrF (Reads.old ht) encP_len rfl rfl rfl rfl rfl rfl (by omega)) ((List.Sublist.refl _)) rfl rfl rfl ?_
      refine ExD.take (i := 7) rfl (by kernel_rfl) (fr_loadN rfl rfl rfl rfl rfl (by first | exact segN (Reads.old ht) encP_len rfl zP (by omega) | exact segF (Reads.old ht) encP_len rfl zP (by omega))) ((List.Sublist.refl _)) rfl rfl rfl ?_
      refine ExD.op (i := 8) rfl (by kernel_rfl) rfl (op_ret rfl rfl rfl (c_eqTotal (s.getD k zP) (t.getD k zP)) (fun _ _ => trivial) rfl rfl (fun x3 hx3 => ⟨(List.Sublist.refl _), ?_⟩))
      refine ExD.take (i := 9) rfl (by kernel_rfl) (pureVal_ok rfl) ((List.Sublist.refl _)) rfl rfl rfl ?_
      refine ExD.done (by kernel_rfl) ?_
      refine Ex.cond rfl (fun hb4 => ?_) (fun hb4 => ?_)
      · replace hb4 := nb_t hb4
        refine Ex.regSeq (ExL.pures 1 rfl ?_)
        refine ExL.nil ?_
        refine Ex.ret ?_
        refine RetQ.mk () rfl (.tmp rfl .nil) (tB (by first | exact ae_len (by omega) | exact ae_no k (by omega) (by assumption) | exact ae_yes (k := k) (by omega) (by omega) hall)) [] (rfl) rfl (trivial)
      · replace hb4 := nb_f hb4
        refine Ex.skip ?_
        refine Ex.region (ExL.pures 1 rfl ?_)
        refine ExL.free (by first | exact fr_add64 rfl rfl rfl (by omega) | exact fr_add rfl rfl rfl) rfl rfl rfl ?_
        refine ExL.pures 1 rfl ?_
        refine ExL.nil ?_
        refine Hand.mk (k + 1) 0 [] ⟨rfl, trivial⟩ ⟨rfl, rfl, trivial⟩ (rfl) rfl (⟨by omega, all_snoc hall (by first | assumption | omega)⟩) (by omega)
    · refine ExL.nil ?_
      refine Ex.cond_f rfl ?_
      refine Ex.exit ?_
      refine Ex.regSeq (ExL.pures 1 rfl ?_)
      refine ExL.nil ?_
      refine Ex.ret ?_
      refine RetQ.mk () rfl (.tmp rfl .nil) (tB (by first | exact ae_len (by omega) | exact ae_no k (by omega) (by assumption) | exact ae_yes (k := k) (by omega) (by omega) hall)) [] (rfl) rfl (trivial)
theorem e_21 : Enters Try.prog 21 := Enters.of Try.func21 rfl
theorem c_l06Positive (a : Int) : Ret Try.prog 21 [.int .i64 a] (fun w => True) (fun x : Unit => .bool (decide (0 ≤ a ∧ a ≤ 1000000000000))) (fun x => []) (fun x => True) := by
  refine Ret.of e_21 Try.func21 rfl Try.ntmps21 rfl rfl (fun w hpre => ?_)
  refine Ex.regSeq (ExL.pures 1 rfl ?_)
  refine ExL.nil ?_
  refine Ex.regSeq (ExL.pures 1 rfl ?_)
  refine ExL.op rfl (op_ret rfl rfl rfl (c_l00In _ _ _) (fun _ _ => trivial) rfl rfl (fun x1 hx1 => ?_))
  refine ExL.pures 1 rfl ?_
  refine ExL.nil ?_
  refine Ex.ret ?_
  refine RetQ.mk () rfl (.tmp rfl .nil) (rfl) [] (rfl) rfl (trivial)
theorem e_11 : Enters Try.prog 11 := Enters.of Try.func11 rfl
theorem c_l06Totals (l : List VP) (Al : Option Addr) (cl : Nat) (hll : l.length ≤ maxLen) : Ret Try.prog 11 [.slice Al l.length cl] (fun w => Rd w Al (l.flatMap encP)) (fun x : Unit => .bool (validTot l)) (fun x => []) (fun x => True) := by
  refine Ret.of e_11 Try.func11 rfl Try.ntmps11 rfl rfl (fun w hpre => ?_)
  have hl := hpre.base
  have hm0 : maxLen = 9223372036854775807 := rfl
  refine Ex.regSeq (ExL.pures 1 rfl ?_)
  refine ExL.nil ?_
  refine Ex.seq ?_
  refine Ex.regSeq (ExL.pures 2 rfl ?_)
  refine ExL.gtr rfl rfl rfl rfl rfl rfl (fun h1 => ?_) (fun h1 => ?_)
  · refine ExL.nil ?_
    refine Ex.cond_t rfl ?_
    refine Ex.regSeq (ExL.pures 1 rfl ?_)
    refine ExL.nil ?_
    refine Ex.ret ?_
    refine RetQ.mk () rfl (.tmp rfl .nil) (tB (by first | exact vt_long (by omega) | exact vt_bad (k := k) (by omega) (ok_f (by first | exact .inl (by assumption) | exact .inr (.inl (by assumption)) | exact .inr (.inr ⟨by omega, by omega⟩))) | exact vt_yes (k := k) (by omega) (by omega) hall)) [] (rfl) rfl (trivial)
  · refine ExL.nil ?_
    refine Ex.cond_f rfl ?_
    refine Ex.skip ?_
    refine Ex.seq ?_
    refine Ex.regSeq (ExL.pures 1 rfl ?_)
    refine ExL.nil ?_
    refine Ex.block ?_
    refine Ex.loopK (X := Nat) (fun k => [(3, .int .i64 k)]) (fun k => []) (fun k => k ≤ l.length ∧ ∀ i, i < k → okT l i = true) (fun k => l.length - k) 0 [(0, _)] [] 0 [] ⟨rfl, trivial⟩ ⟨rfl, trivial⟩ (rfl) rfl ⟨Nat.zero_le _, fun i hi => by omega⟩ (fun k hI => ?_)
    have hI : k ≤ l.length ∧ ∀ i, i < k → okT l i = true := hI
    obtain ⟨hk, hall⟩ := hI
    refine Ex.seq ?_
    refine Ex.regSeq (ExL.pures 3 rfl ?_)
    refine ExL.lss rfl rfl rfl rfl rfl rfl (fun h2 => ?_) (fun h2 => ?_)
    · refine ExL.nil ?_
      refine Ex.cond_t rfl ?_
      refine Ex.skip ?_
      refine Ex.seq ?_
      refine Ex.block ?_
      refine Ex.seq ?_
      refine Ex.regSeq (ExL.pures 2 rfl ?_)
      refine ExL.free (fr_indexAddrF (Reads.old hl) encP_len rfl rfl rfl rfl rfl rfl (by omega)) rfl rfl rfl ?_
      refine ExL.free (fr_fieldAddrF (i := (↑k : Int).toNat) (Reads.old hl) encP_len rfl rfl rfl (by omega) rfl rfl rfl rfl) rfl rfl rfl ?_
      refine ExL.free (fr_load rfl rfl rfl rfl (by first | exact cellN (Reads.old hl) encP_len zP 0 rfl (by omega) rfl | exact cellF (Reads.old hl) encP_len zP 0 rfl (by omega) rfl)) rfl rfl rfl ?_
      refine ExL.op rfl (op_ret rfl rfl rfl (c_l00In _ _ _) (fun _ _ => trivial) rfl rfl (fun x3 hx3 => ?_))
      refine ExL.pures 2 rfl ?_
      refine ExL.bool (d := 20) rfl (fun hb4 => ?_) (fun hb4 => ?_)
      · replace hb4 := nd_t hb4
        refine ExL.pures 8 rfl ?_
        refine ExL.nil ?_
        refine Ex.cond_t rfl ?_
        refine Ex.regSeq (ExL.pures 1 rfl ?_)
        refine ExL.nil ?_
        refine Ex.ret ?_
        refine RetQ.mk () rfl (.tmp rfl .nil) (tB (by first | exact vt_long (by omega) | exact vt_bad (k := k) (by omega) (ok_f (by first | exact .inl (by assumption) | exact .inr (.inl (by assumption)) | exact .inr (.inr ⟨by omega, by omega⟩))) | exact vt_yes (k := k) (by omega) (by omega) hall)) [] (rfl) rfl (trivial)
      · replace hb4 := nd_f hb4
        refine ExL.pures 2 rfl ?_
        refine ExL.free (fr_indexAddrF (Reads.old hl) encP_len rfl rfl rfl rfl rfl rfl (by omega)) rfl rfl rfl ?_
        refine ExL.free (fr_fieldAddrF (i := (↑k : Int).toNat) (Reads.old hl) encP_len rfl rfl rfl (by omega) rfl rfl rfl rfl) rfl rfl rfl ?_
        refine ExL.free (fr_load rfl rfl rfl rfl (by first | exact cellN (Reads.old hl) encP_len zP 1 rfl (by omega) rfl | exact cellF (Reads.old hl) encP_len zP 1 rfl (by omega) rfl)) rfl rfl rfl ?_
        refine ExL.op rfl (op_ret rfl rfl rfl (c_l06Positive _) (fun _ _ => trivial) rfl rfl (fun x5 hx5 => ?_))
        refine ExL.pures 2 rfl ?_
        refine ExL.nil ?_
        refine Ex.cond rfl (fun hb6 => ?_) (fun hb6 => ?_)
        · replace hb6 := nd_t hb6
          refine Ex.regSeq (ExL.pures 1 rfl ?_)
          refine ExL.nil ?_
          refine Ex.ret ?_
          refine RetQ.mk () rfl (.tmp rfl .nil) (tB (by first | exact vt_long (by omega) | exact vt_bad (k := k) (by omega) (ok_f (by first | exact .inl (by assumption) | exact .inr (.inl (by assumption)) | exact .inr (.inr ⟨by omega, by omega⟩))) | exact vt_yes (k := k) (by omega) (by omega) hall)) [] (rfl) rfl (trivial)
        · replace hb6 := nd_f hb6
          refine Ex.skip ?_
          refine Ex.drawSeqM rfl ?_
          refine ExD.take (i := 0) rfl (by kernel_rfl) (pureVal_ok rfl) ((List.Sublist.refl _)) rfl rfl rfl ?_
          refine ExD.cmp_gtr (i := 1) rfl (by kernel_rfl) rfl rfl rfl ((List.Sublist.refl _)) rfl rfl rfl (fun h7 => ?_) (fun h7 => ?_)
          · refine ExD.take (i := 2) rfl (by kernel_rfl) (pureVal_ok rfl) ((List.Sublist.refl _)) rfl rfl rfl ?_
            refine ExD.take (i := 3) rfl (by kernel_rfl) (pureVal_ok rfl) ((List.Sublist.refl _)) rfl rfl rfl ?_
            refine ExD.take (i := 4) rfl (by kernel_rfl) (pureVal_ok rfl) ((List.Sublist.refl _)) rfl rfl rfl ?_
            refine ExD.take (i := 5) rfl (by kernel_rfl) (fr_indexAddrF (Reads.old hl) encP_len rfl rfl rfl rfl rfl rfl (by omega)) ((List.Sublist.refl _)) rfl rfl rfl ?_
            refine ExD.take (i := 6) rfl (by kernel_rfl) (fr_fieldAddrF (i := (↑k : Int).toNat) (Reads.old hl) encP_len rfl rfl rfl (by omega) rfl rfl rfl rfl) ((List.Sublist.refl _)) rfl rfl rfl ?_
            refine ExD.take (i := 7) rfl (by kernel_rfl) (fr_load rfl rfl rfl rfl (by first | exact cellN (Reads.old hl) encP_len zP 0 rfl (by omega) rfl | exact cellF (Reads.old hl) encP_len zP 0 rfl (by omega) rfl)) ((List.Sublist.refl _)) rfl rfl rfl ?_
            refine ExD.take (i := 8) rfl (by kernel_rfl) (pureVal_ok rfl) ((List.Sublist.refl _)) rfl rfl rfl ?_
            refine ExD.take (i := 9) rfl (by kernel_rfl) (pureVal_ok rfl) ((List.Sublist.refl _)) rfl rfl rfl ?_
            refine ExD.take (i := 10) rfl (by kernel_rfl) (by first | exact fr_sub64 rfl rfl rfl (by omega) | exact fr_sub rfl rfl rfl) ((List.Sublist.refl _)) rfl rfl rfl ?_
            refine ExD.take (i := 11) rfl (by kernel_rfl) (fr_indexAddrF (Reads.old hl) encP_len rfl rfl rfl rfl rfl rfl (by omega)) ((List.Sublist.refl _)) rfl rfl rfl ?_
            refine ExD.take (i := 12) rfl (by kernel_rfl) (fr_fieldAddrF (i := ((↑k - 1) : Int).toNat) (Reads.old hl) encP_len rfl rfl rfl (by omega) rfl rfl rfl rfl) ((List.Sublist.refl _)) rfl rfl rfl ?_
            refine ExD.take (i := 13) rfl (by kernel_rfl) (fr_load rfl rfl rfl rfl (cellJ ((k - 1)) (Reads.old hl) encP_len zP 0 rfl (by omega) (by omega) rfl)) ((List.Sublist.refl _)) rfl rfl rfl ?_
            refine ExD.cmp_leq (i := 14) rfl (by kernel_rfl) rfl rfl rfl ((List.Sublist.refl _)) rfl rfl rfl (fun h8 => ?_) (fun h8 => ?_)
            · refine ExD.take (i := 15) rfl (by kernel_rfl) (pureVal_ok rfl) ((List.Sublist.refl _)) rfl rfl rfl ?_
              refine ExD.pass (i := 16) rfl (by kernel_rfl) ((List.Sublist.refl _)) rfl rfl rfl ?_
              refine ExD.pass (i := 17) rfl (by kernel_rfl) ((List.Sublist.refl _)) rfl rfl rfl ?_
              refine ExD.pass (i := 18) rfl (by kernel_rfl) ((List.Sublist.refl _)) rfl rfl rfl ?_
              refine ExD.pass (i := 19) rfl (by kernel_rfl) ((List.Sublist.refl _)) rfl rfl rfl ?_
              refine ExD.pass (i := 20) rfl (by kernel_rfl) ((List.Sublist.refl _)) rfl rfl rfl ?_
              refine ExD.pass (i := 21) rfl (by kernel_rfl) ((List.Sublist.refl _)) rfl rfl rfl ?_
              refine ExD.pass (i := 22) rfl (by kernel_rfl) ((List.Sublist.refl _)) rfl rfl rfl ?_
              refine ExD.pass (i := 23) rfl (by kernel_rfl) ((List.Sublist.refl _)) rfl rfl rfl ?_
              refine ExD.pass (i := 24) rfl (by kernel_rfl) ((List.Sublist.refl _)) rfl rfl rfl ?_
              refine ExD.pass (i := 25) rfl (by kernel_rfl) ((List.Sublist.refl _)) rfl rfl rfl ?_
              refine ExD.pass (i := 26) rfl (by kernel_rfl) ((List.Sublist.refl _)) rfl rfl rfl ?_
              refine ExD.pass (i := 27) rfl (by kernel_rfl) ((List.Sublist.refl _)) rfl rfl rfl ?_
              refine ExD.take (i := 28) rfl (by kernel_rfl) (pureVal_ok rfl) ((List.Sublist.refl _)) rfl rfl rfl ?_
              refine ExD.take (i := 29) rfl (by kernel_rfl) (pureVal_ok rfl) ((List.Sublist.refl _)) rfl rfl rfl ?_
              refine ExD.done (by kernel_rfl) ?_
              refine Ex.cond_t rfl ?_
              refine Ex.regSeq (ExL.pures 1 rfl ?_)
              refine ExL.nil ?_
              refine Ex.ret ?_
              refine RetQ.mk () rfl (.tmp rfl .nil) (tB (by first | exact vt_long (by omega) | exact vt_bad (k := k) (by omega) (ok_f (by first | exact .inl (by assumption) | exact .inr (.inl (by assumption)) | exact .inr (.inr ⟨by omega, by omega⟩))) | exact vt_yes (k := k) (by omega) (by omega) hall)) [] (rfl) rfl (trivial)
            · refine ExD.take (i := 15) rfl (by kernel_rfl) (pureVal_ok rfl) ((List.Sublist.refl _)) rfl rfl rfl ?_
              refine ExD.take (i := 16) rfl (by kernel_rfl) (pureVal_ok rfl) ((List.Sublist.refl _)) rfl rfl rfl ?_
              refine ExD.take (i := 17) rfl (by kernel_rfl) (pureVal_ok rfl) ((List.Sublist.refl _)) rfl rfl rfl ?_
              refine ExD.take (i := 18) rfl (by kernel_rfl) (fr_indexAddrF (Reads.old hl) encP_len rfl rfl rfl rfl rfl rfl (by omega)) ((List.Sublist.refl _)) rfl rfl rfl ?_
              refine ExD.take (i := 19) rfl (by kernel_rfl) (fr_fieldAddrF (i := (↑k : Int).toNat) (Reads.old hl) encP_len rfl rfl rfl (by omega) rfl rfl rfl rfl) ((List.Sublist.refl _)) rfl rfl rfl ?_
              refine ExD.take (i := 20) rfl (by kernel_rfl) (fr_load rfl rfl rfl rfl (by first | exact cellN (Reads.old hl) encP_len zP 1 rfl (by omega) rfl | exact cellF (Reads.old hl) encP_len zP 1 rfl (by omega) rfl)) ((List.Sublist.refl _)) rfl rfl rfl ?_
              refine ExD.take (i := 21) rfl (by kernel_rfl) (pureVal_ok rfl) ((List.Sublist.refl _)) rfl rfl rfl ?_
              refine ExD.take (i := 22) rfl (by kernel_rfl) (pureVal_ok rfl) ((List.Sublist.refl _)) rfl rfl rfl ?_
              refine ExD.take (i := 23) rfl (by kernel_rfl) (by first | exact fr_sub64 rfl rfl rfl (by omega) | exact fr_sub rfl rfl rfl) ((List.Sublist.refl _)) rfl rfl rfl ?_
              refine ExD.take (i := 24) rfl (by kernel_rfl) (fr_indexAddrF (Reads.old hl) encP_len rfl rfl rfl rfl rfl rfl (by omega)) ((List.Sublist.refl _)) rfl rfl rfl ?_
              refine ExD.take (i := 25) rfl (by kernel_rfl) (fr_fieldAddrF (i := ((↑k - 1) : Int).toNat) (Reads.old hl) encP_len rfl rfl rfl (by omega) rfl rfl rfl rfl) ((List.Sublist.refl _)) rfl rfl rfl ?_
              refine ExD.take (i := 26) rfl (by kernel_rfl) (fr_load rfl rfl rfl rfl (cellJ ((k - 1)) (Reads.old hl) encP_len zP 1 rfl (by omega) (by omega) rfl)) ((List.Sublist.refl _)) rfl rfl rfl ?_
              refine ExD.cmp_lss (i := 27) rfl (by kernel_rfl) rfl rfl rfl ((List.Sublist.refl _)) rfl rfl rfl (fun h9 => ?_) (fun h9 => ?_)
              · refine ExD.take (i := 28) rfl (by kernel_rfl) (pureVal_ok rfl) ((List.Sublist.refl _)) rfl rfl rfl ?_
                refine ExD.take (i := 29) rfl (by kernel_rfl) (pureVal_ok rfl) ((List.Sublist.refl _)) rfl rfl rfl ?_
                refine ExD.done (by kernel_rfl) ?_
                refine Ex.cond_t rfl ?_
                refine Ex.regSeq (ExL.pures 1 rfl ?_)
                refine ExL.nil ?_
                refine Ex.ret ?_
                refine RetQ.mk () rfl (.tmp rfl .nil) (tB (by first | exact vt_long (by omega) | exact vt_bad (k := k) (by omega) (ok_f (by first | exact .inl (by assumption) | exact .inr (.inl (by assumption)) | exact .inr (.inr ⟨by omega, by omega⟩))) | exact vt_yes (k := k) (by omega) (by omega) hall)) [] (rfl) rfl (trivial)
              · refine ExD.take (i := 28) rfl (by kernel_rfl) (pureVal_ok rfl) ((List.Sublist.refl _)) rfl rfl rfl ?_
                refine ExD.take (i := 29) rfl (by kernel_rfl) (pureVal_ok rfl) ((List.Sublist.refl _)) rfl rfl rfl ?_
                refine ExD.done (by kernel_rfl) ?_
                refine Ex.cond_f rfl ?_
                refine Ex.skip ?_
                refine Ex.region (ExL.pures 1 rfl ?_)
                refine ExL.free (by first | exact fr_add64 rfl rfl rfl (by omega) | exact fr_add rfl rfl rfl) rfl rfl rfl ?_
                refine ExL.pures 1 rfl ?_
                refine ExL.nil ?_
                refine Hand.mk (k + 1) 0 [] ⟨rfl, trivial⟩ ⟨rfl, trivial⟩ (rfl) rfl (⟨by omega, all_snoc hall (ok_t (by omega) (by omega) (by omega))⟩) (by omega)
          · refine ExD.take (i := 2) rfl (by kernel_rfl) (pureVal_ok rfl) ((List.Sublist.refl _)) rfl rfl rfl ?_
            refine ExD.pass (i := 3) rfl (by kernel_rfl) ((List.Sublist.refl _)) rfl rfl rfl ?_
            refine ExD.pass (i := 4) rfl (by kernel_rfl) ((List.Sublist.refl _)) rfl rfl rfl ?_
            refine ExD.pass (i := 5) rfl (by kernel_rfl) ((List.Sublist.refl _)) rfl rfl rfl ?_
            refine ExD.pass (i := 6) rfl (by kernel_rfl) ((List.Sublist.refl _)) rfl rfl rfl ?_
            refine ExD.pass (i := 7) rfl (by kernel_rfl) ((List.Sublist.refl _)) rfl rfl rfl ?_
            refine ExD.pass (i := 8) rfl (by kernel_rfl) ((List.Sublist.refl _)) rfl rfl rfl ?_
            refine ExD.pass (i := 9) rfl (by kernel_rfl) ((List.Sublist.refl _)) rfl rfl rfl ?_
            refine ExD.pass (i := 10) rfl (by kernel_rfl) ((List.Sublist.refl _)) rfl rfl rfl ?_
            refine ExD.pass (i := 11) rfl (by kernel_rfl) ((List.Sublist.refl _)) rfl rfl rfl ?_
            refine ExD.pass (i := 12) rfl (by kernel_rfl) ((List.Sublist.refl _)) rfl rfl rfl ?_
            refine ExD.pass (i := 13) rfl (by kernel_rfl) ((List.Sublist.refl _)) rfl rfl rfl ?_
            refine ExD.pass (i := 14) rfl (by kernel_rfl) ((List.Sublist.refl _)) rfl rfl rfl ?_
            refine ExD.pass (i := 15) rfl (by kernel_rfl) ((List.Sublist.refl _)) rfl rfl rfl ?_
            refine ExD.pass (i := 16) rfl (by kernel_rfl) ((List.Sublist.refl _)) rfl rfl rfl ?_
            refine ExD.pass (i := 17) rfl (by kernel_rfl) ((List.Sublist.refl _)) rfl rfl rfl ?_
            refine ExD.pass (i := 18) rfl (by kernel_rfl) ((List.Sublist.refl _)) rfl rfl rfl ?_
            refine ExD.pass (i := 19) rfl (by kernel_rfl) ((List.Sublist.refl _)) rfl rfl rfl ?_
            refine ExD.pass (i := 20) rfl (by kernel_rfl) ((List.Sublist.refl _)) rfl rfl rfl ?_
            refine ExD.pass (i := 21) rfl (by kernel_rfl) ((List.Sublist.refl _)) rfl rfl rfl ?_
            refine ExD.pass (i := 22) rfl (by kernel_rfl) ((List.Sublist.refl _)) rfl rfl rfl ?_
            refine ExD.pass (i := 23) rfl (by kernel_rfl) ((List.Sublist.refl _)) rfl rfl rfl ?_
            refine ExD.pass (i := 24) rfl (by kernel_rfl) ((List.Sublist.refl _)) rfl rfl rfl ?_
            refine ExD.pass (i := 25) rfl (by kernel_rfl) ((List.Sublist.refl _)) rfl rfl rfl ?_
            refine ExD.pass (i := 26) rfl (by kernel_rfl) ((List.Sublist.refl _)) rfl rfl rfl ?_
            refine ExD.pass (i := 27) rfl (by kernel_rfl) ((List.Sublist.refl _)) rfl rfl rfl ?_
            refine ExD.pass (i := 28) rfl (by kernel_rfl) ((List.Sublist.refl _)) rfl rfl rfl ?_
            refine ExD.take (i := 29) rfl (by kernel_rfl) (pureVal_ok rfl) ((List.Sublist.refl _)) rfl rfl rfl ?_
            refine ExD.done (by kernel_rfl) ?_
            refine Ex.cond_f rfl ?_
            refine Ex.skip ?_
            refine Ex.region (ExL.pures 1 rfl ?_)
            refine ExL.free (by first | exact fr_add64 rfl rfl rfl (by omega) | exact fr_add rfl rfl rfl) rfl rfl rfl ?_
            refine ExL.pures 1 rfl ?_
            refine ExL.nil ?_
            refine Hand.mk (k + 1) 0 [] ⟨rfl, trivial⟩ ⟨rfl, trivial⟩ (rfl) rfl (⟨by omega, all_snoc hall (ok_t (by omega) (by omega) (by omega))⟩) (by omega)
    · refine ExL.nil ?_
      refine Ex.cond_f rfl ?_
      refine Ex.exit ?_
      refine Ex.regSeq (ExL.pures 1 rfl ?_)
      refine ExL.nil ?_
      refine Ex.ret ?_
      refine RetQ.mk () rfl (.tmp rfl .nil) (tB (by first | exact vt_long (by omega) | exact vt_bad (k := k) (by omega) (ok_f (by first | exact .inl (by assumption) | exact .inr (.inl (by assumption)) | exact .inr (.inr ⟨by omega, by omega⟩))) | exact vt_yes (k := k) (by omega) (by omega) hall)) [] (rfl) rfl (trivial)
theorem e_13 : Enters Try.prog 13 := Enters.of Try.func13 rfl
theorem c_ValidTotals (l : List VP) (Al : Option Addr) (cl : Nat) (hll : l.length ≤ maxLen) : Ret Try.prog 13 [.slice Al l.length cl] (fun w => Rd w Al (l.flatMap encP)) (fun x : Unit => .bool (validTot l)) (fun x => []) (fun x => True) := by
  refine Ret.of e_13 Try.func13 rfl Try.ntmps13 rfl rfl (fun w hpre => ?_)
  have hl := hpre.base
  have hm0 : maxLen = 9223372036854775807 := rfl
  refine Ex.regSeq (ExL.pures 1 rfl ?_)
  refine ExL.nil ?_
  refine Ex.seq ?_
  refine Ex.regSeq (ExL.pures 2 rfl ?_)
  refine ExL.gtr rfl rfl rfl rfl rfl rfl (fun h1 => ?_) (fun h1 => ?_)
  · refine ExL.nil ?_
    refine Ex.cond_t rfl ?_
    refine Ex.regSeq (ExL.pures 1 rfl ?_)
    refine ExL.nil ?_
    refine Ex.ret ?_
    refine RetQ.mk () rfl (.tmp rfl .nil) (tB (by first | exact vt_long (by omega) | exact vt_bad (k := k) (by omega) (ok_f (by first | exact .inl (by assumption) | exact .inr (.inl (by assumption)) | exact .inr (.inr ⟨by omega, by omega⟩))) | exact vt_yes (k := k) (by omega) (by omega) hall)) [] (rfl) rfl (trivial)
  · refine ExL.nil ?_
    refine Ex.cond_f rfl ?_
    refine Ex.skip ?_
    refine Ex.seq ?_
    refine Ex.regSeq (ExL.pures 3 rfl ?_)
    refine ExL.nil ?_
    refine Ex.block ?_
    refine Ex.loopK (X := Nat) (fun k => [(10, .int .i64 k)]) (fun k => []) (fun k => k ≤ l.length ∧ ∀ i, i < k → okT l i = true) (fun k => l.length - k) 0 [(0, _), (8, _), (9, _)] [] 0 [] ⟨rfl, trivial⟩ ⟨rfl, rfl, rfl, trivial⟩ (rfl) rfl ⟨Nat.zero_le _, fun i hi => by omega⟩ (fun k hI => ?_)
    have hI : k ≤ l.length ∧ ∀ i, i < k → okT l i = true := hI
    obtain ⟨hk, hall⟩ := hI
    refine Ex.regSeq (ExL.pures 0 rfl ?_)
    refine ExL.lss rfl rfl rfl rfl rfl rfl (fun h2 => ?_) (fun h2 => ?_)
    · refine ExL.nil ?_
      refine Ex.seq ?_
      refine Ex.cond_t rfl ?_
      refine Ex.skip ?_
      refine Ex.seq ?_
      refine Ex.block ?_
      refine Ex.regSeq (ExL.pures 1 rfl ?_)
      refine ExL.free (fr_indexAddrF (Reads.old hl) encP_len rfl rfl rfl rfl rfl rfl (by omega)) rfl rfl rfl ?_
      refine ExL.free (fr_loadN rfl rfl rfl rfl rfl (by first | exact segN (Reads.old hl) encP_len rfl zP (by omega) | exact segF (Reads.old hl) encP_len rfl zP (by omega))) rfl rfl rfl ?_
      refine ExL.op rfl (op_alloc rfl rfl rfl rfl rfl (fun b3 => ?_))
      refine ExL.pures 1 rfl ?_
      refine ExL.op rfl (op_storeC (i := 0) rfl rfl rfl rfl rfl rfl rfl rfl rfl rfl ?_)
      refine ExL.nil ?_
      refine Ex.drawSeqM rfl ?_
      refine ExD.take (i := 0) rfl (by kernel_rfl) (pureVal_ok rfl) ((List.Sublist.refl _)) rfl rfl rfl ?_
      refine ExD.take (i := 1) rfl (by kernel_rfl) (fr_load rfl rfl rfl rfl (CellO.blk (i := 0) rfl rfl)) ((List.Sublist.refl _)) rfl rfl rfl ?_
      refine ExD.op (i := 2) rfl (by kernel_rfl) rfl (op_ret rfl rfl rfl (c_within _ _ _) (fun _ _ => trivial) rfl rfl (fun x4 hx4 => ⟨(List.Sublist.refl _), ?_⟩))
      refine ExD.take (i := 3) rfl (by kernel_rfl) (pureVal_ok rfl) ((List.Sublist.refl _)) rfl rfl rfl ?_
      refine ExD.take (i := 4) rfl (by kernel_rfl) (pureVal_ok rfl) ((List.Sublist.refl _)) rfl rfl rfl ?_
      refine ExD.bool (d := 19) rfl (fun hb5 => ?_) (fun hb5 => ?_)
      · replace hb5 := nd_t hb5
        refine ExD.pass (i := 5) rfl (by kernel_rfl) ((List.Sublist.refl _)) rfl rfl rfl ?_
        refine ExD.pass (i := 6) rfl (by kernel_rfl) ((List.Sublist.refl _)) rfl rfl rfl ?_
        refine ExD.pass (i := 7) rfl (by kernel_rfl) ((List.Sublist.refl _)) rfl rfl rfl ?_
        refine ExD.pass (i := 8) rfl (by kernel_rfl) ((List.Sublist.refl _)) rfl rfl rfl ?_
        refine ExD.take (i := 9) rfl (by kernel_rfl) (pureVal_ok rfl) ((List.Sublist.refl _)) rfl rfl rfl ?_
        refine ExD.take (i := 10) rfl (by kernel_rfl) (pureVal_ok rfl) ((List.Sublist.refl _)) rfl rfl rfl ?_
        refine ExD.pass (i := 11) rfl (by kernel_rfl) ((List.Sublist.refl _)) rfl rfl rfl ?_
        refine ExD.pass (i := 12) rfl (by kernel_rfl) ((List.Sublist.refl _)) rfl rfl rfl ?_
        refine ExD.pass (i := 13) rfl (by kernel_rfl) ((List.Sublist.refl _)) rfl rfl rfl ?_
        refine ExD.pass (i := 14) rfl (by kernel_rfl) ((List.Sublist.refl _)) rfl rfl rfl ?_
        refine ExD.pass (i := 15) rfl (by kernel_rfl) ((List.Sublist.refl _)) rfl rfl rfl ?_
        refine ExD.pass (i := 16) rfl (by kernel_rfl) ((List.Sublist.refl _)) rfl rfl rfl ?_
        refine ExD.pass (i := 17) rfl (by kernel_rfl) ((List.Sublist.refl _)) rfl rfl rfl ?_
        refine ExD.pass (i := 18) rfl (by kernel_rfl) ((List.Sublist.refl _)) rfl rfl rfl ?_
        refine ExD.pass (i := 19) rfl (by kernel_rfl) ((List.Sublist.refl _)) rfl rfl rfl ?_
        refine ExD.pass (i := 20) rfl (by kernel_rfl) ((List.Sublist.refl _)) rfl rfl rfl ?_
        refine ExD.pass (i := 21) rfl (by kernel_rfl) ((List.Sublist.refl _)) rfl rfl rfl ?_
        refine ExD.pass (i := 22) rfl (by kernel_rfl) ((List.Sublist.refl _)) rfl rfl rfl ?_
        refine ExD.pass (i := 23) rfl (by kernel_rfl) ((List.Sublist.refl _)) rfl rfl rfl ?_
        refine ExD.pass (i := 24) rfl (by kernel_rfl) ((List.Sublist.refl _)) rfl rfl rfl ?_
        refine ExD.pass (i := 25) rfl (by kernel_rfl) ((List.Sublist.refl _)) rfl rfl rfl ?_
        refine ExD.pass (i := 26) rfl (by kernel_rfl) ((List.Sublist.refl _)) rfl rfl rfl ?_
        refine ExD.pass (i := 27) rfl (by kernel_rfl) ((List.Sublist.refl _)) rfl rfl rfl ?_
        refine ExD.pass (i := 28) rfl (by kernel_rfl) ((List.Sublist.refl _)) rfl rfl rfl ?_
        refine ExD.pass (i := 29) rfl (by kernel_rfl) ((List.Sublist.refl _)) rfl rfl rfl ?_
        refine ExD.pass (i := 30) rfl (by kernel_rfl) ((List.Sublist.refl _)) rfl rfl rfl ?_
        refine ExD.pass (i := 31) rfl (by kernel_rfl) ((List.Sublist.refl _)) rfl rfl rfl ?_
        refine ExD.pass (i := 32) rfl (by kernel_rfl) ((List.Sublist.refl _)) rfl rfl rfl ?_
        refine ExD.pass (i := 33) rfl (by kernel_rfl) ((List.Sublist.refl _)) rfl rfl rfl ?_
        refine ExD.pass (i := 34) rfl (by kernel_rfl) ((List.Sublist.refl _)) rfl rfl rfl ?_
        refine ExD.take (i := 35) rfl (by kernel_rfl) (pureVal_ok rfl) ((List.Sublist.refl _)) rfl rfl rfl ?_
        refine ExD.done (by kernel_rfl) ?_
        refine Ex.cond_t rfl ?_
        refine Ex.regSeq (ExL.pures 1 rfl ?_)
        refine ExL.nil ?_
        refine Ex.ret ?_
        refine RetQ.mk () rfl (.tmp rfl .nil) (tB (by first | exact vt_long (by omega) | exact vt_bad (k := k) (by omega) (ok_f (by first | exact .inl (by assumption) | exact .inr (.inl (by assumption)) | exact .inr (.inr ⟨by omega, by omega⟩))) | exact vt_yes (k := k) (by omega) (by omega) hall)) [] (rfl) rfl (trivial)
      · replace hb5 := nd_f hb5
        refine ExD.take (i := 5) rfl (by kernel_rfl) (pureVal_ok rfl) ((List.Sublist.refl _)) rfl rfl rfl ?_
        refine ExD.take (i := 6) rfl (by kernel_rfl) (fr_load rfl rfl rfl rfl (CellO.blk (i := 0) rfl rfl)) ((List.Sublist.refl _)) rfl rfl rfl ?_
        refine ExD.op (i := 7) rfl (by kernel_rfl) rfl (op_ret rfl rfl rfl (c_within _ _ _) (fun _ _ => trivial) rfl rfl (fun x6 hx6 => ⟨(List.Sublist.refl _), ?_⟩))
        refine ExD.take (i := 8) rfl (by kernel_rfl) (pureVal_ok rfl) ((List.Sublist.refl _)) rfl rfl rfl ?_
        refine ExD.take (i := 9) rfl (by kernel_rfl) (pureVal_ok rfl) ((List.Sublist.refl _)) rfl rfl rfl ?_
        refine ExD.take (i := 10) rfl (by kernel_rfl) (pureVal_ok rfl) ((List.Sublist.refl _)) rfl rfl rfl ?_
        refine ExD.bool (d := 25) rfl (fun hb7 => ?_) (fun hb7 => ?_)
        · replace hb7 := nd_t hb7
          refine ExD.pass (i := 11) rfl (by kernel_rfl) ((List.Sublist.refl _)) rfl rfl rfl ?_
          refine ExD.pass (i := 12) rfl (by kernel_rfl) ((List.Sublist.refl _)) rfl rfl rfl ?_
          refine ExD.pass (i := 13) rfl (by kernel_rfl) ((List.Sublist.refl _)) rfl rfl rfl ?_
          refine ExD.pass (i := 14) rfl (by kernel_rfl) ((List.Sublist.refl _)) rfl rfl rfl ?_
          refine ExD.pass (i := 15) rfl (by kernel_rfl) ((List.Sublist.refl _)) rfl rfl rfl ?_
          refine ExD.pass (i := 16) rfl (by kernel_rfl) ((List.Sublist.refl _)) rfl rfl rfl ?_
          refine ExD.pass (i := 17) rfl (by kernel_rfl) ((List.Sublist.refl _)) rfl rfl rfl ?_
          refine ExD.pass (i := 18) rfl (by kernel_rfl) ((List.Sublist.refl _)) rfl rfl rfl ?_
          refine ExD.pass (i := 19) rfl (by kernel_rfl) ((List.Sublist.refl _)) rfl rfl rfl ?_
          refine ExD.pass (i := 20) rfl (by kernel_rfl) ((List.Sublist.refl _)) rfl rfl rfl ?_
          refine ExD.pass (i := 21) rfl (by kernel_rfl) ((List.Sublist.refl _)) rfl rfl rfl ?_
          refine ExD.pass (i := 22) rfl (by kernel_rfl) ((List.Sublist.refl _)) rfl rfl rfl ?_
          refine ExD.pass (i := 23) rfl (by kernel_rfl) ((List.Sublist.refl _)) rfl rfl rfl ?_
          refine ExD.pass (i := 24) rfl (by kernel_rfl) ((List.Sublist.refl _)) rfl rfl rfl ?_
          refine ExD.pass (i := 25) rfl (by kernel_rfl) ((List.Sublist.refl _)) rfl rfl rfl ?_
          refine ExD.pass (i := 26) rfl (by kernel_rfl) ((List.Sublist.refl _)) rfl rfl rfl ?_
          refine ExD.pass (i := 27) rfl (by kernel_rfl) ((List.Sublist.refl _)) rfl rfl rfl ?_
          refine ExD.pass (i := 28) rfl (by kernel_rfl) ((List.Sublist.refl _)) rfl rfl rfl ?_
          refine ExD.pass (i := 29) rfl (by kernel_rfl) ((List.Sublist.refl _)) rfl rfl rfl ?_
          refine ExD.pass (i := 30) rfl (by kernel_rfl) ((List.Sublist.refl _)) rfl rfl rfl ?_
          refine ExD.pass (i := 31) rfl (by kernel_rfl) ((List.Sublist.refl _)) rfl rfl rfl ?_
          refine ExD.pass (i := 32) rfl (by kernel_rfl) ((List.Sublist.refl _)) rfl rfl rfl ?_
          refine ExD.pass (i := 33) rfl (by kernel_rfl) ((List.Sublist.refl _)) rfl rfl rfl ?_
          refine ExD.pass (i := 34) rfl (by kernel_rfl) ((List.Sublist.refl _)) rfl rfl rfl ?_
          refine ExD.take (i := 35) rfl (by kernel_rfl) (pureVal_ok rfl) ((List.Sublist.refl _)) rfl rfl rfl ?_
          refine ExD.done (by kernel_rfl) ?_
          refine Ex.cond_t rfl ?_
          refine Ex.regSeq (ExL.pures 1 rfl ?_)
          refine ExL.nil ?_
          refine Ex.ret ?_
          refine RetQ.mk () rfl (.tmp rfl .nil) (tB (by first | exact vt_long (by omega) | exact vt_bad (k := k) (by omega) (ok_f (by first | exact .inl (by assumption) | exact .inr (.inl (by assumption)) | exact .inr (.inr ⟨by omega, by omega⟩))) | exact vt_yes (k := k) (by omega) (by omega) hall)) [] (rfl) rfl (trivial)
        · replace hb7 := nd_f hb7
          refine ExD.take (i := 11) rfl (by kernel_rfl) (pureVal_ok rfl) ((List.Sublist.refl _)) rfl rfl rfl ?_
          refine ExD.cmp_gtr (i := 12) rfl (by kernel_rfl) rfl rfl rfl ((List.Sublist.refl _)) rfl rfl rfl (fun h8 => ?_) (fun h8 => ?_)
          · refine ExD.take (i := 13) rfl (by kernel_rfl) (pureVal_ok rfl) ((List.Sublist.refl _)) rfl rfl rfl ?_
            refine ExD.take (i := 14) rfl (by kernel_rfl) (pureVal_ok rfl) ((List.Sublist.refl _)) rfl rfl rfl ?_
            refine ExD.take (i := 15) rfl (by kernel_rfl) (pureVal_ok rfl) ((List.Sublist.refl _)) rfl rfl rfl ?_
            refine ExD.take (i := 16) rfl (by kernel_rfl) (by first | exact fr_sub64 rfl rfl rfl (by omega) | exact fr_sub rfl rfl rfl) ((List.Sublist.refl _)) rfl rfl rfl ?_
            refine ExD.take (i := 17) rfl (by kernel_rfl) (fr_indexAddrF (Reads.old hl) encP_len rfl rfl rfl rfl rfl rfl (by omega)) ((List.Sublist.refl _)) rfl rfl rfl ?_
            refine ExD.take (i := 18) rfl (by kernel_rfl) (fr_fieldAddrF (i := ((↑k - 1) : Int).toNat) (Reads.old hl) encP_len rfl rfl rfl (by omega) rfl rfl rfl rfl) ((List.Sublist.refl _)) rfl rfl rfl ?_
            refine ExD.take (i := 19) rfl (by kernel_rfl) (fr_load rfl rfl rfl rfl (cellJ ((k - 1)) (Reads.old hl) encP_len zP 0 rfl (by omega) (by omega) rfl)) ((List.Sublist.refl _)) rfl rfl rfl ?_
            refine ExD.take (i := 20) rfl (by kernel_rfl) (pureVal_ok rfl) ((List.Sublist.refl _)) rfl rfl rfl ?_
            refine ExD.take (i := 21) rfl (by kernel_rfl) (fr_load rfl rfl rfl rfl (CellO.blk (i := 0) rfl rfl)) ((List.Sublist.refl _)) rfl rfl rfl ?_
            refine ExD.cmp_geq (i := 22) rfl (by kernel_rfl) rfl rfl rfl ((List.Sublist.refl _)) rfl rfl rfl (fun h9 => ?_) (fun h9 => ?_)
            · refine ExD.take (i := 23) rfl (by kernel_rfl) (pureVal_ok rfl) ((List.Sublist.refl _)) rfl rfl rfl ?_
              refine ExD.pass (i := 24) rfl (by kernel_rfl) ((List.Sublist.refl _)) rfl rfl rfl ?_
              refine ExD.pass (i := 25) rfl (by kernel_rfl) ((List.Sublist.refl _)) rfl rfl rfl ?_
              refine ExD.pass (i := 26) rfl (by kernel_rfl) ((List.Sublist.refl _)) rfl rfl rfl ?_
              refine ExD.pass (i := 27) rfl (by kernel_rfl) ((List.Sublist.refl _)) rfl rfl rfl ?_
              refine ExD.pass (i := 28) rfl (by kernel_rfl) ((List.Sublist.refl _)) rfl rfl rfl ?_
              refine ExD.pass (i := 29) rfl (by kernel_rfl) ((List.Sublist.refl _)) rfl rfl rfl ?_
              refine ExD.pass (i := 30) rfl (by kernel_rfl) ((List.Sublist.refl _)) rfl rfl rfl ?_
              refine ExD.pass (i := 31) rfl (by kernel_rfl) ((List.Sublist.refl _)) rfl rfl rfl ?_
              refine ExD.pass (i := 32) rfl (by kernel_rfl) ((List.Sublist.refl _)) rfl rfl rfl ?_
              refine ExD.take (i := 33) rfl (by kernel_rfl) (pureVal_ok rfl) ((List.Sublist.refl _)) rfl rfl rfl ?_
              refine ExD.take (i := 34) rfl (by kernel_rfl) (pureVal_ok rfl) ((List.Sublist.refl _)) rfl rfl rfl ?_
              refine ExD.take (i := 35) rfl (by kernel_rfl) (pureVal_ok rfl) ((List.Sublist.refl _)) rfl rfl rfl ?_
              refine ExD.done (by kernel_rfl) ?_
              refine Ex.cond_t rfl ?_
              refine Ex.regSeq (ExL.pures 1 rfl ?_)
              refine ExL.nil ?_
              refine Ex.ret ?_
              refine RetQ.mk () rfl (.tmp rfl .nil) (tB (by first | exact vt_long (by omega) | exact vt_bad (k := k) (by omega) (ok_f (by first | exact .inl (by assumption) | exact .inr (.inl (by assumption)) | exact .inr (.inr ⟨by omega, by omega⟩))) | exact vt_yes (k := k) (by omega) (by omega) hall)) [] (rfl) rfl (trivial)
            · refine ExD.take (i := 23) rfl (by kernel_rfl) (pureVal_ok rfl) ((List.Sublist.refl _)) rfl rfl rfl ?_
              refine ExD.take (i := 24) rfl (by kernel_rfl) (pureVal_ok rfl) ((List.Sublist.refl _)) rfl rfl rfl ?_
              refine ExD.take (i := 25) rfl (by kernel_rfl) (pureVal_ok rfl) ((List.Sublist.refl _)) rfl rfl rfl ?_
              refine ExD.take (i := 26) rfl (by kernel_rfl) (by first | exact fr_sub64 rfl rfl rfl (by omega) | exact fr_sub rfl rfl rfl) ((List.Sublist.refl _)) rfl rfl rfl ?_
              refine ExD.take (i := 27) rfl (by kernel_rfl) (fr_indexAddrF (Reads.old hl) encP_len rfl rfl rfl rfl rfl rfl (by omega)) ((List.Sublist.refl _)) rfl rfl rfl ?_
              refine ExD.take (i := 28) rfl (by kernel_rfl) (fr_fieldAddrF (i := ((↑k - 1) : Int).toNat) (Reads.old hl) encP_len rfl rfl rfl (by omega) rfl rfl rfl rfl) ((List.Sublist.refl _)) rfl rfl rfl ?_
              refine ExD.take (i := 29) rfl (by kernel_rfl) (fr_load rfl rfl rfl rfl (cellJ ((k - 1)) (Reads.old hl) encP_len zP 1 rfl (by omega) (by omega) rfl)) ((List.Sublist.refl _)) rfl rfl rfl ?_
              refine ExD.take (i := 30) rfl (by kernel_rfl) (pureVal_ok rfl) ((List.Sublist.refl _)) rfl rfl rfl ?_
              refine ExD.take (i := 31) rfl (by kernel_rfl) (fr_load rfl rfl rfl rfl (CellO.blk (i := 0) rfl rfl)) ((List.Sublist.refl _)) rfl rfl rfl ?_
              refine ExD.cmp_gtr (i := 32) rfl (by kernel_rfl) rfl rfl rfl ((List.Sublist.refl _)) rfl rfl rfl (fun h10 => ?_) (fun h10 => ?_)
              · refine ExD.take (i := 33) rfl (by kernel_rfl) (pureVal_ok rfl) ((List.Sublist.refl _)) rfl rfl rfl ?_
                refine ExD.take (i := 34) rfl (by kernel_rfl) (pureVal_ok rfl) ((List.Sublist.refl _)) rfl rfl rfl ?_
                refine ExD.take (i := 35) rfl (by kernel_rfl) (pureVal_ok rfl) ((List.Sublist.refl _)) rfl rfl rfl ?_
                refine ExD.done (by kernel_rfl) ?_
                refine Ex.cond_t rfl ?_
                refine Ex.regSeq (ExL.pures 1 rfl ?_)
                refine ExL.nil ?_
                refine Ex.ret ?_
                refine RetQ.mk () rfl (.tmp rfl .nil) (tB (by first | exact vt_long (by omega) | exact vt_bad (k := k) (by omega) (ok_f (by first | exact .inl (by assumption) | exact .inr (.inl (by assumption)) | exact .inr (.inr ⟨by omega, by omega⟩))) | exact vt_yes (k := k) (by omega) (by omega) hall)) [] (rfl) rfl (trivial)
              · refine ExD.take (i := 33) rfl (by kernel_rfl) (pureVal_ok rfl) ((List.Sublist.refl _)) rfl rfl rfl ?_
                refine ExD.take (i := 34) rfl (by kernel_rfl) (pureVal_ok rfl) ((List.Sublist.refl _)) rfl rfl rfl ?_
                refine ExD.take (i := 35) rfl (by kernel_rfl) (pureVal_ok rfl) ((List.Sublist.refl _)) rfl rfl rfl ?_
                refine ExD.done (by kernel_rfl) ?_
                refine Ex.cond_f rfl ?_
                refine Ex.skip ?_
                refine Ex.region (ExL.pures 0 rfl ?_)
                refine ExL.free (by first | exact fr_add64 rfl rfl rfl (by omega) | exact fr_add rfl rfl rfl) rfl rfl rfl ?_
                refine ExL.pures 1 rfl ?_
                refine ExL.nil ?_
                refine Hand.mk (k + 1) 1 [] ⟨rfl, trivial⟩ ⟨rfl, rfl, rfl, trivial⟩ (rfl) rfl (⟨by omega, all_snoc hall (ok_t (by omega) (by omega) (by omega))⟩) (by omega)
          · refine ExD.take (i := 13) rfl (by kernel_rfl) (pureVal_ok rfl) ((List.Sublist.refl _)) rfl rfl rfl ?_
            refine ExD.pass (i := 14) rfl (by kernel_rfl) ((List.Sublist.refl _)) rfl rfl rfl ?_
            refine ExD.pass (i := 15) rfl (by kernel_rfl) ((List.Sublist.refl _)) rfl rfl rfl ?_
            refine ExD.pass (i := 16) rfl (by kernel_rfl) ((List.Sublist.refl _)) rfl rfl rfl ?_
            refine ExD.pass (i := 17) rfl (by kernel_rfl) ((List.Sublist.refl _)) rfl rfl rfl ?_
            refine ExD.pass (i := 18) rfl (by kernel_rfl) ((List.Sublist.refl _)) rfl rfl rfl ?_
            refine ExD.pass (i := 19) rfl (by kernel_rfl) ((List.Sublist.refl _)) rfl rfl rfl ?_
            refine ExD.pass (i := 20) rfl (by kernel_rfl) ((List.Sublist.refl _)) rfl rfl rfl ?_
            refine ExD.pass (i := 21) rfl (by kernel_rfl) ((List.Sublist.refl _)) rfl rfl rfl ?_
            refine ExD.pass (i := 22) rfl (by kernel_rfl) ((List.Sublist.refl _)) rfl rfl rfl ?_
            refine ExD.pass (i := 23) rfl (by kernel_rfl) ((List.Sublist.refl _)) rfl rfl rfl ?_
            refine ExD.pass (i := 24) rfl (by kernel_rfl) ((List.Sublist.refl _)) rfl rfl rfl ?_
            refine ExD.pass (i := 25) rfl (by kernel_rfl) ((List.Sublist.refl _)) rfl rfl rfl ?_
            refine ExD.pass (i := 26) rfl (by kernel_rfl) ((List.Sublist.refl _)) rfl rfl rfl ?_
            refine ExD.pass (i := 27) rfl (by kernel_rfl) ((List.Sublist.refl _)) rfl rfl rfl ?_
            refine ExD.pass (i := 28) rfl (by kernel_rfl) ((List.Sublist.refl _)) rfl rfl rfl ?_
            refine ExD.pass (i := 29) rfl (by kernel_rfl) ((List.Sublist.refl _)) rfl rfl rfl ?_
            refine ExD.pass (i := 30) rfl (by kernel_rfl) ((List.Sublist.refl _)) rfl rfl rfl ?_
            refine ExD.pass (i := 31) rfl (by kernel_rfl) ((List.Sublist.refl _)) rfl rfl rfl ?_
            refine ExD.pass (i := 32) rfl (by kernel_rfl) ((List.Sublist.refl _)) rfl rfl rfl ?_
            refine ExD.pass (i := 33) rfl (by kernel_rfl) ((List.Sublist.refl _)) rfl rfl rfl ?_
            refine ExD.take (i := 34) rfl (by kernel_rfl) (pureVal_ok rfl) ((List.Sublist.refl _)) rfl rfl rfl ?_
            refine ExD.take (i := 35) rfl (by kernel_rfl) (pureVal_ok rfl) ((List.Sublist.refl _)) rfl rfl rfl ?_
            refine ExD.done (by kernel_rfl) ?_
            refine Ex.cond_f rfl ?_
            refine Ex.skip ?_
            refine Ex.region (ExL.pures 0 rfl ?_)
            refine ExL.free (by first | exact fr_add64 rfl rfl rfl (by omega) | exact fr_add rfl rfl rfl) rfl rfl rfl ?_
            refine ExL.pures 1 rfl ?_
            refine ExL.nil ?_
            refine Hand.mk (k + 1) 1 [] ⟨rfl, trivial⟩ ⟨rfl, rfl, rfl, trivial⟩ (rfl) rfl (⟨by omega, all_snoc hall (ok_t (by omega) (by omega) (by omega))⟩) (by omega)
    · refine ExL.nil ?_
      refine Ex.seq ?_
      refine Ex.cond_f rfl ?_
      refine Ex.exit ?_
      refine Ex.regSeq (ExL.pures 1 rfl ?_)
      refine ExL.nil ?_
      refine Ex.ret ?_
      refine RetQ.mk () rfl (.tmp rfl .nil) (tB (by first | exact vt_long (by omega) | exact vt_bad (k := k) (by omega) (ok_f (by first | exact .inl (by assumption) | exact .inr (.inl (by assumption)) | exact .inr (.inr ⟨by omega, by omega⟩))) | exact vt_yes (k := k) (by omega) (by omega) hall)) [] (rfl) rfl (trivial)
end Go.Proofs.Ytekofeabooliiaa

/- What these functions of the program hand back, each proved by walking its operations. -/
set_option linter.unusedVariables false
set_option linter.unusedSimpArgs false
set_option maxRecDepth 4000
namespace Go.Proofs.Ytekofeabooliiaa
open Go Go.Sx Go.RowKit Go.W Go.Proofs
attribute [local irreducible] Ex ExL ExD Op1 Free RetQ MutQ Reads CellO SegO LoadsAs
end Go.Proofs.Ytekofeabooliiaa

/- What these functions of the program hand back, each proved by walking its operations. -/
set_option linter.unusedVariables false
set_option linter.unusedSimpArgs false
set_option maxRecDepth 4000
namespace Go.Proofs.Ytekofeabooliiaa
open Go Go.Sx Go.RowKit Go.W Go.Proofs
attribute [local irreducible] Ex ExL ExD Op1 Free RetQ MutQ Reads CellO SegO LoadsAs
theorem e_5 : Enters Try.prog 5 := Enters.of Try.func5 rfl
theorem c_sMerge (s : List VP) (As : Option Addr) (cs : Nat) (hls : s.length ≤ maxLen) (t : List VP) (At : Option Addr) (ct : Nat) (hlt : t.length ≤ maxLen) : Ret Try.prog 5 [.slice As s.length cs, .slice At t.length ct] (fun w => Rd w As (s.flatMap encP) ∧ Rd w At (t.flatMap encP)) (fun x : Option Addr × Nat => .tuple #[.slice x.1 (merV s t).1.length x.2, .int .i64 (merV s t).2]) (fun x => [.row (.slice x.1 ((merV s t).1).length x.2) 33 2 ((merV s t).1).length (((merV s t).1).flatMap encP)]) (fun x => True) := by
  refine Ret.of e_5 Try.func5 rfl Try.ntmps5 rfl rfl (fun w hpre => ?_)
  have hs := hpre.1.base
  have ht := hpre.2.base
  have hm0 : maxLen = 9223372036854775807 := rfl
  refine Ex.regSeq (ExL.pures 2 rfl ?_)
  refine ExL.nil ?_
  refine Ex.seq ?_
  refine Ex.regSeq (ExL.pures 1 rfl ?_)
  refine ExL.op rfl (op_ret rfl rfl rfl (c_l06Totals s _ _ (by omega)) (Reads.get (Reads.old hs)) rfl rfl (fun x1 hx1 => ?_))
  refine ExL.pures 2 rfl ?_
  refine ExL.bool (d := 13) rfl (fun hb2 => ?_) (fun hb2 => ?_)
  · replace hb2 := nb_t hb2
    refine ExL.pures 4 rfl ?_
    refine ExL.nil ?_
    refine Ex.cond_t rfl ?_
    have hmv := mer_1 (s := s) (t := t) (by simp_all)
    refine Ex.regSeq (ExL.pures 0 rfl ?_)
    refine ExL.op rfl (op_buildSlice (sz := 2) rfl rfl rfl rfl rfl rfl rfl rfl (by decide) rfl rfl rfl (fun r3 => ?_))
    refine ExL.pures 2 rfl ?_
    refine ExL.nil ?_
    refine Ex.ret ?_
    refine RetQ.mk ((some ⟨r3, 0, none⟩), 0) rfl (.tmp rfl (.tmp rfl .nil)) (t2 (by rw [hmv]; first | done | rfl) (vI (by rw [hmv]; first | done | rfl))) [0] (by rw [hmv]; first | done | rfl) rfl (trivial)
  · replace hb2 := nb_f hb2
    refine ExL.pures 1 rfl ?_
    refine ExL.op rfl (op_ret rfl rfl rfl (c_l06Totals t _ _ (by omega)) (Reads.get (Reads.old ht)) rfl rfl (fun x4 hx4 => ?_))
    refine ExL.pures 2 rfl ?_
    refine ExL.nil ?_
    refine Ex.cond rfl (fun hb5 => ?_) (fun hb5 => ?_)
    · replace hb5 := nb_t hb5
      have hmv := mer_1 (s := s) (t := t) (by simp_all)
      refine Ex.regSeq (ExL.pures 0 rfl ?_)
      refine ExL.op rfl (op_buildSlice (sz := 2) rfl rfl rfl rfl rfl rfl rfl rfl (by decide) rfl rfl rfl (fun r6 => ?_))
      refine ExL.pures 2 rfl ?_
      refine ExL.nil ?_
      refine Ex.ret ?_
      refine RetQ.mk ((some ⟨r6, 0, none⟩), 0) rfl (.tmp rfl (.tmp rfl .nil)) (t2 (by rw [hmv]; first | done | rfl) (vI (by rw [hmv]; first | done | rfl))) [0] (by rw [hmv]; first | done | rfl) rfl (trivial)
    · replace hb5 := nb_f hb5
      refine Ex.skip ?_
      have hvv : (validTot s && validTot t) = true := by simp_all
      have hTs := (tot (by simp_all : validTot s = true)).len
      have hTt := (tot (by simp_all : validTot t = true)).len
      refine Ex.regSeq (ExL.pures 0 rfl ?_)
      refine ExL.op rfl (op_buildSlice (sz := 2) rfl rfl rfl rfl rfl rfl rfl rfl (by decide) rfl rfl rfl (fun r7 => ?_))
      refine ExL.pures 1 rfl ?_
      refine ExL.nil ?_
      refine Ex.regSeq (ExL.pures 1 rfl ?_)
      refine ExL.nil ?_
      refine Ex.regSeq (ExL.pures 1 rfl ?_)
      refine ExL.nil ?_
      refine Ex.seq ?_
      refine Ex.block ?_
      refine Ex.loopK (X := MSt) (fun q => [(6, .slice q.A q.o.length q.c), (7, .int .i64 q.i), (8, .int .i64 q.j)]) (fun q => [.row (.slice q.A q.o.length q.c) 33 2 q.o.length (q.o.flatMap encP)]) (fun q => MI s t q) (fun q => (s.length - q.i) + (t.length - q.j)) (⟨0, 0, [], (some ⟨r7, 0, none⟩), 0⟩) [(0, _), (1, _)] [] 1 [0] ⟨rfl, rfl, rfl, trivial⟩ ⟨rfl, rfl, trivial⟩ (rfl) rfl MI.zero (fun q hI => ?_)
      have hI : MI s t q := hI
      have hli := hI.li
      have hlj := hI.lj
      have hol := hI.len
      refine Ex.seq ?_
      refine Ex.regSeq (ExL.pures 3 rfl ?_)
      refine ExL.lss rfl rfl rfl rfl rfl rfl (fun h8 => ?_) (fun h8 => ?_)
      · refine ExL.pures 6 rfl ?_
        refine ExL.nil ?_
        refine Ex.cond_t rfl ?_
        refine Ex.skip ?_
        refine Ex.block ?_
        refine Ex.seq ?_
        refine Ex.drawSeqM rfl ?_
        refine ExD.take (i := 0) rfl (by kernel_rfl) (pureVal_ok rfl) ((List.Sublist.refl _)) rfl rfl rfl ?_
        refine ExD.take (i := 1) rfl (by kernel_rfl) (pureVal_ok rfl) ((List.Sublist.refl _)) rfl rfl rfl ?_
        refine ExD.take (i := 2) rfl (by kernel_rfl) (pureVal_ok rfl) ((List.Sublist.refl _)) rfl rfl rfl ?_
        refine ExD.cmp_lss (i := 3) rfl (by kernel_rfl) rfl rfl rfl ((List.Sublist.refl _)) rfl rfl rfl (fun h9 => ?_) (fun h9 => ?_)
        · refine ExD.take (i := 4) rfl (by kernel_rfl) (pureVal_ok rfl) ((List.Sublist.refl _)) rfl rfl rfl ?_
          refine ExD.take (i := 5) rfl (by kernel_rfl) (pureVal_ok rfl) ((List.Sublist.refl _)) rfl rfl rfl ?_
          refine ExD.take (i := 6) rfl (by kernel_rfl) (pureVal_ok rfl) ((List.Sublist.refl _)) rfl rfl rfl ?_
          refine ExD.take (i := 7) rfl (by kernel_rfl) (pureVal_ok rfl) ((List.Sublist.refl _)) rfl rfl rfl ?_
          refine ExD.cmp_lss (i := 8) rfl (by kernel_rfl) rfl rfl rfl ((List.Sublist.refl _)) rfl rfl rfl (fun h10 => ?_) (fun h10 => ?_)
          · refine ExD.take (i := 9) rfl (by kernel_rfl) (pureVal_ok rfl) ((List.Sublist.refl _)) rfl rfl rfl ?_
            refine ExD.take (i := 10) rfl (by kernel_rfl) (pureVal_ok rfl) ((List.Sublist.refl _)) rfl rfl rfl ?_
            refine ExD.take (i := 11) rfl (by kernel_rfl) (pureVal_ok rfl) ((List.Sublist.refl _)) rfl rfl rfl ?_
            refine ExD.take (i := 12) rfl (by kernel_rfl) (pureVal_ok rfl) ((List.Sublist.refl _)) rfl rfl rfl ?_
            refine ExD.take (i := 13) rfl (by kernel_rfl) (fr_indexAddrF (Reads.old hs) encP_len rfl rfl rfl rfl rfl rfl (by omega)) ((List.Sublist.refl _)) rfl rfl rfl ?_
            refine ExD.take (i := 14) rfl (by kernel_rfl) (fr_fieldAddrF (i := (↑q.i : Int).toNat) (Reads.old hs) encP_len rfl rfl rfl (by omega) rfl rfl rfl rfl) ((List.Sublist.refl _)) rfl rfl rfl ?_
            refine ExD.take (i := 15) rfl (by kernel_rfl) (fr_load rfl rfl rfl rfl (cellJ (i := ↑q.i) (q.i) (Reads.old hs) encP_len zP 0 rfl (by omega) (by omega) rfl)) ((List.Sublist.refl _)) rfl rfl rfl ?_
            refine ExD.take (i := 16) rfl (by kernel_rfl) (pureVal_ok rfl) ((List.Sublist.refl _)) rfl rfl rfl ?_
            refine ExD.take (i := 17) rfl (by kernel_rfl) (pureVal_ok rfl) ((List.Sublist.refl _)) rfl rfl rfl ?_
            refine ExD.take (i := 18) rfl (by kernel_rfl) (fr_indexAddrF (Reads.old ht) encP_len rfl rfl rfl rfl rfl rfl (by omega)) ((List.Sublist.refl _)) rfl rfl rfl ?_
            refine ExD.take (i := 19) rfl (by kernel_rfl) (fr_fieldAddrF (i := (↑q.j : Int).toNat) (Reads.old ht) encP_len rfl rfl rfl (by omega) rfl rfl rfl rfl) ((List.Sublist.refl _)) rfl rfl rfl ?_
            refine ExD.take (i := 20) rfl (by kernel_rfl) (fr_load rfl rfl rfl rfl (cellJ (i := ↑q.j) (q.j) (Reads.old ht) encP_len zP 0 rfl (by omega) (by omega) rfl)) ((List.Sublist.refl _)) rfl rfl rfl ?_
            refine ExD.cmp_eql (i := 21) rfl (by kernel_rfl) rfl rfl rfl ((List.Sublist.refl _)) rfl rfl rfl (fun h11 => ?_) (fun h11 => ?_)
            · refine ExD.take (i := 22) rfl (by kernel_rfl) (pureVal_ok rfl) ((List.Sublist.refl _)) rfl rfl rfl ?_
              refine ExD.done (by kernel_rfl) ?_
              refine Ex.cond_t rfl ?_
              refine Ex.seq ?_
              refine Ex.drawSeqM rfl ?_
              refine ExD.take (i := 0) rfl (by kernel_rfl) (pureVal_ok rfl) ((List.Sublist.refl _)) rfl rfl rfl ?_
              refine ExD.take (i := 1) rfl (by kernel_rfl) (pureVal_ok rfl) ((List.Sublist.refl _)) rfl rfl rfl ?_
              refine ExD.take (i := 2) rfl (by kernel_rfl) (fr_indexAddrF (Reads.old hs) encP_len rfl rfl rfl rfl rfl rfl (by omega)) ((List.Sublist.refl _)) rfl rfl rfl ?_
              refine ExD.take (i := 3) rfl (by kernel_rfl) (fr_fieldAddrF (i := (↑q.i : Int).toNat) (Reads.old hs) encP_len rfl rfl rfl (by omega) rfl rfl rfl rfl) ((List.Sublist.refl _)) rfl rfl rfl ?_
              refine ExD.take (i := 4) rfl (by kernel_rfl) (fr_load rfl rfl rfl rfl (cellJ (i := ↑q.i) (q.i) (Reads.old hs) encP_len zP 1 rfl (by omega) (by omega) rfl)) ((List.Sublist.refl _)) rfl rfl rfl ?_
              refine ExD.take (i := 5) rfl (by kernel_rfl) (pureVal_ok rfl) ((List.Sublist.refl _)) rfl rfl rfl ?_
              refine ExD.take (i := 6) rfl (by kernel_rfl) (pureVal_ok rfl) ((List.Sublist.refl _)) rfl rfl rfl ?_
              refine ExD.take (i := 7) rfl (by kernel_rfl) (fr_indexAddrF (Reads.old ht) encP_len rfl rfl rfl rfl rfl rfl (by omega)) ((List.Sublist.refl _)) rfl rfl rfl ?_
              refine ExD.take (i := 8) rfl (by kernel_rfl) (fr_fieldAddrF (i := (↑q.j : Int).toNat) (Reads.old ht) encP_len rfl rfl rfl (by omega) rfl rfl rfl rfl) ((List.Sublist.refl _)) rfl rfl rfl ?_
              refine ExD.take (i := 9) rfl (by kernel_rfl) (fr_load rfl rfl rfl rfl (cellJ (i := ↑q.j) (q.j) (Reads.old ht) encP_len zP 1 rfl (by omega) (by omega) rfl)) ((List.Sublist.refl _)) rfl rfl rfl ?_
              refine ExD.cmp_neq (i := 10) rfl (by kernel_rfl) rfl rfl rfl ((List.Sublist.refl _)) rfl rfl rfl (fun h12 => ?_) (fun h12 => ?_)
              · refine ExD.done (by kernel_rfl) ?_
                refine Ex.cond_t rfl ?_
                have hmv := mer_8 hvv (hI.bad (by omega) (by omega) (by omega) (by omega))
                refine Ex.regSeq (ExL.pures 0 rfl ?_)
                refine ExL.op rfl (op_buildSlice (sz := 2) rfl rfl rfl rfl rfl rfl rfl rfl (by decide) rfl rfl rfl (fun r13 => ?_))
                refine ExL.pures 2 rfl ?_
                refine ExL.nil ?_
                refine Ex.ret ?_
                refine RetQ.mk ((some ⟨r13, 0, none⟩), 0) rfl (.tmp rfl (.tmp rfl .nil)) (t2 (by rw [hmv]; first | done | rfl) (vI (by rw [hmv]; first | done | rfl))) [0] (by rw [hmv]; first | done | rfl) rfl (trivial)
              · refine ExD.done (by kernel_rfl) ?_
                refine Ex.cond_f rfl ?_
                refine Ex.skip ?_
                refine Ex.regSeq (ExL.pures 1 rfl ?_)
                refine ExL.free (by first | exact fr_add64 rfl rfl rfl (by omega) | exact fr_add rfl rfl rfl) rfl rfl rfl ?_
                refine ExL.pures 1 rfl ?_
                refine ExL.nil ?_
                refine Ex.exit ?_
                refine Hand.mk ((⟨q.i, q.j + 1, q.o, q.A, q.c⟩ : MSt)) 1 [0] ⟨(by first | rfl | (rw [List.length_append]; rfl)), rfl, rfl, trivial⟩ ⟨rfl, rfl, trivial⟩ (by first | rfl | (rw [List.length_append, List.flatMap_append]; rfl)) rfl ((hI.skip (by omega) (by omega) (by omega) (by omega))) ((by dsimp only; omega))
            · refine ExD.take (i := 22) rfl (by kernel_rfl) (pureVal_ok rfl) ((List.Sublist.refl _)) rfl rfl rfl ?_
              refine ExD.done (by kernel_rfl) ?_
              refine Ex.cond_f rfl ?_
              refine Ex.skip ?_
              refine Ex.drawSeqM rfl ?_
              refine ExD.take (i := 0) rfl (by kernel_rfl) (pureVal_ok rfl) ((List.Sublist.refl _)) rfl rfl rfl ?_
              refine ExD.take (i := 1) rfl (by kernel_rfl) (pureVal_ok rfl) ((List.Sublist.refl _)) rfl rfl rfl ?_
              refine ExD.take (i := 2) rfl (by kernel_rfl) (pureVal_ok rfl) ((List.Sublist.refl _)) rfl rfl rfl ?_
              refine ExD.cmp_eql (i := 3) rfl (by kernel_rfl) rfl rfl rfl ((List.Sublist.refl _)) rfl rfl rfl (fun h14 => ?_) (fun h14 => ?_)
              · refine ExD.take (i := 4) rfl (by kernel_rfl) (pureVal_ok rfl) ((List.Sublist.refl _)) rfl rfl rfl ?_
                refine ExD.pass (i := 5) rfl (by kernel_rfl) ((List.Sublist.refl _)) rfl rfl rfl ?_
                refine ExD.pass (i := 6) rfl (by kernel_rfl) ((List.Sublist.refl _)) rfl rfl rfl ?_
                refine ExD.pass (i := 7) rfl (by kernel_rfl) ((List.Sublist.refl _)) rfl rfl rfl ?_
                refine ExD.pass (i := 8) rfl (by kernel_rfl) ((List.Sublist.refl _)) rfl rfl rfl ?_
                refine ExD.pass (i := 9) rfl (by kernel_rfl) ((List.Sublist.refl _)) rfl rfl rfl ?_
                refine ExD.pass (i := 10) rfl (by kernel_rfl) ((List.Sublist.refl _)) rfl rfl rfl ?_
                refine ExD.pass (i := 11) rfl (by kernel_rfl) ((List.Sublist.refl _)) rfl rfl rfl ?_
                refine ExD.pass (i := 12) rfl (by kernel_rfl) ((List.Sublist.refl _)) rfl rfl rfl ?_
                refine ExD.pass (i := 13) rfl (by kernel_rfl) ((List.Sublist.refl _)) rfl rfl rfl ?_
                refine ExD.pass (i := 14) rfl (by kernel_rfl) ((List.Sublist.refl _)) rfl rfl rfl ?_
                refine ExD.pass (i := 15) rfl (by kernel_rfl) ((List.Sublist.refl _)) rfl rfl rfl ?_
                refine ExD.pass (i := 16) rfl (by kernel_rfl) ((List.Sublist.refl _)) rfl rfl rfl ?_
                refine ExD.pass (i := 17) rfl (by kernel_rfl) ((List.Sublist.refl _)) rfl rfl rfl ?_
                refine ExD.pass (i := 18) rfl (by kernel_rfl) ((List.Sublist.refl _)) rfl rfl rfl ?_
                refine ExD.pass (i := 19) rfl (by kernel_rfl) ((List.Sublist.refl _)) rfl rfl rfl ?_
                refine ExD.pass (i := 20) rfl (by kernel_rfl) ((List.Sublist.refl _)) rfl rfl rfl ?_
                refine ExD.pass (i := 21) rfl (by kernel_rfl) ((List.Sublist.refl _)) rfl rfl rfl ?_
                refine ExD.take (i := 22) rfl (by kernel_rfl) (pureVal_ok rfl) ((List.Sublist.refl _)) rfl rfl rfl ?_
                refine ExD.done (by kernel_rfl) ?_
                refine Ex.cond_t rfl ?_
                refine Ex.regSeq (ExL.pures 3 rfl ?_)
                refine ExL.free (fr_indexAddrF (Reads.old ht) encP_len rfl rfl rfl rfl rfl rfl (by omega)) rfl rfl rfl ?_
                refine ExL.free (fr_loadN rfl rfl rfl rfl rfl (segJ (q.j) (Reads.old ht) encP_len rfl zP (by omega) (by omega))) rfl rfl rfl ?_
                refine ExL.op rfl (op_buildSlice (sz := 2) rfl rfl rfl rfl rfl rfl rfl rfl (by decide) rfl rfl rfl (fun r15 => ?_))
                refine ExL.op rfl (op_append (sz := 2) (bytes := 16) (i := 1) rfl rfl rfl rfl (Reads.row (i := 0) rfl) rfl (fun e => nomatch e) rfl rfl rfl rfl (by constructor <;> first | omega | (unfold maxLen; omega)) rfl rfl (fun A16 cA16 => ?_))
                refine ExL.pures 1 rfl ?_
                refine ExL.nil ?_
                refine Ex.region (ExL.pures 1 rfl ?_)
                refine ExL.free (by first | exact fr_add64 rfl rfl rfl (by omega) | exact fr_add rfl rfl rfl) rfl rfl rfl ?_
                refine ExL.pures 1 rfl ?_
                refine ExL.nil ?_
                refine Hand.mk ((⟨q.i, q.j + 1, q.o ++ [t.getD q.j zP], A16, cA16⟩ : MSt)) 2 [1] ⟨(by first | rfl | (rw [List.length_append]; rfl)), rfl, rfl, trivial⟩ ⟨rfl, rfl, trivial⟩ (by first | rfl | (rw [List.length_append, List.flatMap_append]; rfl)) rfl ((hI.tk (by omega) (by omega))) ((by dsimp only; omega))
              · refine ExD.take (i := 4) rfl (by kernel_rfl) (pureVal_ok rfl) ((List.Sublist.refl _)) rfl rfl rfl ?_
                refine ExD.take (i := 5) rfl (by kernel_rfl) (pureVal_ok rfl) ((List.Sublist.refl _)) rfl rfl rfl ?_
                refine ExD.take (i := 6) rfl (by kernel_rfl) (pureVal_ok rfl) ((List.Sublist.refl _)) rfl rfl rfl ?_
                refine ExD.take (i := 7) rfl (by kernel_rfl) (pureVal_ok rfl) ((List.Sublist.refl _)) rfl rfl rfl ?_
                refine ExD.cmp_lss (i := 8) rfl (by kernel_rfl) rfl rfl rfl ((List.Sublist.refl _)) rfl rfl rfl (fun h18 => ?_) (fun h18 => ?_)
                · refine ExD.take (i := 9) rfl (by kernel_rfl) (pureVal_ok rfl) ((List.Sublist.refl _)) rfl rfl rfl ?_
                  refine ExD.take (i := 10) rfl (by kernel_rfl) (pureVal_ok rfl) ((List.Sublist.refl _)) rfl rfl rfl ?_
                  refine ExD.take (i := 11) rfl (by kernel_rfl) (pureVal_ok rfl) ((List.Sublist.refl _)) rfl rfl rfl ?_
                  refine ExD.take (i := 12) rfl (by kernel_rfl) (fr_indexAddrF (Reads.old ht) encP_len rfl rfl rfl rfl rfl rfl (by omega)) ((List.Sublist.refl _)) rfl rfl rfl ?_
                  refine ExD.take (i := 13) rfl (by kernel_rfl) (fr_fieldAddrF (i := (↑q.j : Int).toNat) (Reads.old ht) encP_len rfl rfl rfl (by omega) rfl rfl rfl rfl) ((List.Sublist.refl _)) rfl rfl rfl ?_
                  refine ExD.take (i := 14) rfl (by kernel_rfl) (fr_load rfl rfl rfl rfl (cellJ (i := ↑q.j) (q.j) (Reads.old ht) encP_len zP 0 rfl (by omega) (by omega) rfl)) ((List.Sublist.refl _)) rfl rfl rfl ?_
                  refine ExD.take (i := 15) rfl (by kernel_rfl) (pureVal_ok rfl) ((List.Sublist.refl _)) rfl rfl rfl ?_
                  refine ExD.take (i := 16) rfl (by kernel_rfl) (pureVal_ok rfl) ((List.Sublist.refl _)) rfl rfl rfl ?_
                  refine ExD.take (i := 17) rfl (by kernel_rfl) (fr_indexAddrF (Reads.old hs) encP_len rfl rfl rfl rfl rfl rfl (by omega)) ((List.Sublist.refl _)) rfl rfl rfl ?_
                  refine ExD.take (i := 18) rfl (by kernel_rfl) (fr_fieldAddrF (i := (↑q.i : Int).toNat) (Reads.old hs) encP_len rfl rfl rfl (by omega) rfl rfl rfl rfl) ((List.Sublist.refl _)) rfl rfl rfl ?_
                  refine ExD.take (i := 19) rfl (by kernel_rfl) (fr_load rfl rfl rfl rfl (cellJ (i := ↑q.i) (q.i) (Reads.old hs) encP_len zP 0 rfl (by omega) (by omega) rfl)) ((List.Sublist.refl _)) rfl rfl rfl ?_
                  refine ExD.cmp_lss (i := 20) rfl (by kernel_rfl) rfl rfl rfl ((List.Sublist.refl _)) rfl rfl rfl (fun h19 => ?_) (fun h19 => ?_)
                  · refine ExD.take (i := 21) rfl (by kernel_rfl) (pureVal_ok rfl) ((List.Sublist.refl _)) rfl rfl rfl ?_
                    refine ExD.take (i := 22) rfl (by kernel_rfl) (pureVal_ok rfl) ((List.Sublist.refl _)) rfl rfl rfl ?_
                    refine ExD.done (by kernel_rfl) ?_
                    refine Ex.cond_t rfl ?_
                    refine Ex.regSeq (ExL.pures 3 rfl ?_)
                    refine ExL.free (fr_indexAddrF (Reads.old ht) encP_len rfl rfl rfl rfl rfl rfl (by omega)) rfl rfl rfl ?_
                    refine ExL.free (fr_loadN rfl rfl rfl rfl rfl (segJ (q.j) (Reads.old ht) encP_len rfl zP (by omega) (by omega))) rfl rfl rfl ?_
                    refine ExL.op rfl (op_buildSlice (sz := 2) rfl rfl rfl rfl rfl rfl rfl rfl (by decide) rfl rfl rfl (fun r20 => ?_))
                    refine ExL.op rfl (op_append (sz := 2) (bytes := 16) (i := 1) rfl rfl rfl rfl (Reads.row (i := 0) rfl) rfl (fun e => nomatch e) rfl rfl rfl rfl (by constructor <;> first | omega | (unfold maxLen; omega)) rfl rfl (fun A21 cA21 => ?_))
                    refine ExL.pures 1 rfl ?_
                    refine ExL.nil ?_
                    refine Ex.region (ExL.pures 1 rfl ?_)
                    refine ExL.free (by first | exact fr_add64 rfl rfl rfl (by omega) | exact fr_add rfl rfl rfl) rfl rfl rfl ?_
                    refine ExL.pures 1 rfl ?_
                    refine ExL.nil ?_
                    refine Hand.mk ((⟨q.i, q.j + 1, q.o ++ [t.getD q.j zP], A21, cA21⟩ : MSt)) 2 [1] ⟨(by first | rfl | (rw [List.length_append]; rfl)), rfl, rfl, trivial⟩ ⟨rfl, rfl, trivial⟩ (by first | rfl | (rw [List.length_append, List.flatMap_append]; rfl)) rfl ((hI.tk (by omega) (by omega))) ((by dsimp only; omega))
                  · refine ExD.take (i := 21) rfl (by kernel_rfl) (pureVal_ok rfl) ((List.Sublist.refl _)) rfl rfl rfl ?_
                    refine ExD.take (i := 22) rfl (by kernel_rfl) (pureVal_ok rfl) ((List.Sublist.refl _)) rfl rfl rfl ?_
                    refine ExD.done (by kernel_rfl) ?_
                    refine Ex.cond_f rfl ?_
                    refine Ex.regSeq (ExL.pures 3 rfl ?_)
                    refine ExL.free (fr_indexAddrF (Reads.old hs) encP_len rfl rfl rfl rfl rfl rfl (by omega)) rfl rfl rfl ?_
                    refine ExL.free (fr_loadN rfl rfl rfl rfl rfl (segJ (q.i) (Reads.old hs) encP_len rfl zP (by omega) (by omega))) rfl rfl rfl ?_
                    refine ExL.op rfl (op_buildSlice (sz := 2) rfl rfl rfl rfl rfl rfl rfl rfl (by decide) rfl rfl rfl (fun r23 => ?_))
                    refine ExL.op rfl (op_append (sz := 2) (bytes := 16) (i := 1) rfl rfl rfl rfl (Reads.row (i := 0) rfl) rfl (fun e => nomatch e) rfl rfl rfl rfl (by constructor <;> first | omega | (unfold maxLen; omega)) rfl rfl (fun A24 cA24 => ?_))
                    refine ExL.pures 1 rfl ?_
                    refine ExL.nil ?_
                    refine Ex.region (ExL.pures 1 rfl ?_)
                    refine ExL.free (by first | exact fr_add64 rfl rfl rfl (by omega) | exact fr_add rfl rfl rfl) rfl rfl rfl ?_
                    refine ExL.pures 1 rfl ?_
                    refine ExL.nil ?_
                    refine Hand.mk ((⟨q.i + 1, q.j, q.o ++ [s.getD q.i zP], A24, cA24⟩ : MSt)) 2 [1] ⟨(by first | rfl | (rw [List.length_append]; rfl)), rfl, rfl, trivial⟩ ⟨rfl, rfl, trivial⟩ (by first | rfl | (rw [List.length_append, List.flatMap_append]; rfl)) rfl ((hI.sk (by omega) (by omega))) ((by dsimp only; omega))
                · refine ExD.take (i := 9) rfl (by kernel_rfl) (pureVal_ok rfl) ((List.Sublist.refl _)) rfl rfl rfl ?_
                  refine ExD.pass (i := 10) rfl (by kernel_rfl) ((List.Sublist.refl _)) rfl rfl rfl ?_
                  refine ExD.pass (i := 11) rfl (by kernel_rfl) ((List.Sublist.refl _)) rfl rfl rfl ?_
                  refine ExD.pass (i := 12) rfl (by kernel_rfl) ((List.Sublist.refl _)) rfl rfl rfl ?_
                  refine ExD.pass (i := 13) rfl (by kernel_rfl) ((List.Sublist.refl _)) rfl rfl rfl ?_
                  refine ExD.pass (i := 14) rfl (by kernel_rfl) ((List.Sublist.refl _)) rfl rfl rfl ?_
                  refine ExD.pass (i := 15) rfl (by kernel_rfl) ((List.Sublist.refl _)) rfl rfl rfl ?_
                  refine ExD.pass (i := 16) rfl (by kernel_rfl) ((List.Sublist.refl _)) rfl rfl rfl ?_
                  refine ExD.pass (i := 17) rfl (by kernel_rfl) ((List.Sublist.refl _)) rfl rfl rfl ?_
                  refine ExD.pass (i := 18) rfl (by kernel_rfl) ((List.Sublist.refl _)) rfl rfl rfl ?_
                  refine ExD.pass (i := 19) rfl (by kernel_rfl) ((List.Sublist.refl _)) rfl rfl rfl ?_
                  refine ExD.pass (i := 20) rfl (by kernel_rfl) ((List.Sublist.refl _)) rfl rfl rfl ?_
                  refine ExD.take (i := 21) rfl (by kernel_rfl) (pureVal_ok rfl) ((List.Sublist.refl _)) rfl rfl rfl ?_
                  refine ExD.take (i := 22) rfl (by kernel_rfl) (pureVal_ok rfl) ((List.Sublist.refl _)) rfl rfl rfl ?_
                  refine ExD.done (by kernel_rfl) ?_
                  refine Ex.cond_f rfl ?_
                  refine Ex.regSeq (ExL.pures 3 rfl ?_)
                  refine ExL.free (fr_indexAddrF (Reads.old hs) encP_len rfl rfl rfl rfl rfl rfl (by omega)) rfl rfl rfl ?_
                  refine ExL.free (fr_loadN rfl rfl rfl rfl rfl (segJ (q.i) (Reads.old hs) encP_len rfl zP (by omega) (by omega))) rfl rfl rfl ?_
                  refine ExL.op rfl (op_buildSlice (sz := 2) rfl rfl rfl rfl rfl rfl rfl rfl (by decide) rfl rfl rfl (fun r26 => ?_))
                  refine ExL.op rfl (op_append (sz := 2) (bytes := 16) (i := 1) rfl rfl rfl rfl (Reads.row (i := 0) rfl) rfl (fun e => nomatch e) rfl rfl rfl rfl (by constructor <;> first | omega | (unfold maxLen; omega)) rfl rfl (fun A27 cA27 => ?_))
                  refine ExL.pures 1 rfl ?_
                  refine ExL.nil ?_
                  refine Ex.region (ExL.pures 1 rfl ?_)
                  refine ExL.free (by first | exact fr_add64 rfl rfl rfl (by omega) | exact fr_add rfl rfl rfl) rfl rfl rfl ?_
                  refine ExL.pures 1 rfl ?_
                  refine ExL.nil ?_
                  refine Hand.mk ((⟨q.i + 1, q.j, q.o ++ [s.getD q.i zP], A27, cA27⟩ : MSt)) 2 [1] ⟨(by first | rfl | (rw [List.length_append]; rfl)), rfl, rfl, trivial⟩ ⟨rfl, rfl, trivial⟩ (by first | rfl | (rw [List.length_append, List.flatMap_append]; rfl)) rfl ((hI.sk (by omega) (by omega))) ((by dsimp only; omega))
          · refine ExD.take (i := 9) rfl (by kernel_rfl) (pureVal_ok rfl) ((List.Sublist.refl _)) rfl rfl rfl ?_
            refine ExD.take (i := 10) rfl (by kernel_rfl) (pureVal_ok rfl) ((List.Sublist.refl _)) rfl rfl rfl ?_
            refine ExD.pass (i := 11) rfl (by kernel_rfl) ((List.Sublist.refl _)) rfl rfl rfl ?_
            refine ExD.pass (i := 12) rfl (by kernel_rfl) ((List.Sublist.refl _)) rfl rfl rfl ?_
            refine ExD.pass (i := 13) rfl (by kernel_rfl) ((List.Sublist.refl _)) rfl rfl rfl ?_
            refine ExD.pass (i := 14) rfl (by kernel_rfl) ((List.Sublist.refl _)) rfl rfl rfl ?_
            refine ExD.pass (i := 15) rfl (by kernel_rfl) ((List.Sublist.refl _)) rfl rfl rfl ?_
            refine ExD.pass (i := 16) rfl (by kernel_rfl) ((List.Sublist.refl _)) rfl rfl rfl ?_
            refine ExD.pass (i := 17) rfl (by kernel_rfl) ((List.Sublist.refl _)) rfl rfl rfl ?_
            refine ExD.pass (i := 18) rfl (by kernel_rfl) ((List.Sublist.refl _)) rfl rfl rfl ?_
            refine ExD.pass (i := 19) rfl (by kernel_rfl) ((List.Sublist.refl _)) rfl rfl rfl ?_
            refine ExD.pass (i := 20) rfl (by kernel_rfl) ((List.Sublist.refl _)) rfl rfl rfl ?_
            refine ExD.pass (i := 21) rfl (by kernel_rfl) ((List.Sublist.refl _)) rfl rfl rfl ?_
            refine ExD.take (i := 22) rfl (by kernel_rfl) (pureVal_ok rfl) ((List.Sublist.refl _)) rfl rfl rfl ?_
            refine ExD.done (by kernel_rfl) ?_
            refine Ex.cond_f rfl ?_
            refine Ex.skip ?_
            refine Ex.drawSeqM rfl ?_
            refine ExD.take (i := 0) rfl (by kernel_rfl) (pureVal_ok rfl) ((List.Sublist.refl _)) rfl rfl rfl ?_
            refine ExD.take (i := 1) rfl (by kernel_rfl) (pureVal_ok rfl) ((List.Sublist.refl _)) rfl rfl rfl ?_
            refine ExD.take (i := 2) rfl (by kernel_rfl) (pureVal_ok rfl) ((List.Sublist.refl _)) rfl rfl rfl ?_
            refine ExD.cmp_eql (i := 3) rfl (by kernel_rfl) rfl rfl rfl ((List.Sublist.refl _)) rfl rfl rfl (fun h29 => ?_) (fun h29 => ?_)
            · refine ExD.take (i := 4) rfl (by kernel_rfl) (pureVal_ok rfl) ((List.Sublist.refl _)) rfl rfl rfl ?_
              refine ExD.pass (i := 5) rfl (by kernel_rfl) ((List.Sublist.refl _)) rfl rfl rfl ?_
              refine ExD.pass (i := 6) rfl (by kernel_rfl) ((List.Sublist.refl _)) rfl rfl rfl ?_
              refine ExD.pass (i := 7) rfl (by kernel_rfl) ((List.Sublist.refl _)) rfl rfl rfl ?_
              refine ExD.pass (i := 8) rfl (by kernel_rfl) ((List.Sublist.refl _)) rfl rfl rfl ?_
              refine ExD.pass (i := 9) rfl (by kernel_rfl) ((List.Sublist.refl _)) rfl rfl rfl ?_
              refine ExD.pass (i := 10) rfl (by kernel_rfl) ((List.Sublist.refl _)) rfl rfl rfl ?_
              refine ExD.pass (i := 11) rfl (by kernel_rfl) ((List.Sublist.refl _)) rfl rfl rfl ?_
              refine ExD.pass (i := 12) rfl (by kernel_rfl) ((List.Sublist.refl _)) rfl rfl rfl ?_
              refine ExD.pass (i := 13) rfl (by kernel_rfl) ((List.Sublist.refl _)) rfl rfl rfl ?_
              refine ExD.pass (i := 14) rfl (by kernel_rfl) ((List.Sublist.refl _)) rfl rfl rfl ?_
              refine ExD.pass (i := 15) rfl (by kernel_rfl) ((List.Sublist.refl _)) rfl rfl rfl ?_
              refine ExD.pass (i := 16) rfl (by kernel_rfl) ((List.Sublist.refl _)) rfl rfl rfl ?_
              refine ExD.pass (i := 17) rfl (by kernel_rfl) ((List.Sublist.refl _)) rfl rfl rfl ?_
              refine ExD.pass (i := 18) rfl (by kernel_rfl) ((List.Sublist.refl _)) rfl rfl rfl ?_
              refine ExD.pass (i := 19) rfl (by kernel_rfl) ((List.Sublist.refl _)) rfl rfl rfl ?_
              refine ExD.pass (i := 20) rfl (by kernel_rfl) ((List.Sublist.refl _)) rfl rfl rfl ?_
              refine ExD.pass (i := 21) rfl (by kernel_rfl) ((List.Sublist.refl _)) rfl rfl rfl ?_
              refine ExD.take (i := 22) rfl (by kernel_rfl) (pureVal_ok rfl) ((List.Sublist.refl _)) rfl rfl rfl ?_
              refine ExD.done (by kernel_rfl) ?_
              refine Ex.cond_t rfl ?_
              refine Ex.regSeq (ExL.pures 3 rfl ?_)
              refine ExL.free (fr_indexAddrF (Reads.old ht) encP_len rfl rfl rfl rfl rfl rfl (by omega)) rfl rfl rfl ?_
              refine ExL.free (fr_loadN rfl rfl rfl rfl rfl (segJ (q.j) (Reads.old ht) encP_len rfl zP (by omega) (by omega))) rfl rfl rfl ?_
              refine ExL.op rfl (op_buildSlice (sz := 2) rfl rfl rfl rfl rfl rfl rfl rfl (by decide) rfl rfl rfl (fun r30 => ?_))
              refine ExL.op rfl (op_append (sz := 2) (bytes := 16) (i := 1) rfl rfl rfl rfl (Reads.row (i := 0) rfl) rfl (fun e => nomatch e) rfl rfl rfl rfl (by constructor <;> first | omega | (unfold maxLen; omega)) rfl rfl (fun A31 cA31 => ?_))
              refine ExL.pures 1 rfl ?_
              refine ExL.nil ?_
              refine Ex.region (ExL.pures 1 rfl ?_)
              refine ExL.free (by first | exact fr_add64 rfl rfl rfl (by omega) | exact fr_add rfl rfl rfl) rfl rfl rfl ?_
              refine ExL.pures 1 rfl ?_
              refine ExL.nil ?_
              refine Hand.mk ((⟨q.i, q.j + 1, q.o ++ [t.getD q.j zP], A31, cA31⟩ : MSt)) 2 [1] ⟨(by first | rfl | (rw [List.length_append]; rfl)), rfl, rfl, trivial⟩ ⟨rfl, rfl, trivial⟩ (by first | rfl | (rw [List.length_append, List.flatMap_append]; rfl)) rfl ((hI.tk (by omega) (by omega))) ((by dsimp only; omega))
            · refine ExD.take (i := 4) rfl (by kernel_rfl) (pureVal_ok rfl) ((List.Sublist.refl _)) rfl rfl rfl ?_
              refine ExD.take (i := 5) rfl (by kernel_rfl) (pureVal_ok rfl) ((List.Sublist.refl _)) rfl rfl rfl ?_
              refine ExD.take (i := 6) rfl (by kernel_rfl) (pureVal_ok rfl) ((List.Sublist.refl _)) rfl rfl rfl ?_
              refine ExD.take (i := 7) rfl (by kernel_rfl) (pureVal_ok rfl) ((List.Sublist.refl _)) rfl rfl rfl ?_
              refine ExD.cmp_lss (i := 8) rfl (by kernel_rfl) rfl rfl rfl ((List.Sublist.refl _)) rfl rfl rfl (fun h33 => ?_) (fun h33 => ?_)
              · refine ExD.take (i := 9) rfl (by kernel_rfl) (pureVal_ok rfl) ((List.Sublist.refl _)) rfl rfl rfl ?_
                refine ExD.take (i := 10) rfl (by kernel_rfl) (pureVal_ok rfl) ((List.Sublist.refl _)) rfl rfl rfl ?_
                refine ExD.take (i := 11) rfl (by kernel_rfl) (pureVal_ok rfl) ((List.Sublist.refl _)) rfl rfl rfl ?_
                refine ExD.take (i := 12) rfl (by kernel_rfl) (fr_indexAddrF (Reads.old ht) encP_len rfl rfl rfl rfl rfl rfl (by omega)) ((List.Sublist.refl _)) rfl rfl rfl ?_
                refine ExD.take (i := 13) rfl (by kernel_rfl) (fr_fieldAddrF (i := (↑q.j : Int).toNat) (Reads.old ht) encP_len rfl rfl rfl (by omega) rfl rfl rfl rfl) ((List.Sublist.refl _)) rfl rfl rfl ?_
                refine ExD.take (i := 14) rfl (by kernel_rfl) (fr_load rfl rfl rfl rfl (cellJ (i := ↑q.j) (q.j) (Reads.old ht) encP_len zP 0 rfl (by omega) (by omega) rfl)) ((List.Sublist.refl _)) rfl rfl rfl ?_
                refine ExD.take (i := 15) rfl (by kernel_rfl) (pureVal_ok rfl) ((List.Sublist.refl _)) rfl rfl rfl ?_
                refine ExD.take (i := 16) rfl (by kernel_rfl) (pureVal_ok rfl) ((List.Sublist.refl _)) rfl rfl rfl ?_
                refine ExD.take (i := 17) rfl (by kernel_rfl) (fr_indexAddrF (Reads.old hs) encP_len rfl rfl rfl rfl rfl rfl (by omega)) ((List.Sublist.refl _)) rfl rfl rfl ?_
                refine ExD.take (i := 18) rfl (by kernel_rfl) (fr_fieldAddrF (i := (↑q.i : Int).toNat) (Reads.old hs) encP_len rfl rfl rfl (by omega) rfl rfl rfl rfl) ((List.Sublist.refl _)) rfl rfl rfl ?_
                refine ExD.take (i := 19) rfl (by kernel_rfl) (fr_load rfl rfl rfl rfl (cellJ (i := ↑q.i) (q.i) (Reads.old hs) encP_len zP 0 rfl (by omega) (by omega) rfl)) ((List.Sublist.refl _)) rfl rfl rfl ?_
                refine ExD.cmp_lss (i := 20) rfl (by kernel_rfl) rfl rfl rfl ((List.Sublist.refl _)) rfl rfl rfl (fun h34 => ?_) (fun h34 => ?_)
                · refine ExD.take (i := 21) rfl (by kernel_rfl) (pureVal_ok rfl) ((List.Sublist.refl _)) rfl rfl rfl ?_
                  refine ExD.take (i := 22) rfl (by kernel_rfl) (pureVal_ok rfl) ((List.Sublist.refl _)) rfl rfl rfl ?_
                  refine ExD.done (by kernel_rfl) ?_
                  refine Ex.cond_t rfl ?_
                  refine Ex.regSeq (ExL.pures 3 rfl ?_)
                  refine ExL.free (fr_indexAddrF (Reads.old ht) encP_len rfl rfl rfl rfl rfl rfl (by omega)) rfl rfl rfl ?_
                  refine ExL.free (fr_loadN rfl rfl rfl rfl rfl (segJ (q.j) (Reads.old ht) encP_len rfl zP (by omega) (by omega))) rfl rfl rfl ?_
                  refine ExL.op rfl (op_buildSlice (sz := 2) rfl rfl rfl rfl rfl rfl rfl rfl (by decide) rfl rfl rfl (fun r35 => ?_))
                  refine ExL.op rfl (op_append (sz := 2) (bytes := 16) (i := 1) rfl rfl rfl rfl (Reads.row (i := 0) rfl) rfl (fun e => nomatch e) rfl rfl rfl rfl (by constructor <;> first | omega | (unfold maxLen; omega)) rfl rfl (fun A36 cA36 => ?_))
                  refine ExL.pures 1 rfl ?_
                  refine ExL.nil ?_
                  refine Ex.region (ExL.pures 1 rfl ?_)
                  refine ExL.free (by first | exact fr_add64 rfl rfl rfl (by omega) | exact fr_add rfl rfl rfl) rfl rfl rfl ?_
                  refine ExL.pures 1 rfl ?_
                  refine ExL.nil ?_
                  refine Hand.mk ((⟨q.i, q.j + 1, q.o ++ [t.getD q.j zP], A36, cA36⟩ : MSt)) 2 [1] ⟨(by first | rfl | (rw [List.length_append]; rfl)), rfl, rfl, trivial⟩ ⟨rfl, rfl, trivial⟩ (by first | rfl | (rw [List.length_append, List.flatMap_append]; rfl)) rfl ((hI.tk (by omega) (by omega))) ((by dsimp only; omega))
                · refine ExD.take (i := 21) rfl (by kernel_rfl) (pureVal_ok rfl) ((List.Sublist.refl _)) rfl rfl rfl ?_
                  refine ExD.take (i := 22) rfl (by kernel_rfl) (pureVal_ok rfl) ((List.Sublist.refl _)) rfl rfl rfl ?_
                  refine ExD.done (by kernel_rfl) ?_
                  refine Ex.cond_f rfl ?_
                  refine Ex.regSeq (ExL.pures 3 rfl ?_)
                  refine ExL.free (fr_indexAddrF (Reads.old hs) encP_len rfl rfl rfl rfl rfl rfl (by omega)) rfl rfl rfl ?_
                  refine ExL.free (fr_loadN rfl rfl rfl rfl rfl (segJ (q.i) (Reads.old hs) encP_len rfl zP (by omega) (by omega))) rfl rfl rfl ?_
                  refine ExL.op rfl (op_buildSlice (sz := 2) rfl rfl rfl rfl rfl rfl rfl rfl (by decide) rfl rfl rfl (fun r38 => ?_))
                  refine ExL.op rfl (op_append (sz := 2) (bytes := 16) (i := 1) rfl rfl rfl rfl (Reads.row (i := 0) rfl) rfl (fun e => nomatch e) rfl rfl rfl rfl (by constructor <;> first | omega | (unfold maxLen; omega)) rfl rfl (fun A39 cA39 => ?_))
                  refine ExL.pures 1 rfl ?_
                  refine ExL.nil ?_
                  refine Ex.region (ExL.pures 1 rfl ?_)
                  refine ExL.free (by first | exact fr_add64 rfl rfl rfl (by omega) | exact fr_add rfl rfl rfl) rfl rfl rfl ?_
                  refine ExL.pures 1 rfl ?_
                  refine ExL.nil ?_
                  refine Hand.mk ((⟨q.i + 1, q.j, q.o ++ [s.getD q.i zP], A39, cA39⟩ : MSt)) 2 [1] ⟨(by first | rfl | (rw [List.length_append]; rfl)), rfl, rfl, trivial⟩ ⟨rfl, rfl, trivial⟩ (by first | rfl | (rw [List.length_append, List.flatMap_append]; rfl)) rfl ((hI.sk (by omega) (by omega))) ((by dsimp only; omega))
              · refine ExD.take (i := 9) rfl (by kernel_rfl) (pureVal_ok rfl) ((List.Sublist.refl _)) rfl rfl rfl ?_
                refine ExD.pass (i := 10) rfl (by kernel_rfl) ((List.Sublist.refl _)) rfl rfl rfl ?_
                refine ExD.pass (i := 11) rfl (by kernel_rfl) ((List.Sublist.refl _)) rfl rfl rfl ?_
                refine ExD.pass (i := 12) rfl (by kernel_rfl) ((List.Sublist.refl _)) rfl rfl rfl ?_
                refine ExD.pass (i := 13) rfl (by kernel_rfl) ((List.Sublist.refl _)) rfl rfl rfl ?_
                refine ExD.pass (i := 14) rfl (by kernel_rfl) ((List.Sublist.refl _)) rfl rfl rfl ?_
                refine ExD.pass (i := 15) rfl (by kernel_rfl) ((List.Sublist.refl _)) rfl rfl rfl ?_
                refine ExD.pass (i := 16) rfl (by kernel_rfl) ((List.Sublist.refl _)) rfl rfl rfl ?_
                refine ExD.pass (i := 17) rfl (by kernel_rfl) ((List.Sublist.refl _)) rfl rfl rfl ?_
                refine ExD.pass (i := 18) rfl (by kernel_rfl) ((List.Sublist.refl _)) rfl rfl rfl ?_
                refine ExD.pass (i := 19) rfl (by kernel_rfl) ((List.Sublist.refl _)) rfl rfl rfl ?_
                refine ExD.pass (i := 20) rfl (by kernel_rfl) ((List.Sublist.refl _)) rfl rfl rfl ?_
                refine ExD.take (i := 21) rfl (by kernel_rfl) (pureVal_ok rfl) ((List.Sublist.refl _)) rfl rfl rfl ?_
                refine ExD.take (i := 22) rfl (by kernel_rfl) (pureVal_ok rfl) ((List.Sublist.refl _)) rfl rfl rfl ?_
                refine ExD.done (by kernel_rfl) ?_
                refine Ex.cond_f rfl ?_
                refine Ex.regSeq (ExL.pures 3 rfl ?_)
                refine ExL.free (fr_indexAddrF (Reads.old hs) encP_len rfl rfl rfl rfl rfl rfl (by omega)) rfl rfl rfl ?_
                refine ExL.free (fr_loadN rfl rfl rfl rfl rfl (segJ (q.i) (Reads.old hs) encP_len rfl zP (by omega) (by omega))) rfl rfl rfl ?_
                refine ExL.op rfl (op_buildSlice (sz := 2) rfl rfl rfl rfl rfl rfl rfl rfl (by decide) rfl rfl rfl (fun r41 => ?_))
                refine ExL.op rfl (op_append (sz := 2) (bytes := 16) (i := 1) rfl rfl rfl rfl (Reads.row (i := 0) rfl) rfl (fun e => nomatch e) rfl rfl rfl rfl (by constructor <;> first | omega | (unfold maxLen; omega)) rfl rfl (fun A42 cA42 => ?_))
                refine ExL.pures 1 rfl ?_
                refine ExL.nil ?_
                refine Ex.region (ExL.pures 1 rfl ?_)
                refine ExL.free (by first | exact fr_add64 rfl rfl rfl (by omega) | exact fr_add rfl rfl rfl) rfl rfl rfl ?_
                refine ExL.pures 1 rfl ?_
                refine ExL.nil ?_
                refine Hand.mk ((⟨q.i + 1, q.j, q.o ++ [s.getD q.i zP], A42, cA42⟩ : MSt)) 2 [1] ⟨(by first | rfl | (rw [List.length_append]; rfl)), rfl, rfl, trivial⟩ ⟨rfl, rfl, trivial⟩ (by first | rfl | (rw [List.length_append, List.flatMap_append]; rfl)) rfl ((hI.sk (by omega) (by omega))) ((by dsimp only; omega))
        · refine ExD.take (i := 4) rfl (by kernel_rfl) (pureVal_ok rfl) ((List.Sublist.refl _)) rfl rfl rfl ?_
          refine ExD.pass (i := 5) rfl (by kernel_rfl) ((List.Sublist.refl _)) rfl rfl rfl ?_
          refine ExD.pass (i := 6) rfl (by kernel_rfl) ((List.Sublist.refl _)) rfl rfl rfl ?_
          refine ExD.pass (i := 7) rfl (by kernel_rfl) ((List.Sublist.refl _)) rfl rfl rfl ?_
          refine ExD.pass (i := 8) rfl (by kernel_rfl) ((List.Sublist.refl _)) rfl rfl rfl ?_
          refine ExD.take (i := 9) rfl (by kernel_rfl) (pureVal_ok rfl) ((List.Sublist.refl _)) rfl rfl rfl ?_
          refine ExD.take (i := 10) rfl (by kernel_rfl) (pureVal_ok rfl) ((List.Sublist.refl _)) rfl rfl rfl ?_
          refine ExD.pass (i := 11) rfl (by kernel_rfl) ((List.Sublist.refl _)) rfl rfl rfl ?_
          refine ExD.pass (i := 12) rfl (by kernel_rfl) ((List.Sublist.refl _)) rfl rfl rfl ?_
          refine ExD.pass (i := 13) rfl (by kernel_rfl) ((List.Sublist.refl _)) rfl rfl rfl ?_
          refine ExD.pass (i := 14) rfl (by kernel_rfl) ((List.Sublist.refl _)) rfl rfl rfl ?_
          refine ExD.pass (i := 15) rfl (by kernel_rfl) ((List.Sublist.refl _)) rfl rfl rfl ?_
          refine ExD.pass (i := 16) rfl (by kernel_rfl) ((List.Sublist.refl _)) rfl rfl rfl ?_
          refine ExD.pass (i := 17) rfl (by kernel_rfl) ((List.Sublist.refl _)) rfl rfl rfl ?_
          refine ExD.pass (i := 18) rfl (by kernel_rfl) ((List.Sublist.refl _)) rfl rfl rfl ?_
          refine ExD.pass (i := 19) rfl (by kernel_rfl) ((List.Sublist.refl _)) rfl rfl rfl ?_
          refine ExD.pass (i := 20) rfl (by kernel_rfl) ((List.Sublist.refl _)) rfl rfl rfl ?_
          refine ExD.pass (i := 21) rfl (by kernel_rfl) ((List.Sublist.refl _)) rfl rfl rfl ?_
          refine ExD.take (i := 22) rfl (by kernel_rfl) (pureVal_ok rfl) ((List.Sublist.refl _)) rfl rfl rfl ?_
          refine ExD.done (by kernel_rfl) ?_
          refine Ex.cond_f rfl ?_
          refine Ex.skip ?_
          refine Ex.drawSeqM rfl ?_
          refine ExD.take (i := 0) rfl (by kernel_rfl) (pureVal_ok rfl) ((List.Sublist.refl _)) rfl rfl rfl ?_
          refine ExD.take (i := 1) rfl (by kernel_rfl) (pureVal_ok rfl) ((List.Sublist.refl _)) rfl rfl rfl ?_
          refine ExD.take (i := 2) rfl (by kernel_rfl) (pureVal_ok rfl) ((List.Sublist.refl _)) rfl rfl rfl ?_
          refine ExD.cmp_eql (i := 3) rfl (by kernel_rfl) rfl rfl rfl ((List.Sublist.refl _)) rfl rfl rfl (fun h44 => ?_) (fun h44 => ?_)
          · refine ExD.take (i := 4) rfl (by kernel_rfl) (pureVal_ok rfl) ((List.Sublist.refl _)) rfl rfl rfl ?_
            refine ExD.pass (i := 5) rfl (by kernel_rfl) ((List.Sublist.refl _)) rfl rfl rfl ?_
            refine ExD.pass (i := 6) rfl (by kernel_rfl) ((List.Sublist.refl _)) rfl rfl rfl ?_
            refine ExD.pass (i := 7) rfl (by kernel_rfl) ((List.Sublist.refl _)) rfl rfl rfl ?_
            refine ExD.pass (i := 8) rfl (by kernel_rfl) ((List.Sublist.refl _)) rfl rfl rfl ?_
            refine ExD.pass (i := 9) rfl (by kernel_rfl) ((List.Sublist.refl _)) rfl rfl rfl ?_
            refine ExD.pass (i := 10) rfl (by kernel_rfl) ((List.Sublist.refl _)) rfl rfl rfl ?_
            refine ExD.pass (i := 11) rfl (by kernel_rfl) ((List.Sublist.refl _)) rfl rfl rfl ?_
            refine ExD.pass (i := 12) rfl (by kernel_rfl) ((List.Sublist.refl _)) rfl rfl rfl ?_
            refine ExD.pass (i := 13) rfl (by kernel_rfl) ((List.Sublist.refl _)) rfl rfl rfl ?_
            refine ExD.pass (i := 14) rfl (by kernel_rfl) ((List.Sublist.refl _)) rfl rfl rfl ?_
            refine ExD.pass (i := 15) rfl (by kernel_rfl) ((List.Sublist.refl _)) rfl rfl rfl ?_
            refine ExD.pass (i := 16) rfl (by kernel_rfl) ((List.Sublist.refl _)) rfl rfl rfl ?_
            refine ExD.pass (i := 17) rfl (by kernel_rfl) ((List.Sublist.refl _)) rfl rfl rfl ?_
            refine ExD.pass (i := 18) rfl (by kernel_rfl) ((List.Sublist.refl _)) rfl rfl rfl ?_
            refine ExD.pass (i := 19) rfl (by kernel_rfl) ((List.Sublist.refl _)) rfl rfl rfl ?_
            refine ExD.pass (i := 20) rfl (by kernel_rfl) ((List.Sublist.refl _)) rfl rfl rfl ?_
            refine ExD.pass (i := 21) rfl (by kernel_rfl) ((List.Sublist.refl _)) rfl rfl rfl ?_
            refine ExD.take (i := 22) rfl (by kernel_rfl) (pureVal_ok rfl) ((List.Sublist.refl _)) rfl rfl rfl ?_
            refine ExD.done (by kernel_rfl) ?_
            refine Ex.cond_t rfl ?_
            refine Ex.regSeq (ExL.pures 3 rfl ?_)
            refine ExL.free (fr_indexAddrF (Reads.old ht) encP_len rfl rfl rfl rfl rfl rfl (by omega)) rfl rfl rfl ?_
            refine ExL.free (fr_loadN rfl rfl rfl rfl rfl (segJ (q.j) (Reads.old ht) encP_len rfl zP (by omega) (by omega))) rfl rfl rfl ?_
            refine ExL.op rfl (op_buildSlice (sz := 2) rfl rfl rfl rfl rfl rfl rfl rfl (by decide) rfl rfl rfl (fun r45 => ?_))
            refine ExL.op rfl (op_append (sz := 2) (bytes := 16) (i := 1) rfl rfl rfl rfl (Reads.row (i := 0) rfl) rfl (fun e => nomatch e) rfl rfl rfl rfl (by constructor <;> first | omega | (unfold maxLen; omega)) rfl rfl (fun A46 cA46 => ?_))
            refine ExL.pures 1 rfl ?_
            refine ExL.nil ?_
            refine Ex.region (ExL.pures 1 rfl ?_)
            refine ExL.free (by first | exact fr_add64 rfl rfl rfl (by omega) | exact fr_add rfl rfl rfl) rfl rfl rfl ?_
            refine ExL.pures 1 rfl ?_
            refine ExL.nil ?_
            refine Hand.mk ((⟨q.i, q.j + 1, q.o ++ [t.getD q.j zP], A46, cA46⟩ : MSt)) 2 [1] ⟨(by first | rfl | (rw [List.length_append]; rfl)), rfl, rfl, trivial⟩ ⟨rfl, rfl, trivial⟩ (by first | rfl | (rw [List.length_append, List.flatMap_append]; rfl)) rfl ((hI.tk (by omega) (by omega))) ((by dsimp only; omega))
          · refine ExD.take (i := 4) rfl (by kernel_rfl) (pureVal_ok rfl) ((List.Sublist.refl _)) rfl rfl rfl ?_
            refine ExD.take (i := 5) rfl (by kernel_rfl) (pureVal_ok rfl) ((List.Sublist.refl _)) rfl rfl rfl ?_
            refine ExD.take (i := 6) rfl (by kernel_rfl) (pureVal_ok rfl) ((List.Sublist.refl _)) rfl rfl rfl ?_
            refine ExD.take (i := 7) rfl (by kernel_rfl) (pureVal_ok rfl) ((List.Sublist.refl _)) rfl rfl rfl ?_
            refine ExD.cmp_lss (i := 8) rfl (by kernel_rfl) rfl rfl rfl ((List.Sublist.refl _)) rfl rfl rfl (fun h48 => ?_) (fun h48 => ?_)
            · refine ExD.take (i := 9) rfl (by kernel_rfl) (pureVal_ok rfl) ((List.Sublist.refl _)) rfl rfl rfl ?_
              refine ExD.take (i := 10) rfl (by kernel_rfl) (pureVal_ok rfl) ((List.Sublist.refl _)) rfl rfl rfl ?_
              refine ExD.take (i := 11) rfl (by kernel_rfl) (pureVal_ok rfl) ((List.Sublist.refl _)) rfl rfl rfl ?_
              refine ExD.take (i := 12) rfl (by kernel_rfl) (fr_indexAddrF (Reads.old ht) encP_len rfl rfl rfl rfl rfl rfl (by omega)) ((List.Sublist.refl _)) rfl rfl rfl ?_
              refine ExD.take (i := 13) rfl (by kernel_rfl) (fr_fieldAddrF (i := (↑q.j : Int).toNat) (Reads.old ht) encP_len rfl rfl rfl (by omega) rfl rfl rfl rfl) ((List.Sublist.refl _)) rfl rfl rfl ?_
              refine ExD.take (i := 14) rfl (by kernel_rfl) (fr_load rfl rfl rfl rfl (cellJ (i := ↑q.j) (q.j) (Reads.old ht) encP_len zP 0 rfl (by omega) (by omega) rfl)) ((List.Sublist.refl _)) rfl rfl rfl ?_
              refine ExD.take (i := 15) rfl (by kernel_rfl) (pureVal_ok rfl) ((List.Sublist.refl _)) rfl rfl rfl ?_
              refine ExD.take (i := 16) rfl (by kernel_rfl) (pureVal_ok rfl) ((List.Sublist.refl _)) rfl rfl rfl ?_
              refine ExD.take (i := 17) rfl (by kernel_rfl) (fr_indexAddrF (Reads.old hs) encP_len rfl rfl rfl rfl rfl rfl (by omega)) ((List.Sublist.refl _)) rfl rfl rfl ?_
              refine ExD.take (i := 18) rfl (by kernel_rfl) (fr_fieldAddrF (i := (↑q.i : Int).toNat) (Reads.old hs) encP_len rfl rfl rfl (by omega) rfl rfl rfl rfl) ((List.Sublist.refl _)) rfl rfl rfl ?_
              refine ExD.take (i := 19) rfl (by kernel_rfl) (fr_load rfl rfl rfl rfl (cellJ (i := ↑q.i) (q.i) (Reads.old hs) encP_len zP 0 rfl (by omega) (by omega) rfl)) ((List.Sublist.refl _)) rfl rfl rfl ?_
              refine ExD.cmp_lss (i := 20) rfl (by kernel_rfl) rfl rfl rfl ((List.Sublist.refl _)) rfl rfl rfl (fun h49 => ?_) (fun h49 => ?_)
              · refine ExD.take (i := 21) rfl (by kernel_rfl) (pureVal_ok rfl) ((List.Sublist.refl _)) rfl rfl rfl ?_
                refine ExD.take (i := 22) rfl (by kernel_rfl) (pureVal_ok rfl) ((List.Sublist.refl _)) rfl rfl rfl ?_
                refine ExD.done (by kernel_rfl) ?_
                refine Ex.cond_t rfl ?_
                refine Ex.regSeq (ExL.pures 3 rfl ?_)
                refine ExL.free (fr_indexAddrF (Reads.old ht) encP_len rfl rfl rfl rfl rfl rfl (by omega)) rfl rfl rfl ?_
                refine ExL.free (fr_loadN rfl rfl rfl rfl rfl (segJ (q.j) (Reads.old ht) encP_len rfl zP (by omega) (by omega))) rfl rfl rfl ?_
                refine ExL.op rfl (op_buildSlice (sz := 2) rfl rfl rfl rfl rfl rfl rfl rfl (by decide) rfl rfl rfl (fun r50 => ?_))
                refine ExL.op rfl (op_append (sz := 2) (bytes := 16) (i := 1) rfl rfl rfl rfl (Reads.row (i := 0) rfl) rfl (fun e => nomatch e) rfl rfl rfl rfl (by constructor <;> first | omega | (unfold maxLen; omega)) rfl rfl (fun A51 cA51 => ?_))
                refine ExL.pures 1 rfl ?_
                refine ExL.nil ?_
                refine Ex.region (ExL.pures 1 rfl ?_)
                refine ExL.free (by first | exact fr_add64 rfl rfl rfl (by omega) | exact fr_add rfl rfl rfl) rfl rfl rfl ?_
                refine ExL.pures 1 rfl ?_
                refine ExL.nil ?_
                refine Hand.mk ((⟨q.i, q.j + 1, q.o ++ [t.getD q.j zP], A51, cA51⟩ : MSt)) 2 [1] ⟨(by first | rfl | (rw [List.length_append]; rfl)), rfl, rfl, trivial⟩ ⟨rfl, rfl, trivial⟩ (by first | rfl | (rw [List.length_append, List.flatMap_append]; rfl)) rfl ((hI.tk (by omega) (by omega))) ((by dsimp only; omega))
              · refine ExD.take (i := 21) rfl (by kernel_rfl) (pureVal_ok rfl) ((List.Sublist.refl _)) rfl rfl rfl ?_
                refine ExD.take (i := 22) rfl (by kernel_rfl) (pureVal_ok rfl) ((List.Sublist.refl _)) rfl rfl rfl ?_
                refine ExD.done (by kernel_rfl) ?_
                refine Ex.cond_f rfl ?_
                refine Ex.regSeq (ExL.pures 3 rfl ?_)
                refine ExL.free (fr_indexAddrF (Reads.old hs) encP_len rfl rfl rfl rfl rfl rfl (by omega)) rfl rfl rfl ?_
                refine ExL.free (fr_loadN rfl rfl rfl rfl rfl (segJ (q.i) (Reads.old hs) encP_len rfl zP (by omega) (by omega))) rfl rfl rfl ?_
                refine ExL.op rfl (op_buildSlice (sz := 2) rfl rfl rfl rfl rfl rfl rfl rfl (by decide) rfl rfl rfl (fun r53 => ?_))
                refine ExL.op rfl (op_append (sz := 2) (bytes := 16) (i := 1) rfl rfl rfl rfl (Reads.row (i := 0) rfl) rfl (fun e => nomatch e) rfl rfl rfl rfl (by constructor <;> first | omega | (unfold maxLen; omega)) rfl rfl (fun A54 cA54 => ?_))
                refine ExL.pures 1 rfl ?_
                refine ExL.nil ?_
                refine Ex.region (ExL.pures 1 rfl ?_)
                refine ExL.free (by first | exact fr_add64 rfl rfl rfl (by omega) | exact fr_add rfl rfl rfl) rfl rfl rfl ?_
                refine ExL.pures 1 rfl ?_
                refine ExL.nil ?_
                refine Hand.mk ((⟨q.i + 1, q.j, q.o ++ [s.getD q.i zP], A54, cA54⟩ : MSt)) 2 [1] ⟨(by first | rfl | (rw [List.length_append]; rfl)), rfl, rfl, trivial⟩ ⟨rfl, rfl, trivial⟩ (by first | rfl | (rw [List.length_append, List.flatMap_append]; rfl)) rfl ((hI.sk (by omega) (by omega))) ((by dsimp only; omega))
            · refine ExD.take (i := 9) rfl (by kernel_rfl) (pureVal_ok rfl) ((List.Sublist.refl _)) rfl rfl rfl ?_
              refine ExD.pass (i := 10) rfl (by kernel_rfl) ((List.Sublist.refl _)) rfl rfl rfl ?_
              refine ExD.pass (i := 11) rfl (by kernel_rfl) ((List.Sublist.refl _)) rfl rfl rfl ?_
              refine ExD.pass (i := 12) rfl (by kernel_rfl) ((List.Sublist.refl _)) rfl rfl rfl ?_
              refine ExD.pass (i := 13) rfl (by kernel_rfl) ((List.Sublist.refl _)) rfl rfl rfl ?_
              refine ExD.pass (i := 14) rfl (by kernel_rfl) ((List.Sublist.refl _)) rfl rfl rfl ?_
              refine ExD.pass (i := 15) rfl (by kernel_rfl) ((List.Sublist.refl _)) rfl rfl rfl ?_
              refine ExD.pass (i := 16) rfl (by kernel_rfl) ((List.Sublist.refl _)) rfl rfl rfl ?_
              refine ExD.pass (i := 17) rfl (by kernel_rfl) ((List.Sublist.refl _)) rfl rfl rfl ?_
              refine ExD.pass (i := 18) rfl (by kernel_rfl) ((List.Sublist.refl _)) rfl rfl rfl ?_
              refine ExD.pass (i := 19) rfl (by kernel_rfl) ((List.Sublist.refl _)) rfl rfl rfl ?_
              refine ExD.pass (i := 20) rfl (by kernel_rfl) ((List.Sublist.refl _)) rfl rfl rfl ?_
              refine ExD.take (i := 21) rfl (by kernel_rfl) (pureVal_ok rfl) ((List.Sublist.refl _)) rfl rfl rfl ?_
              refine ExD.take (i := 22) rfl (by kernel_rfl) (pureVal_ok rfl) ((List.Sublist.refl _)) rfl rfl rfl ?_
              refine ExD.done (by kernel_rfl) ?_
              refine Ex.cond_f rfl ?_
              refine Ex.regSeq (ExL.pures 3 rfl ?_)
              refine ExL.free (fr_indexAddrF (Reads.old hs) encP_len rfl rfl rfl rfl rfl rfl (by omega)) rfl rfl rfl ?_
              refine ExL.free (fr_loadN rfl rfl rfl rfl rfl (segJ (q.i) (Reads.old hs) encP_len rfl zP (by omega) (by omega))) rfl rfl rfl ?_
              refine ExL.op rfl (op_buildSlice (sz := 2) rfl rfl rfl rfl rfl rfl rfl rfl (by decide) rfl rfl rfl (fun r56 => ?_))
              refine ExL.op rfl (op_append (sz := 2) (bytes := 16) (i := 1) rfl rfl rfl rfl (Reads.row (i := 0) rfl) rfl (fun e => nomatch e) rfl rfl rfl rfl (by constructor <;> first | omega | (unfold maxLen; omega)) rfl rfl (fun A57 cA57 => ?_))
              refine ExL.pures 1 rfl ?_
              refine ExL.nil ?_
              refine Ex.region (ExL.pures 1 rfl ?_)
              refine ExL.free (by first | exact fr_add64 rfl rfl rfl (by omega) | exact fr_add rfl rfl rfl) rfl rfl rfl ?_
              refine ExL.pures 1 rfl ?_
              refine ExL.nil ?_
              refine Hand.mk ((⟨q.i + 1, q.j, q.o ++ [s.getD q.i zP], A57, cA57⟩ : MSt)) 2 [1] ⟨(by first | rfl | (rw [List.length_append]; rfl)), rfl, rfl, trivial⟩ ⟨rfl, rfl, trivial⟩ (by first | rfl | (rw [List.length_append, List.flatMap_append]; rfl)) rfl ((hI.sk (by omega) (by omega))) ((by dsimp only; omega))
      · refine ExL.pures 4 rfl ?_
        refine ExL.lss rfl rfl rfl rfl rfl rfl (fun h59 => ?_) (fun h59 => ?_)
        · refine ExL.pures 1 rfl ?_
          refine ExL.nil ?_
          refine Ex.cond_t rfl ?_
          refine Ex.skip ?_
          refine Ex.block ?_
          refine Ex.seq ?_
          refine Ex.drawSeqM rfl ?_
          refine ExD.take (i := 0) rfl (by kernel_rfl) (pureVal_ok rfl) ((List.Sublist.refl _)) rfl rfl rfl ?_
          refine ExD.take (i := 1) rfl (by kernel_rfl) (pureVal_ok rfl) ((List.Sublist.refl _)) rfl rfl rfl ?_
          refine ExD.take (i := 2) rfl (by kernel_rfl) (pureVal_ok rfl) ((List.Sublist.refl _)) rfl rfl rfl ?_
          refine ExD.cmp_lss (i := 3) rfl (by kernel_rfl) rfl rfl rfl ((List.Sublist.refl _)) rfl rfl rfl (fun h60 => ?_) (fun h60 => ?_)
          · refine ExD.take (i := 4) rfl (by kernel_rfl) (pureVal_ok rfl) ((List.Sublist.refl _)) rfl rfl rfl ?_
            refine ExD.take (i := 5) rfl (by kernel_rfl) (pureVal_ok rfl) ((List.Sublist.refl _)) rfl rfl rfl ?_
            refine ExD.take (i := 6) rfl (by kernel_rfl) (pureVal_ok rfl) ((List.Sublist.refl _)) rfl rfl rfl ?_
            refine ExD.take (i := 7) rfl (by kernel_rfl) (pureVal_ok rfl) ((List.Sublist.refl _)) rfl rfl rfl ?_
            refine ExD.cmp_lss (i := 8) rfl (by kernel_rfl) rfl rfl rfl ((List.Sublist.refl _)) rfl rfl rfl (fun h61 => ?_) (fun h61 => ?_)
            · refine ExD.take (i := 9) rfl (by kernel_rfl) (pureVal_ok rfl) ((List.Sublist.refl _)) rfl rfl rfl ?_
              refine ExD.take (i := 10) rfl (by kernel_rfl) (pureVal_ok rfl) ((List.Sublist.refl _)) rfl rfl rfl ?_
              refine ExD.take (i := 11) rfl (by kernel_rfl) (pureVal_ok rfl) ((List.Sublist.refl _)) rfl rfl rfl ?_
              refine ExD.take (i := 12) rfl (by kernel_rfl) (pureVal_ok rfl) ((List.Sublist.refl _)) rfl rfl rfl ?_
              refine ExD.take (i := 13) rfl (by kernel_rfl) (fr_indexAddrF (Reads.old hs) encP_len rfl rfl rfl rfl rfl rfl (by omega)) ((List.Sublist.refl _)) rfl rfl rfl ?_
              refine ExD.take (i := 14) rfl (by kernel_rfl) (fr_fieldAddrF (i := (↑q.i : Int).toNat) (Reads.old hs) encP_len rfl rfl rfl (by omega) rfl rfl rfl rfl) ((List.Sublist.refl _)) rfl rfl rfl ?_
              refine ExD.take (i := 15) rfl (by kernel_rfl) (fr_load rfl rfl rfl rfl (cellJ (i := ↑q.i) (q.i) (Reads.old hs) encP_len zP 0 rfl (by omega) (by omega) rfl)) ((List.Sublist.refl _)) rfl rfl rfl ?_
              refine ExD.take (i := 16) rfl (by kernel_rfl) (pureVal_ok rfl) ((List.Sublist.refl _)) rfl rfl rfl ?_
              refine ExD.take (i := 17) rfl (by kernel_rfl) (pureVal_ok rfl) ((List.Sublist.refl _)) rfl rfl rfl ?_
              refine ExD.take (i := 18) rfl (by kernel_rfl) (fr_indexAddrF (Reads.old ht) encP_len rfl rfl rfl rfl rfl rfl (by omega)) ((List.Sublist.refl _)) rfl rfl rfl ?_
              refine ExD.take (i := 19) rfl (by kernel_rfl) (fr_fieldAddrF (i := (↑q.j : Int).toNat) (Reads.old ht) encP_len rfl rfl rfl (by omega) rfl rfl rfl rfl) ((List.Sublist.refl _)) rfl rfl rfl ?_
              refine ExD.take (i := 20) rfl (by kernel_rfl) (fr_load rfl rfl rfl rfl (cellJ (i := ↑q.j) (q.j) (Reads.old ht) encP_len zP 0 rfl (by omega) (by omega) rfl)) ((List.Sublist.refl _)) rfl rfl rfl ?_
              refine ExD.cmp_eql (i := 21) rfl (by kernel_rfl) rfl rfl rfl ((List.Sublist.refl _)) rfl rfl rfl (fun h62 => ?_) (fun h62 => ?_)
              · refine ExD.take (i := 22) rfl (by kernel_rfl) (pureVal_ok rfl) ((List.Sublist.refl _)) rfl rfl rfl ?_
                refine ExD.done (by kernel_rfl) ?_
                refine Ex.cond_t rfl ?_
                refine Ex.seq ?_
                refine Ex.drawSeqM rfl ?_
                refine ExD.take (i := 0) rfl (by kernel_rfl) (pureVal_ok rfl) ((List.Sublist.refl _)) rfl rfl rfl ?_
                refine ExD.take (i := 1) rfl (by kernel_rfl) (pureVal_ok rfl) ((List.Sublist.refl _)) rfl rfl rfl ?_
                refine ExD.take (i := 2) rfl (by kernel_rfl) (fr_indexAddrF (Reads.old hs) encP_len rfl rfl rfl rfl rfl rfl (by omega)) ((List.Sublist.refl _)) rfl rfl rfl ?_
                refine ExD.take (i := 3) rfl (by kernel_rfl) (fr_fieldAddrF (i := (↑q.i : Int).toNat) (Reads.old hs) encP_len rfl rfl rfl (by omega) rfl rfl rfl rfl) ((List.Sublist.refl _)) rfl rfl rfl ?_
                refine ExD.take (i := 4) rfl (by kernel_rfl) (fr_load rfl rfl rfl rfl (cellJ (i := ↑q.i) (q.i) (Reads.old hs) encP_len zP 1 rfl (by omega) (by omega) rfl)) ((List.Sublist.refl _)) rfl rfl rfl ?_
                refine ExD.take (i := 5) rfl (by kernel_rfl) (pureVal_ok rfl) ((List.Sublist.refl _)) rfl rfl rfl ?_
                refine ExD.take (i := 6) rfl (by kernel_rfl) (pureVal_ok rfl) ((List.Sublist.refl _)) rfl rfl rfl ?_
                refine ExD.take (i := 7) rfl (by kernel_rfl) (fr_indexAddrF (Reads.old ht) encP_len rfl rfl rfl rfl rfl rfl (by omega)) ((List.Sublist.refl _)) rfl rfl rfl ?_
                refine ExD.take (i := 8) rfl (by kernel_rfl) (fr_fieldAddrF (i := (↑q.j : Int).toNat) (Reads.old ht) encP_len rfl rfl rfl (by omega) rfl rfl rfl rfl) ((List.Sublist.refl _)) rfl rfl rfl ?_
                refine ExD.take (i := 9) rfl (by kernel_rfl) (fr_load rfl rfl rfl rfl (cellJ (i := ↑q.j) (q.j) (Reads.old ht) encP_len zP 1 rfl (by omega) (by omega) rfl)) ((List.Sublist.refl _)) rfl rfl rfl ?_
                refine ExD.cmp_neq (i := 10) rfl (by kernel_rfl) rfl rfl rfl ((List.Sublist.refl _)) rfl rfl rfl (fun h63 => ?_) (fun h63 => ?_)
                · refine ExD.done (by kernel_rfl) ?_
                  refine Ex.cond_t rfl ?_
                  have hmv := mer_8 hvv (hI.bad (by omega) (by omega) (by omega) (by omega))
                  refine Ex.regSeq (ExL.pures 0 rfl ?_)
                  refine ExL.op rfl (op_buildSlice (sz := 2) rfl rfl rfl rfl rfl rfl rfl rfl (by decide) rfl rfl rfl (fun r64 => ?_))
                  refine ExL.pures 2 rfl ?_
                  refine ExL.nil ?_
                  refine Ex.ret ?_
                  refine RetQ.mk ((some ⟨r64, 0, none⟩), 0) rfl (.tmp rfl (.tmp rfl .nil)) (t2 (by rw [hmv]; first | done | rfl) (vI (by rw [hmv]; first | done | rfl))) [0] (by rw [hmv]; first | done | rfl) rfl (trivial)
                · refine ExD.done (by kernel_rfl) ?_
                  refine Ex.cond_f rfl ?_
                  refine Ex.skip ?_
                  refine Ex.regSeq (ExL.pures 1 rfl ?_)
                  refine ExL.free (by first | exact fr_add64 rfl rfl rfl (by omega) | exact fr_add rfl rfl rfl) rfl rfl rfl ?_
                  refine ExL.pures 1 rfl ?_
                  refine ExL.nil ?_
                  refine Ex.exit ?_
                  refine Hand.mk ((⟨q.i, q.j + 1, q.o, q.A, q.c⟩ : MSt)) 1 [0] ⟨(by first | rfl | (rw [List.length_append]; rfl)), rfl, rfl, trivial⟩ ⟨rfl, rfl, trivial⟩ (by first | rfl | (rw [List.length_append, List.flatMap_append]; rfl)) rfl ((hI.skip (by omega) (by omega) (by omega) (by omega))) ((by dsimp only; omega))
              · refine ExD.take (i := 22) rfl (by kernel_rfl) (pureVal_ok rfl) ((List.Sublist.refl _)) rfl rfl rfl ?_
                refine ExD.done (by kernel_rfl) ?_
                refine Ex.cond_f rfl ?_
                refine Ex.skip ?_
                refine Ex.drawSeqM rfl ?_
                refine ExD.take (i := 0) rfl (by kernel_rfl) (pureVal_ok rfl) ((List.Sublist.refl _)) rfl rfl rfl ?_
                refine ExD.take (i := 1) rfl (by kernel_rfl) (pureVal_ok rfl) ((List.Sublist.refl _)) rfl rfl rfl ?_
                refine ExD.take (i := 2) rfl (by kernel_rfl) (pureVal_ok rfl) ((List.Sublist.refl _)) rfl rfl rfl ?_
                refine ExD.cmp_eql (i := 3) rfl (by kernel_rfl) rfl rfl rfl ((List.Sublist.refl _)) rfl rfl rfl (fun h65 => ?_) (fun h65 => ?_)
                · refine ExD.take (i := 4) rfl (by kernel_rfl) (pureVal_ok rfl) ((List.Sublist.refl _)) rfl rfl rfl ?_
                  refine ExD.pass (i := 5) rfl (by kernel_rfl) ((List.Sublist.refl _)) rfl rfl rfl ?_
                  refine ExD.pass (i := 6) rfl (by kernel_rfl) ((List.Sublist.refl _)) rfl rfl rfl ?_
                  refine ExD.pass (i := 7) rfl (by kernel_rfl) ((List.Sublist.refl _)) rfl rfl rfl ?_
                  refine ExD.pass (i := 8) rfl (by kernel_rfl) ((List.Sublist.refl _)) rfl rfl rfl ?_
                  refine ExD.pass (i := 9) rfl (by kernel_rfl) ((List.Sublist.refl _)) rfl rfl rfl ?_
                  refine ExD.pass (i := 10) rfl (by kernel_rfl) ((List.Sublist.refl _)) rfl rfl rfl ?_
                  refine ExD.pass (i := 11) rfl (by kernel_rfl) ((List.Sublist.refl _)) rfl rfl rfl ?_
                  refine ExD.pass (i := 12) rfl (by kernel_rfl) ((List.Sublist.refl _)) rfl rfl rfl ?_
                  refine ExD.pass (i := 13) rfl (by kernel_rfl) ((List.Sublist.refl _)) rfl rfl rfl ?_
                  refine ExD.pass (i := 14) rfl (by kernel_rfl) ((List.Sublist.refl _)) rfl rfl rfl ?_
                  refine ExD.pass (i := 15) rfl (by kernel_rfl) ((List.Sublist.refl _)) rfl rfl rfl ?_
                  refine ExD.pass (i := 16) rfl (by kernel_rfl) ((List.Sublist.refl _)) rfl rfl rfl ?_
                  refine ExD.pass (i := 17) rfl (by kernel_rfl) ((List.Sublist.refl _)) rfl rfl rfl ?_
                  refine ExD.pass (i := 18) rfl (by kernel_rfl) ((List.Sublist.refl _)) rfl rfl rfl ?_
                  refine ExD.pass (i := 19) rfl (by kernel_rfl) ((List.Sublist.refl _)) rfl rfl rfl ?_
                  refine ExD.pass (i := 20) rfl (by kernel_rfl) ((List.Sublist.refl _)) rfl rfl rfl ?_
                  refine ExD.pass (i := 21) rfl (by kernel_rfl) ((List.Sublist.refl _)) rfl rfl rfl ?_
                  refine ExD.take (i := 22) rfl (by kernel_rfl) (pureVal_ok rfl) ((List.Sublist.refl _)) rfl rfl rfl ?_
                  refine ExD.done (by kernel_rfl) ?_
                  refine Ex.cond_t rfl ?_
                  refine Ex.regSeq (ExL.pures 3 rfl ?_)
                  refine ExL.free (fr_indexAddrF (Reads.old ht) encP_len rfl rfl rfl rfl rfl rfl (by omega)) rfl rfl rfl ?_
                  refine ExL.free (fr_loadN rfl rfl rfl rfl rfl (segJ (q.j) (Reads.old ht) encP_len rfl zP (by omega) (by omega))) rfl rfl rfl ?_
                  refine ExL.op rfl (op_buildSlice (sz := 2) rfl rfl rfl rfl rfl rfl rfl rfl (by decide) rfl rfl rfl (fun r66 => ?_))
                  refine ExL.op rfl (op_append (sz := 2) (bytes := 16) (i := 1) rfl rfl rfl rfl (Reads.row (i := 0) rfl) rfl (fun e => nomatch e) rfl rfl rfl rfl (by constructor <;> first | omega | (unfold maxLen; omega)) rfl rfl (fun A67 cA67 => ?_))
                  refine ExL.pures 1 rfl ?_
                  refine ExL.nil ?_
                  refine Ex.region (ExL.pures 1 rfl ?_)
                  refine ExL.free (by first | exact fr_add64 rfl rfl rfl (by omega) | exact fr_add rfl rfl rfl) rfl rfl rfl ?_
                  refine ExL.pures 1 rfl ?_
                  refine ExL.nil ?_
                  refine Hand.mk ((⟨q.i, q.j + 1, q.o ++ [t.getD q.j zP], A67, cA67⟩ : MSt)) 2 [1] ⟨(by first | rfl | (rw [List.length_append]; rfl)), rfl, rfl, trivial⟩ ⟨rfl, rfl, trivial⟩ (by first | rfl | (rw [List.length_append, List.flatMap_append]; rfl)) rfl ((hI.tk (by omega) (by omega))) ((by dsimp only; omega))
                · refine ExD.take (i := 4) rfl (by kernel_rfl) (pureVal_ok rfl) ((List.Sublist.refl _)) rfl rfl rfl ?_
                  refine ExD.take (i := 5) rfl (by kernel_rfl) (pureVal_ok rfl) ((List.Sublist.refl _)) rfl rfl rfl ?_
                  refine ExD.take (i := 6) rfl (by kernel_rfl) (pureVal_ok rfl) ((List.Sublist.refl _)) rfl rfl rfl ?_
                  refine ExD.take (i := 7) rfl (by kernel_rfl) (pureVal_ok rfl) ((List.Sublist.refl _)) rfl rfl rfl ?_
                  refine ExD.cmp_lss (i := 8) rfl (by kernel_rfl) rfl rfl rfl ((List.Sublist.refl _)) rfl rfl rfl (fun h69 => ?_) (fun h69 => ?_)
                  · refine ExD.take (i := 9) rfl (by kernel_rfl) (pureVal_ok rfl) ((List.Sublist.refl _)) rfl rfl rfl ?_
                    refine ExD.take (i := 10) rfl (by kernel_rfl) (pureVal_ok rfl) ((List.Sublist.refl _)) rfl rfl rfl ?_
                    refine ExD.take (i := 11) rfl (by kernel_rfl) (pureVal_ok rfl) ((List.Sublist.refl _)) rfl rfl rfl ?_
                    refine ExD.take (i := 12) rfl (by kernel_rfl) (fr_indexAddrF (Reads.old ht) encP_len rfl rfl rfl rfl rfl rfl (by omega)) ((List.Sublist.refl _)) rfl rfl rfl ?_
                    refine ExD.take (i := 13) rfl (by kernel_rfl) (fr_fieldAddrF (i := (↑q.j : Int).toNat) (Reads.old ht) encP_len rfl rfl rfl (by omega) rfl rfl rfl rfl) ((List.Sublist.refl _)) rfl rfl rfl ?_
                    refine ExD.take (i := 14) rfl (by kernel_rfl) (fr_load rfl rfl rfl rfl (cellJ (i := ↑q.j) (q.j) (Reads.old ht) encP_len zP 0 rfl (by omega) (by omega) rfl)) ((List.Sublist.refl _)) rfl rfl rfl ?_
                    refine ExD.take (i := 15) rfl (by kernel_rfl) (pureVal_ok rfl) ((List.Sublist.refl _)) rfl rfl rfl ?_
                    refine ExD.take (i := 16) rfl (by kernel_rfl) (pureVal_ok rfl) ((List.Sublist.refl _)) rfl rfl rfl ?_
                    refine ExD.take (i := 17) rfl (by kernel_rfl) (fr_indexAddrF (Reads.old hs) encP_len rfl rfl rfl rfl rfl rfl (by omega)) ((List.Sublist.refl _)) rfl rfl rfl ?_
                    refine ExD.take (i := 18) rfl (by kernel_rfl) (fr_fieldAddrF (i := (↑q.i : Int).toNat) (Reads.old hs) encP_len rfl rfl rfl (by omega) rfl rfl rfl rfl) ((List.Sublist.refl _)) rfl rfl rfl ?_
                    refine ExD.take (i := 19) rfl (by kernel_rfl) (fr_load rfl rfl rfl rfl (cellJ (i := ↑q.i) (q.i) (Reads.old hs) encP_len zP 0 rfl (by omega) (by omega) rfl)) ((List.Sublist.refl _)) rfl rfl rfl ?_
                    refine ExD.cmp_lss (i := 20) rfl (by kernel_rfl) rfl rfl rfl ((List.Sublist.refl _)) rfl rfl rfl (fun h70 => ?_) (fun h70 => ?_)
                    · refine ExD.take (i := 21) rfl (by kernel_rfl) (pureVal_ok rfl) ((List.Sublist.refl _)) rfl rfl rfl ?_
                      refine ExD.take (i := 22) rfl (by kernel_rfl) (pureVal_ok rfl) ((List.Sublist.refl _)) rfl rfl rfl ?_
                      refine ExD.done (by kernel_rfl) ?_
                      refine Ex.cond_t rfl ?_
                      refine Ex.regSeq (ExL.pures 3 rfl ?_)
                      refine ExL.free (fr_indexAddrF (Reads.old ht) encP_len rfl rfl rfl rfl rfl rfl (by omega)) rfl rfl rfl ?_
                      refine ExL.free (fr_loadN rfl rfl rfl rfl rfl (segJ (q.j) (Reads.old ht) encP_len rfl zP (by omega) (by omega))) rfl rfl rfl ?_
                      refine ExL.op rfl (op_buildSlice (sz := 2) rfl rfl rfl rfl rfl rfl rfl rfl (by decide) rfl rfl rfl (fun r71 => ?_))
                      refine ExL.op rfl (op_append (sz := 2) (bytes := 16) (i := 1) rfl rfl rfl rfl (Reads.row (i := 0) rfl) rfl (fun e => nomatch e) rfl rfl rfl rfl (by constructor <;> first | omega | (unfold maxLen; omega)) rfl rfl (fun A72 cA72 => ?_))
                      refine ExL.pures 1 rfl ?_
                      refine ExL.nil ?_
                      refine Ex.region (ExL.pures 1 rfl ?_)
                      refine ExL.free (by first | exact fr_add64 rfl rfl rfl (by omega) | exact fr_add rfl rfl rfl) rfl rfl rfl ?_
                      refine ExL.pures 1 rfl ?_
                      refine ExL.nil ?_
                      refine Hand.mk ((⟨q.i, q.j + 1, q.o ++ [t.getD q.j zP], A72, cA72⟩ : MSt)) 2 [1] ⟨(by first | rfl | (rw [List.length_append]; rfl)), rfl, rfl, trivial⟩ ⟨rfl, rfl, trivial⟩ (by first | rfl | (rw [List.length_append, List.flatMap_append]; rfl)) rfl ((hI.tk (by omega) (by omega))) ((by dsimp only; omega))
                    · refine ExD.take (i := 21) rfl (by kernel_rfl) (pureVal_ok rfl) ((List.Sublist.refl _)) rfl rfl rfl ?_
                      refine ExD.take (i := 22) rfl (by kernel_rfl) (pureVal_ok rfl) ((List.Sublist.refl _)) rfl rfl rfl ?_
                      refine ExD.done (by kernel_rfl) ?_
                      refine Ex.cond_f rfl ?_
                      refine Ex.regSeq (ExL.pures 3 rfl ?_)
                      refine ExL.free (fr_indexAddrF (Reads.old hs) encP_len rfl rfl rfl rfl rfl rfl (by omega)) rfl rfl rfl ?_
                      refine ExL.free (fr_loadN rfl rfl rfl rfl rfl (segJ (q.i) (Reads.old hs) encP_len rfl zP (by omega) (by omega))) rfl rfl rfl ?_
                      refine ExL.op rfl (op_buildSlice (sz := 2) rfl rfl rfl rfl rfl rfl rfl rfl (by decide) rfl rfl rfl (fun r74 => ?_))
                      refine ExL.op rfl (op_append (sz := 2) (bytes := 16) (i := 1) rfl rfl rfl rfl (Reads.row (i := 0) rfl) rfl (fun e => nomatch e) rfl rfl rfl rfl (by constructor <;> first | omega | (unfold maxLen; omega)) rfl rfl (fun A75 cA75 => ?_))
                      refine ExL.pures 1 rfl ?_
                      refine ExL.nil ?_
                      refine Ex.region (ExL.pures 1 rfl ?_)
                      refine ExL.free (by first | exact fr_add64 rfl rfl rfl (by omega) | exact fr_add rfl rfl rfl) rfl rfl rfl ?_
                      refine ExL.pures 1 rfl ?_
                      refine ExL.nil ?_
                      refine Hand.mk ((⟨q.i + 1, q.j, q.o ++ [s.getD q.i zP], A75, cA75⟩ : MSt)) 2 [1] ⟨(by first | rfl | (rw [List.length_append]; rfl)), rfl, rfl, trivial⟩ ⟨rfl, rfl, trivial⟩ (by first | rfl | (rw [List.length_append, List.flatMap_append]; rfl)) rfl ((hI.sk (by omega) (by omega))) ((by dsimp only; omega))
                  · refine ExD.take (i := 9) rfl (by kernel_rfl) (pureVal_ok rfl) ((List.Sublist.refl _)) rfl rfl rfl ?_
                    refine ExD.pass (i := 10) rfl (by kernel_rfl) ((List.Sublist.refl _)) rfl rfl rfl ?_
                    refine ExD.pass (i := 11) rfl (by kernel_rfl) ((List.Sublist.refl _)) rfl rfl rfl ?_
                    refine ExD.pass (i := 12) rfl (by kernel_rfl) ((List.Sublist.refl _)) rfl rfl rfl ?_
                    refine ExD.pass (i := 13) rfl (by kernel_rfl) ((List.Sublist.refl _)) rfl rfl rfl ?_
                    refine ExD.pass (i := 14) rfl (by kernel_rfl) ((List.Sublist.refl _)) rfl rfl rfl ?_
                    refine ExD.pass (i := 15) rfl (by kernel_rfl) ((List.Sublist.refl _)) rfl rfl rfl ?_
                    refine ExD.pass (i := 16) rfl (by kernel_rfl) ((List.Sublist.refl _)) rfl rfl rfl ?_
                    refine ExD.pass (i := 17) rfl (by kernel_rfl) ((List.Sublist.refl _)) rfl rfl rfl ?_
                    refine ExD.pass (i := 18) rfl (by kernel_rfl) ((List.Sublist.refl _)) rfl rfl rfl ?_
                    refine ExD.pass (i := 19) rfl (by kernel_rfl) ((List.Sublist.refl _)) rfl rfl rfl ?_
                    refine ExD.pass (i := 20) rfl (by kernel_rfl) ((List.Sublist.refl _)) rfl rfl rfl ?_
                    refine ExD.take (i := 21) rfl (by kernel_rfl) (pureVal_ok rfl) ((List.Sublist.refl _)) rfl rfl rfl ?_
                    refine ExD.take (i := 22) rfl (by kernel_rfl) (pureVal_ok rfl) ((List.Sublist.refl _)) rfl rfl rfl ?_
                    refine ExD.done (by kernel_rfl) ?_
                    refine Ex.cond_f rfl ?_
                    refine Ex.regSeq (ExL.pures 3 rfl ?_)
                    refine ExL.free (fr_indexAddrF (Reads.old hs) encP_len rfl rfl rfl rfl rfl rfl (by omega)) rfl rfl rfl ?_
                    refine ExL.free (fr_loadN rfl rfl rfl rfl rfl (segJ (q.i) (Reads.old hs) encP_len rfl zP (by omega) (by omega))) rfl rfl rfl ?_
                    refine ExL.op rfl (op_buildSlice (sz := 2) rfl rfl rfl rfl rfl rfl rfl rfl (by decide) rfl rfl rfl (fun r77 => ?_))
                    refine ExL.op rfl (op_append (sz := 2) (bytes := 16) (i := 1) rfl rfl rfl rfl (Reads.row (i := 0) rfl) rfl (fun e => nomatch e) rfl rfl rfl rfl (by constructor <;> first | omega | (unfold maxLen; omega)) rfl rfl (fun A78 cA78 => ?_))
                    refine ExL.pures 1 rfl ?_
                    refine ExL.nil ?_
                    refine Ex.region (ExL.pures 1 rfl ?_)
                    refine ExL.free (by first | exact fr_add64 rfl rfl rfl (by omega) | exact fr_add rfl rfl rfl) rfl rfl rfl ?_
                    refine ExL.pures 1 rfl ?_
                    refine ExL.nil ?_
                    refine Hand.mk ((⟨q.i + 1, q.j, q.o ++ [s.getD q.i zP], A78, cA78⟩ : MSt)) 2 [1] ⟨(by first | rfl | (rw [List.length_append]; rfl)), rfl, rfl, trivial⟩ ⟨rfl, rfl, trivial⟩ (by first | rfl | (rw [List.length_append, List.flatMap_append]; rfl)) rfl ((hI.sk (by omega) (by omega))) ((by dsimp only; omega))
            · refine ExD.take (i := 9) rfl (by kernel_rfl) (pureVal_ok rfl) ((List.Sublist.refl _)) rfl rfl rfl ?_
              refine ExD.take (i := 10) rfl (by kernel_rfl) (pureVal_ok rfl) ((List.Sublist.refl _)) rfl rfl rfl ?_
              refine ExD.pass (i := 11) rfl (by kernel_rfl) ((List.Sublist.refl _)) rfl rfl rfl ?_
              refine ExD.pass (i := 12) rfl (by kernel_rfl) ((List.Sublist.refl _)) rfl rfl rfl ?_
              refine ExD.pass (i := 13) rfl (by kernel_rfl) ((List.Sublist.refl _)) rfl rfl rfl ?_
              refine ExD.pass (i := 14) rfl (by kernel_rfl) ((List.Sublist.refl _)) rfl rfl rfl ?_
              refine ExD.pass (i := 15) rfl (by kernel_rfl) ((List.Sublist.refl _)) rfl rfl rfl ?_
              refine ExD.pass (i := 16) rfl (by kernel_rfl) ((List.Sublist.refl _)) rfl rfl rfl ?_
              refine ExD.pass (i := 17) rfl (by kernel_rfl) ((List.Sublist.refl _)) rfl rfl rfl ?_
              refine ExD.pass (i := 18) rfl (by kernel_rfl) ((List.Sublist.refl _)) rfl rfl rfl ?_
              refine ExD.pass (i := 19) rfl (by kernel_rfl) ((List.Sublist.refl _)) rfl rfl rfl ?_
              refine ExD.pass (i := 20) rfl (by kernel_rfl) ((List.Sublist.refl _)) rfl rfl rfl ?_
              refine ExD.pass (i := 21) rfl (by kernel_rfl) ((List.Sublist.refl _)) rfl rfl rfl ?_
              refine ExD.take (i := 22) rfl (by kernel_rfl) (pureVal_ok rfl) ((List.Sublist.refl _)) rfl rfl rfl ?_
              refine ExD.done (by kernel_rfl) ?_
              refine Ex.cond_f rfl ?_
              refine Ex.skip ?_
              refine Ex.drawSeqM rfl ?_
              refine ExD.take (i := 0) rfl (by kernel_rfl) (pureVal_ok rfl) ((List.Sublist.refl _)) rfl rfl rfl ?_
              refine ExD.take (i := 1) rfl (by kernel_rfl) (pureVal_ok rfl) ((List.Sublist.refl _)) rfl rfl rfl ?_
              refine ExD.take (i := 2) rfl (by kernel_rfl) (pureVal_ok rfl) ((List.Sublist.refl _)) rfl rfl rfl ?_
              refine ExD.cmp_eql (i := 3) rfl (by kernel_rfl) rfl rfl rfl ((List.Sublist.refl _)) rfl rfl rfl (fun h80 => ?_) (fun h80 => ?_)
              · refine ExD.take (i := 4) rfl (by kernel_rfl) (pureVal_ok rfl) ((List.Sublist.refl _)) rfl rfl rfl ?_
                refine ExD.pass (i := 5) rfl (by kernel_rfl) ((List.Sublist.refl _)) rfl rfl rfl ?_
                refine ExD.pass (i := 6) rfl (by kernel_rfl) ((List.Sublist.refl _)) rfl rfl rfl ?_
                refine ExD.pass (i := 7) rfl (by kernel_rfl) ((List.Sublist.refl _)) rfl rfl rfl ?_
                refine ExD.pass (i := 8) rfl (by kernel_rfl) ((List.Sublist.refl _)) rfl rfl rfl ?_
                refine ExD.pass (i := 9) rfl (by kernel_rfl) ((List.Sublist.refl _)) rfl rfl rfl ?_
                refine ExD.pass (i := 10) rfl (by kernel_rfl) ((List.Sublist.refl _)) rfl rfl rfl ?_
                refine ExD.pass (i := 11) rfl (by kernel_rfl) ((List.Sublist.refl _)) rfl rfl rfl ?_
                refine ExD.pass (i := 12) rfl (by kernel_rfl) ((List.Sublist.refl _)) rfl rfl rfl ?_
                refine ExD.pass (i := 13) rfl (by kernel_rfl) ((List.Sublist.refl _)) rfl rfl rfl ?_
                refine ExD.pass (i := 14) rfl (by kernel_rfl) ((List.Sublist.refl _)) rfl rfl rfl ?_
                refine ExD.pass (i := 15) rfl (by kernel_rfl) ((List.Sublist.refl _)) rfl rfl rfl ?_
                refine ExD.pass (i := 16) rfl (by kernel_rfl) ((List.Sublist.refl _)) rfl rfl rfl ?_
                refine ExD.pass (i := 17) rfl (by kernel_rfl) ((List.Sublist.refl _)) rfl rfl rfl ?_
                refine ExD.pass (i := 18) rfl (by kernel_rfl) ((List.Sublist.refl _)) rfl rfl rfl ?_
                refine ExD.pass (i := 19) rfl (by kernel_rfl) ((List.Sublist.refl _)) rfl rfl rfl ?_
                refine ExD.pass (i := 20) rfl (by kernel_rfl) ((List.Sublist.refl _)) rfl rfl rfl ?_
                refine ExD.pass (i := 21) rfl (by kernel_rfl) ((List.Sublist.refl _)) rfl rfl rfl ?_
                refine ExD.take (i := 22) rfl (by kernel_rfl) (pureVal_ok rfl) ((List.Sublist.refl _)) rfl rfl rfl ?_
                refine ExD.done (by kernel_rfl) ?_
                refine Ex.cond_t rfl ?_
                refine Ex.regSeq (ExL.pures 3 rfl ?_)
                refine ExL.free (fr_indexAddrF (Reads.old ht) encP_len rfl rfl rfl rfl rfl rfl (by omega)) rfl rfl rfl ?_
                refine ExL.free (fr_loadN rfl rfl rfl rfl rfl (segJ (q.j) (Reads.old ht) encP_len rfl zP (by omega) (by omega))) rfl rfl rfl ?_
                refine ExL.op rfl (op_buildSlice (sz := 2) rfl rfl rfl rfl rfl rfl rfl rfl (by decide) rfl rfl rfl (fun r81 => ?_))
                refine ExL.op rfl (op_append (sz := 2) (bytes := 16) (i := 1) rfl rfl rfl rfl (Reads.row (i := 0) rfl) rfl (fun e => nomatch e) rfl rfl rfl rfl (by constructor <;> first | omega | (unfold maxLen; omega)) rfl rfl (fun A82 cA82 => ?_))
                refine ExL.pures 1 rfl ?_
                refine ExL.nil ?_
                refine Ex.region (ExL.pures 1 rfl ?_)
                refine ExL.free (by first | exact fr_add64 rfl rfl rfl (by omega) | exact fr_add rfl rfl rfl) rfl rfl rfl ?_
                refine ExL.pures 1 rfl ?_
                refine ExL.nil ?_
                refine Hand.mk ((⟨q.i, q.j + 1, q.o ++ [t.getD q.j zP], A82, cA82⟩ : MSt)) 2 [1] ⟨(by first | rfl | (rw [List.length_append]; rfl)), rfl, rfl, trivial⟩ ⟨rfl, rfl, trivial⟩ (by first | rfl | (rw [List.length_append, List.flatMap_append]; rfl)) rfl ((hI.tk (by omega) (by omega))) ((by dsimp only; omega))
              · refine ExD.take (i := 4) rfl (by kernel_rfl) (pureVal_ok rfl) ((List.Sublist.refl _)) rfl rfl rfl ?_
                refine ExD.take (i := 5) rfl (by kernel_rfl) (pureVal_ok rfl) ((List.Sublist.refl _)) rfl rfl rfl ?_
                refine ExD.take (i := 6) rfl (by kernel_rfl) (pureVal_ok rfl) ((List.Sublist.refl _)) rfl rfl rfl ?_
                refine ExD.take (i := 7) rfl (by kernel_rfl) (pureVal_ok rfl) ((List.Sublist.refl _)) rfl rfl rfl ?_
                refine ExD.cmp_lss (i := 8) rfl (by kernel_rfl) rfl rfl rfl ((List.Sublist.refl _)) rfl rfl rfl (fun h84 => ?_) (fun h84 => ?_)
                · refine ExD.take (i := 9) rfl (by kernel_rfl) (pureVal_ok rfl) ((List.Sublist.refl _)) rfl rfl rfl ?_
                  refine ExD.take (i := 10) rfl (by kernel_rfl) (pureVal_ok rfl) ((List.Sublist.refl _)) rfl rfl rfl ?_
                  refine ExD.take (i := 11) rfl (by kernel_rfl) (pureVal_ok rfl) ((List.Sublist.refl _)) rfl rfl rfl ?_
                  refine ExD.take (i := 12) rfl (by kernel_rfl) (fr_indexAddrF (Reads.old ht) encP_len rfl rfl rfl rfl rfl rfl (by omega)) ((List.Sublist.refl _)) rfl rfl rfl ?_
                  refine ExD.take (i := 13) rfl (by kernel_rfl) (fr_fieldAddrF (i := (↑q.j : Int).toNat) (Reads.old ht) encP_len rfl rfl rfl (by omega) rfl rfl rfl rfl) ((List.Sublist.refl _)) rfl rfl rfl ?_
                  refine ExD.take (i := 14) rfl (by kernel_rfl) (fr_load rfl rfl rfl rfl (cellJ (i := ↑q.j) (q.j) (Reads.old ht) encP_len zP 0 rfl (by omega) (by omega) rfl)) ((List.Sublist.refl _)) rfl rfl rfl ?_
                  refine ExD.take (i := 15) rfl (by kernel_rfl) (pureVal_ok rfl) ((List.Sublist.refl _)) rfl rfl rfl ?_
                  refine ExD.take (i := 16) rfl (by kernel_rfl) (pureVal_ok rfl) ((List.Sublist.refl _)) rfl rfl rfl ?_
                  refine ExD.take (i := 17) rfl (by kernel_rfl) (fr_indexAddrF (Reads.old hs) encP_len rfl rfl rfl rfl rfl rfl (by omega)) ((List.Sublist.refl _)) rfl rfl rfl ?_
                  refine ExD.take (i := 18) rfl (by kernel_rfl) (fr_fieldAddrF (i := (↑q.i : Int).toNat) (Reads.old hs) encP_len rfl rfl rfl (by omega) rfl rfl rfl rfl) ((List.Sublist.refl _)) rfl rfl rfl ?_
                  refine ExD.take (i := 19) rfl (by kernel_rfl) (fr_load rfl rfl rfl rfl (cellJ (i := ↑q.i) (q.i) (Reads.old hs) encP_len zP 0 rfl (by omega) (by omega) rfl)) ((List.Sublist.refl _)) rfl rfl rfl ?_
                  refine ExD.cmp_lss (i := 20) rfl (by kernel_rfl) rfl rfl rfl ((List.Sublist.refl _)) rfl rfl rfl (fun h85 => ?_) (fun h85 => ?_)
                  · refine ExD.take (i := 21) rfl (by kernel_rfl) (pureVal_ok rfl) ((List.Sublist.refl _)) rfl rfl rfl ?_
                    refine ExD.take (i := 22) rfl (by kernel_rfl) (pureVal_ok rfl) ((List.Sublist.refl _)) rfl rfl rfl ?_
                    refine ExD.done (by kernel_rfl) ?_
                    refine Ex.cond_t rfl ?_
                    refine Ex.regSeq (ExL.pures 3 rfl ?_)
                    refine ExL.free (fr_indexAddrF (Reads.old ht) encP_len rfl rfl rfl rfl rfl rfl (by omega)) rfl rfl rfl ?_
                    refine ExL.free (fr_loadN rfl rfl rfl rfl rfl (segJ (q.j) (Reads.old ht) encP_len rfl zP (by omega) (by omega))) rfl rfl rfl ?_
                    refine ExL.op rfl (op_buildSlice (sz := 2) rfl rfl rfl rfl rfl rfl rfl rfl (by decide) rfl rfl rfl (fun r86 => ?_))
                    refine ExL.op rfl (op_append (sz := 2) (bytes := 16) (i := 1) rfl rfl rfl rfl (Reads.row (i := 0) rfl) rfl (fun e => nomatch e) rfl rfl rfl rfl (by constructor <;> first | omega | (unfold maxLen; omega)) rfl rfl (fun A87 cA87 => ?_))
                    refine ExL.pures 1 rfl ?_
                    refine ExL.nil ?_
                    refine Ex.region (ExL.pures 1 rfl ?_)
                    refine ExL.free (by first | exact fr_add64 rfl rfl rfl (by omega) | exact fr_add rfl rfl rfl) rfl rfl rfl ?_
                    refine ExL.pures 1 rfl ?_
                    refine ExL.nil ?_
                    refine Hand.mk ((⟨q.i, q.j + 1, q.o ++ [t.getD q.j zP], A87, cA87⟩ : MSt)) 2 [1] ⟨(by first | rfl | (rw [List.length_append]; rfl)), rfl, rfl, trivial⟩ ⟨rfl, rfl, trivial⟩ (by first | rfl | (rw [List.length_append, List.flatMap_append]; rfl)) rfl ((hI.tk (by omega) (by omega))) ((by dsimp only; omega))
                  · refine ExD.take (i := 21) rfl (by kernel_rfl) (pureVal_ok rfl) ((List.Sublist.refl _)) rfl rfl rfl ?_
                    refine ExD.take (i := 22) rfl (by kernel_rfl) (pureVal_ok rfl) ((List.Sublist.refl _)) rfl rfl rfl ?_
                    refine ExD.done (by kernel_rfl) ?_
                    refine Ex.cond_f rfl ?_
                    refine Ex.regSeq (ExL.pures 3 rfl ?_)
                    refine ExL.free (fr_indexAddrF (Reads.old hs) encP_len rfl rfl rfl rfl rfl rfl (by omega)) rfl rfl rfl ?_
                    refine ExL.free (fr_loadN rfl rfl rfl rfl rfl (segJ (q.i) (Reads.old hs) encP_len rfl zP (by omega) (by omega))) rfl rfl rfl ?_
                    refine ExL.op rfl (op_buildSlice (sz := 2) rfl rfl rfl rfl rfl rfl rfl rfl (by decide) rfl rfl rfl (fun r89 => ?_))
                    refine ExL.op rfl (op_append (sz := 2) (bytes := 16) (i := 1) rfl rfl rfl rfl (Reads.row (i := 0) rfl) rfl (fun e => nomatch e) rfl rfl rfl rfl (by constructor <;> first | omega | (unfold maxLen; omega)) rfl rfl (fun A90 cA90 => ?_))
                    refine ExL.pures 1 rfl ?_
                    refine ExL.nil ?_
                    refine Ex.region (ExL.pures 1 rfl ?_)
                    refine ExL.free (by first | exact fr_add64 rfl rfl rfl (by omega) | exact fr_add rfl rfl rfl) rfl rfl rfl ?_
                    refine ExL.pures 1 rfl ?_
                    refine ExL.nil ?_
                    refine Hand.mk ((⟨q.i + 1, q.j, q.o ++ [s.getD q.i zP], A90, cA90⟩ : MSt)) 2 [1] ⟨(by first | rfl | (rw [List.length_append]; rfl)), rfl, rfl, trivial⟩ ⟨rfl, rfl, trivial⟩ (by first | rfl | (rw [List.length_append, List.flatMap_append]; rfl)) rfl ((hI.sk (by omega) (by omega))) ((by dsimp only; omega))
                · refine ExD.take (i := 9) rfl (by kernel_rfl) (pureVal_ok rfl) ((List.Sublist.refl _)) rfl rfl rfl ?_
                  refine ExD.pass (i := 10) rfl (by kernel_rfl) ((List.Sublist.refl _)) rfl rfl rfl ?_
                  refine ExD.pass (i := 11) rfl (by kernel_rfl) ((List.Sublist.refl _)) rfl rfl rfl ?_
                  refine ExD.pass (i := 12) rfl (by kernel_rfl) ((List.Sublist.refl _)) rfl rfl rfl ?_
                  refine ExD.pass (i := 13) rfl (by kernel_rfl) ((List.Sublist.refl _)) rfl rfl rfl ?_
                  refine ExD.pass (i := 14) rfl (by kernel_rfl) ((List.Sublist.refl _)) rfl rfl rfl ?_
                  refine ExD.pass (i := 15) rfl (by kernel_rfl) ((List.Sublist.refl _)) rfl rfl rfl ?_
                  refine ExD.pass (i := 16) rfl (by kernel_rfl) ((List.Sublist.refl _)) rfl rfl rfl ?_
                  refine ExD.pass (i := 17) rfl (by kernel_rfl) ((List.Sublist.refl _)) rfl rfl rfl ?_
                  refine ExD.pass (i := 18) rfl (by kernel_rfl) ((List.Sublist.refl _)) rfl rfl rfl ?_
                  refine ExD.pass (i := 19) rfl (by kernel_rfl) ((List.Sublist.refl _)) rfl rfl rfl ?_
                  refine ExD.pass (i := 20) rfl (by kernel_rfl) ((List.Sublist.refl _)) rfl rfl rfl ?_
                  refine ExD.take (i := 21) rfl (by kernel_rfl) (pureVal_ok rfl) ((List.Sublist.refl _)) rfl rfl rfl ?_
                  refine ExD.take (i := 22) rfl (by kernel_rfl) (pureVal_ok rfl) ((List.Sublist.refl _)) rfl rfl rfl ?_
                  refine ExD.done (by kernel_rfl) ?_
                  refine Ex.cond_f rfl ?_
                  refine Ex.regSeq (ExL.pures 3 rfl ?_)
                  refine ExL.free (fr_indexAddrF (Reads.old hs) encP_len rfl rfl rfl rfl rfl rfl (by omega)) rfl rfl rfl ?_
                  refine ExL.free (fr_loadN rfl rfl rfl rfl rfl (segJ (q.i) (Reads.old hs) encP_len rfl zP (by omega) (by omega))) rfl rfl rfl ?_
                  refine ExL.op rfl (op_buildSlice (sz := 2) rfl rfl rfl rfl rfl rfl rfl rfl (by decide) rfl rfl rfl (fun r92 => ?_))
                  refine ExL.op rfl (op_append (sz := 2) (bytes := 16) (i := 1) rfl rfl rfl rfl (Reads.row (i := 0) rfl) rfl (fun e => nomatch e) rfl rfl rfl rfl (by constructor <;> first | omega | (unfold maxLen; omega)) rfl rfl (fun A93 cA93 => ?_))
                  refine ExL.pures 1 rfl ?_
                  refine ExL.nil ?_
                  refine Ex.region (ExL.pures 1 rfl ?_)
                  refine ExL.free (by first | exact fr_add64 rfl rfl rfl (by omega) | exact fr_add rfl rfl rfl) rfl rfl rfl ?_
                  refine ExL.pures 1 rfl ?_
                  refine ExL.nil ?_
                  refine Hand.mk ((⟨q.i + 1, q.j, q.o ++ [s.getD q.i zP], A93, cA93⟩ : MSt)) 2 [1] ⟨(by first | rfl | (rw [List.length_append]; rfl)), rfl, rfl, trivial⟩ ⟨rfl, rfl, trivial⟩ (by first | rfl | (rw [List.length_append, List.flatMap_append]; rfl)) rfl ((hI.sk (by omega) (by omega))) ((by dsimp only; omega))
          · refine ExD.take (i := 4) rfl (by kernel_rfl) (pureVal_ok rfl) ((List.Sublist.refl _)) rfl rfl rfl ?_
            refine ExD.pass (i := 5) rfl (by kernel_rfl) ((List.Sublist.refl _)) rfl rfl rfl ?_
            refine ExD.pass (i := 6) rfl (by kernel_rfl) ((List.Sublist.refl _)) rfl rfl rfl ?_
            refine ExD.pass (i := 7) rfl (by kernel_rfl) ((List.Sublist.refl _)) rfl rfl rfl ?_
            refine ExD.pass (i := 8) rfl (by kernel_rfl) ((List.Sublist.refl _)) rfl rfl rfl ?_
            refine ExD.take (i := 9) rfl (by kernel_rfl) (pureVal_ok rfl) ((List.Sublist.refl _)) rfl rfl rfl ?_
            refine ExD.take (i := 10) rfl (by kernel_rfl) (pureVal_ok rfl) ((List.Sublist.refl _)) rfl rfl rfl ?_
            refine ExD.pass (i := 11) rfl (by kernel_rfl) ((List.Sublist.refl _)) rfl rfl rfl ?_
            refine ExD.pass (i := 12) rfl (by kernel_rfl) ((List.Sublist.refl _)) rfl rfl rfl ?_
            refine ExD.pass (i := 13) rfl (by kernel_rfl) ((List.Sublist.refl _)) rfl rfl rfl ?_
            refine ExD.pass (i := 14) rfl (by kernel_rfl) ((List.Sublist.refl _)) rfl rfl rfl ?_
            refine ExD.pass (i := 15) rfl (by kernel_rfl) ((List.Sublist.refl _)) rfl rfl rfl ?_
            refine ExD.pass (i := 16) rfl (by kernel_rfl) ((List.Sublist.refl _)) rfl rfl rfl ?_
            refine ExD.pass (i := 17) rfl (by kernel_rfl) ((List.Sublist.refl _)) rfl rfl rfl ?_
            refine ExD.pass (i := 18) rfl (by kernel_rfl) ((List.Sublist.refl _)) rfl rfl rfl ?_
            refine ExD.pass (i := 19) rfl (by kernel_rfl) ((List.Sublist.refl _)) rfl rfl rfl ?_
            refine ExD.pass (i := 20) rfl (by kernel_rfl) ((List.Sublist.refl _)) rfl rfl rfl ?_
            refine ExD.pass (i := 21) rfl (by kernel_rfl) ((List.Sublist.refl _)) rfl rfl rfl ?_
            refine ExD.take (i := 22) rfl (by kernel_rfl) (pureVal_ok rfl) ((List.Sublist.refl _)) rfl rfl rfl ?_
            refine ExD.done (by kernel_rfl) ?_
            refine Ex.cond_f rfl ?_
            refine Ex.skip ?_
            refine Ex.drawSeqM rfl ?_
            refine ExD.take (i := 0) rfl (by kernel_rfl) (pureVal_ok rfl) ((List.Sublist.refl _)) rfl rfl rfl ?_
            refine ExD.take (i := 1) rfl (by kernel_rfl) (pureVal_ok rfl) ((List.Sublist.refl _)) rfl rfl rfl ?_
            refine ExD.take (i := 2) rfl (by kernel_rfl) (pureVal_ok rfl) ((List.Sublist.refl _)) rfl rfl rfl ?_
            refine ExD.cmp_eql (i := 3) rfl (by kernel_rfl) rfl rfl rfl ((List.Sublist.refl _)) rfl rfl rfl (fun h95 => ?_) (fun h95 => ?_)
            · refine ExD.take (i := 4) rfl (by kernel_rfl) (pureVal_ok rfl) ((List.Sublist.refl _)) rfl rfl rfl ?_
              refine ExD.pass (i := 5) rfl (by kernel_rfl) ((List.Sublist.refl _)) rfl rfl rfl ?_
              refine ExD.pass (i := 6) rfl (by kernel_rfl) ((List.Sublist.refl _)) rfl rfl rfl ?_
              refine ExD.pass (i := 7) rfl (by kernel_rfl) ((List.Sublist.refl _)) rfl rfl rfl ?_
              refine ExD.pass (i := 8) rfl (by kernel_rfl) ((List.Sublist.refl _)) rfl rfl rfl ?_
              refine ExD.pass (i := 9) rfl (by kernel_rfl) ((List.Sublist.refl _)) rfl rfl rfl ?_
              refine ExD.pass (i := 10) rfl (by kernel_rfl) ((List.Sublist.refl _)) rfl rfl rfl ?_
              refine ExD.pass (i := 11) rfl (by kernel_rfl) ((List.Sublist.refl _)) rfl rfl rfl ?_
              refine ExD.pass (i := 12) rfl (by kernel_rfl) ((List.Sublist.refl _)) rfl rfl rfl ?_
              refine ExD.pass (i := 13) rfl (by kernel_rfl) ((List.Sublist.refl _)) rfl rfl rfl ?_
              refine ExD.pass (i := 14) rfl (by kernel_rfl) ((List.Sublist.refl _)) rfl rfl rfl ?_
              refine ExD.pass (i := 15) rfl (by kernel_rfl) ((List.Sublist.refl _)) rfl rfl rfl ?_
              refine ExD.pass (i := 16) rfl (by kernel_rfl) ((List.Sublist.refl _)) rfl rfl rfl ?_
              refine ExD.pass (i := 17) rfl (by kernel_rfl) ((List.Sublist.refl _)) rfl rfl rfl ?_
              refine ExD.pass (i := 18) rfl (by kernel_rfl) ((List.Sublist.refl _)) rfl rfl rfl ?_
              refine ExD.pass (i := 19) rfl (by kernel_rfl) ((List.Sublist.refl _)) rfl rfl rfl ?_
              refine ExD.pass (i := 20) rfl (by kernel_rfl) ((List.Sublist.refl _)) rfl rfl rfl ?_
              refine ExD.pass (i := 21) rfl (by kernel_rfl) ((List.Sublist.refl _)) rfl rfl rfl ?_
              refine ExD.take (i := 22) rfl (by kernel_rfl) (pureVal_ok rfl) ((List.Sublist.refl _)) rfl rfl rfl ?_
              refine ExD.done (by kernel_rfl) ?_
              refine Ex.cond_t rfl ?_
              refine Ex.regSeq (ExL.pures 3 rfl ?_)
              refine ExL.free (fr_indexAddrF (Reads.old ht) encP_len rfl rfl rfl rfl rfl rfl (by omega)) rfl rfl rfl ?_
              refine ExL.free (fr_loadN rfl rfl rfl rfl rfl (segJ (q.j) (Reads.old ht) encP_len rfl zP (by omega) (by omega))) rfl rfl rfl ?_
              refine ExL.op rfl (op_buildSlice (sz := 2) rfl rfl rfl rfl rfl rfl rfl rfl (by decide) rfl rfl rfl (fun r96 => ?_))
              refine ExL.op rfl (op_append (sz := 2) (bytes := 16) (i := 1) rfl rfl rfl rfl (Reads.row (i := 0) rfl) rfl (fun e => nomatch e) rfl rfl rfl rfl (by constructor <;> first | omega | (unfold maxLen; omega)) rfl rfl (fun A97 cA97 => ?_))
              refine ExL.pures 1 rfl ?_
              refine ExL.nil ?_
              refine Ex.region (ExL.pures 1 rfl ?_)
              refine ExL.free (by first | exact fr_add64 rfl rfl rfl (by omega) | exact fr_add rfl rfl rfl) rfl rfl rfl ?_
              refine ExL.pures 1 rfl ?_
              refine ExL.nil ?_
              refine Hand.mk ((⟨q.i, q.j + 1, q.o ++ [t.getD q.j zP], A97, cA97⟩ : MSt)) 2 [1] ⟨(by first | rfl | (rw [List.length_append]; rfl)), rfl, rfl, trivial⟩ ⟨rfl, rfl, trivial⟩ (by first | rfl | (rw [List.length_append, List.flatMap_append]; rfl)) rfl ((hI.tk (by omega) (by omega))) ((by dsimp only; omega))
            · refine ExD.take (i := 4) rfl (by kernel_rfl) (pureVal_ok rfl) ((List.Sublist.refl _)) rfl rfl rfl ?_
              refine ExD.take (i := 5) rfl (by kernel_rfl) (pureVal_ok rfl) ((List.Sublist.refl _)) rfl rfl rfl ?_
              refine ExD.take (i := 6) rfl (by kernel_rfl) (pureVal_ok rfl) ((List.Sublist.refl _)) rfl rfl rfl ?_
              refine ExD.take (i := 7) rfl (by kernel_rfl) (pureVal_ok rfl) ((List.Sublist.refl _)) rfl rfl rfl ?_
              refine ExD.cmp_lss (i := 8) rfl (by kernel_rfl) rfl rfl rfl ((List.Sublist.refl _)) rfl rfl rfl (fun h99 => ?_) (fun h99 => ?_)
              · refine ExD.take (i := 9) rfl (by kernel_rfl) (pureVal_ok rfl) ((List.Sublist.refl _)) rfl rfl rfl ?_
                refine ExD.take (i := 10) rfl (by kernel_rfl) (pureVal_ok rfl) ((List.Sublist.refl _)) rfl rfl rfl ?_
                refine ExD.take (i := 11) rfl (by kernel_rfl) (pureVal_ok rfl) ((List.Sublist.refl _)) rfl rfl rfl ?_
                refine ExD.take (i := 12) rfl (by kernel_rfl) (fr_indexAddrF (Reads.old ht) encP_len rfl rfl rfl rfl rfl rfl (by omega)) ((List.Sublist.refl _)) rfl rfl rfl ?_
                refine ExD.take (i := 13) rfl (by kernel_rfl) (fr_fieldAddrF (i := (↑q.j : Int).toNat) (Reads.old ht) encP_len rfl rfl rfl (by omega) rfl rfl rfl rfl) ((List.Sublist.refl _)) rfl rfl rfl ?_
                refine ExD.take (i := 14) rfl (by kernel_rfl) (fr_load rfl rfl rfl rfl (cellJ (i := ↑q.j) (q.j) (Reads.old ht) encP_len zP 0 rfl (by omega) (by omega) rfl)) ((List.Sublist.refl _)) rfl rfl rfl ?_
                refine ExD.take (i := 15) rfl (by kernel_rfl) (pureVal_ok rfl) ((List.Sublist.refl _)) rfl rfl rfl ?_
                refine ExD.take (i := 16) rfl (by kernel_rfl) (pureVal_ok rfl) ((List.Sublist.refl _)) rfl rfl rfl ?_
                refine ExD.take (i := 17) rfl (by kernel_rfl) (fr_indexAddrF (Reads.old hs) encP_len rfl rfl rfl rfl rfl rfl (by omega)) ((List.Sublist.refl _)) rfl rfl rfl ?_
                refine ExD.take (i := 18) rfl (by kernel_rfl) (fr_fieldAddrF (i := (↑q.i : Int).toNat) (Reads.old hs) encP_len rfl rfl rfl (by omega) rfl rfl rfl rfl) ((List.Sublist.refl _)) rfl rfl rfl ?_
                refine ExD.take (i := 19) rfl (by kernel_rfl) (fr_load rfl rfl rfl rfl (cellJ (i := ↑q.i) (q.i) (Reads.old hs) encP_len zP 0 rfl (by omega) (by omega) rfl)) ((List.Sublist.refl _)) rfl rfl rfl ?_
                refine ExD.cmp_lss (i := 20) rfl (by kernel_rfl) rfl rfl rfl ((List.Sublist.refl _)) rfl rfl rfl (fun h100 => ?_) (fun h100 => ?_)
                · refine ExD.take (i := 21) rfl (by kernel_rfl) (pureVal_ok rfl) ((List.Sublist.refl _)) rfl rfl rfl ?_
                  refine ExD.take (i := 22) rfl (by kernel_rfl) (pureVal_ok rfl) ((List.Sublist.refl _)) rfl rfl rfl ?_
                  refine ExD.done (by kernel_rfl) ?_
                  refine Ex.cond_t rfl ?_
                  refine Ex.regSeq (ExL.pures 3 rfl ?_)
                  refine ExL.free (fr_indexAddrF (Reads.old ht) encP_len rfl rfl rfl rfl rfl rfl (by omega)) rfl rfl rfl ?_
                  refine ExL.free (fr_loadN rfl rfl rfl rfl rfl (segJ (q.j) (Reads.old ht) encP_len rfl zP (by omega) (by omega))) rfl rfl rfl ?_
                  refine ExL.op rfl (op_buildSlice (sz := 2) rfl rfl rfl rfl rfl rfl rfl rfl (by decide) rfl rfl rfl (fun r101 => ?_))
                  refine ExL.op rfl (op_append (sz := 2) (bytes := 16) (i := 1) rfl rfl rfl rfl (Reads.row (i := 0) rfl) rfl (fun e => nomatch e) rfl rfl rfl rfl (by constructor <;> first | omega | (unfold maxLen; omega)) rfl rfl (fun A102 cA102 => ?_))
                  refine ExL.pures 1 rfl ?_
                  refine ExL.nil ?_
                  refine Ex.region (ExL.pures 1 rfl ?_)
                  refine ExL.free (by first | exact fr_add64 rfl rfl rfl (by omega) | exact fr_add rfl rfl rfl) rfl rfl rfl ?_
                  refine ExL.pures 1 rfl ?_
                  refine ExL.nil ?_
                  refine Hand.mk ((⟨q.i, q.j + 1, q.o ++ [t.getD q.j zP], A102, cA102⟩ : MSt)) 2 [1] ⟨(by first | rfl | (rw [List.length_append]; rfl)), rfl, rfl, trivial⟩ ⟨rfl, rfl, trivial⟩ (by first | rfl | (rw [List.length_append, List.flatMap_append]; rfl)) rfl ((hI.tk (by omega) (by omega))) ((by dsimp only; omega))
                · refine ExD.take (i := 21) rfl (by kernel_rfl) (pureVal_ok rfl) ((List.Sublist.refl _)) rfl rfl rfl ?_
                  refine ExD.take (i := 22) rfl (by kernel_rfl) (pureVal_ok rfl) ((List.Sublist.refl _)) rfl rfl rfl ?_
                  refine ExD.done (by kernel_rfl) ?_
                  refine Ex.cond_f rfl ?_
                  refine Ex.regSeq (ExL.pures 3 rfl ?_)
                  refine ExL.free (fr_indexAddrF (Reads.old hs) encP_len rfl rfl rfl rfl rfl rfl (by omega)) rfl rfl rfl ?_
                  refine ExL.free (fr_loadN rfl rfl rfl rfl rfl (segJ (q.i) (Reads.old hs) encP_len rfl zP (by omega) (by omega))) rfl rfl rfl ?_
                  refine ExL.op rfl (op_buildSlice (sz := 2) rfl rfl rfl rfl rfl rfl rfl rfl (by decide) rfl rfl rfl (fun r104 => ?_))
                  refine ExL.op rfl (op_append (sz := 2) (bytes := 16) (i := 1) rfl rfl rfl rfl (Reads.row (i := 0) rfl) rfl (fun e => nomatch e) rfl rfl rfl rfl (by constructor <;> first | omega | (unfold maxLen; omega)) rfl rfl (fun A105 cA105 => ?_))
                  refine ExL.pures 1 rfl ?_
                  refine ExL.nil ?_
                  refine Ex.region (ExL.pures 1 rfl ?_)
                  refine ExL.free (by first | exact fr_add64 rfl rfl rfl (by omega) | exact fr_add rfl rfl rfl) rfl rfl rfl ?_
                  refine ExL.pures 1 rfl ?_
                  refine ExL.nil ?_
                  refine Hand.mk ((⟨q.i + 1, q.j, q.o ++ [s.getD q.i zP], A105, cA105⟩ : MSt)) 2 [1] ⟨(by first | rfl | (rw [List.length_append]; rfl)), rfl, rfl, trivial⟩ ⟨rfl, rfl, trivial⟩ (by first | rfl | (rw [List.length_append, List.flatMap_append]; rfl)) rfl ((hI.sk (by omega) (by omega))) ((by dsimp only; omega))
              · refine ExD.take (i := 9) rfl (by kernel_rfl) (pureVal_ok rfl) ((List.Sublist.refl _)) rfl rfl rfl ?_
                refine ExD.pass (i := 10) rfl (by kernel_rfl) ((List.Sublist.refl _)) rfl rfl rfl ?_
                refine ExD.pass (i := 11) rfl (by kernel_rfl) ((List.Sublist.refl _)) rfl rfl rfl ?_
                refine ExD.pass (i := 12) rfl (by kernel_rfl) ((List.Sublist.refl _)) rfl rfl rfl ?_
                refine ExD.pass (i := 13) rfl (by kernel_rfl) ((List.Sublist.refl _)) rfl rfl rfl ?_
                refine ExD.pass (i := 14) rfl (by kernel_rfl) ((List.Sublist.refl _)) rfl rfl rfl ?_
                refine ExD.pass (i := 15) rfl (by kernel_rfl) ((List.Sublist.refl _)) rfl rfl rfl ?_
                refine ExD.pass (i := 16) rfl (by kernel_rfl) ((List.Sublist.refl _)) rfl rfl rfl ?_
                refine ExD.pass (i := 17) rfl (by kernel_rfl) ((List.Sublist.refl _)) rfl rfl rfl ?_
                refine ExD.pass (i := 18) rfl (by kernel_rfl) ((List.Sublist.refl _)) rfl rfl rfl ?_
                refine ExD.pass (i := 19) rfl (by kernel_rfl) ((List.Sublist.refl _)) rfl rfl rfl ?_
                refine ExD.pass (i := 20) rfl (by kernel_rfl) ((List.Sublist.refl _)) rfl rfl rfl ?_
                refine ExD.take (i := 21) rfl (by kernel_rfl) (pureVal_ok rfl) ((List.Sublist.refl _)) rfl rfl rfl ?_
                refine ExD.take (i := 22) rfl (by kernel_rfl) (pureVal_ok rfl) ((List.Sublist.refl _)) rfl rfl rfl ?_
                refine ExD.done (by kernel_rfl) ?_
                refine Ex.cond_f rfl ?_
                refine Ex.regSeq (ExL.pures 3 rfl ?_)
                refine ExL.free (fr_indexAddrF (Reads.old hs) encP_len rfl rfl rfl rfl rfl rfl (by omega)) rfl rfl rfl ?_
                refine ExL.free (fr_loadN rfl rfl rfl rfl rfl (segJ (q.i) (Reads.old hs) encP_len rfl zP (by omega) (by omega))) rfl rfl rfl ?_
                refine ExL.op rfl (op_buildSlice (sz := 2) rfl rfl rfl rfl rfl rfl rfl rfl (by decide) rfl rfl rfl (fun r107 => ?_))
                refine ExL.op rfl (op_append (sz := 2) (bytes := 16) (i := 1) rfl rfl rfl rfl (Reads.row (i := 0) rfl) rfl (fun e => nomatch e) rfl rfl rfl rfl (by constructor <;> first | omega | (unfold maxLen; omega)) rfl rfl (fun A108 cA108 => ?_))
                refine ExL.pures 1 rfl ?_
                refine ExL.nil ?_
                refine Ex.region (ExL.pures 1 rfl ?_)
                refine ExL.free (by first | exact fr_add64 rfl rfl rfl (by omega) | exact fr_add rfl rfl rfl) rfl rfl rfl ?_
                refine ExL.pures 1 rfl ?_
                refine ExL.nil ?_
                refine Hand.mk ((⟨q.i + 1, q.j, q.o ++ [s.getD q.i zP], A108, cA108⟩ : MSt)) 2 [1] ⟨(by first | rfl | (rw [List.length_append]; rfl)), rfl, rfl, trivial⟩ ⟨rfl, rfl, trivial⟩ (by first | rfl | (rw [List.length_append, List.flatMap_append]; rfl)) rfl ((hI.sk (by omega) (by omega))) ((by dsimp only; omega))
        · refine ExL.pures 1 rfl ?_
          refine ExL.nil ?_
          refine Ex.cond_f rfl ?_
          refine Ex.exit ?_
          obtain ⟨hoe, hcf⟩ := hI.fin (by omega) (by omega)
          refine Ex.seq ?_
          refine Ex.regSeq (ExL.pures 1 rfl ?_)
          refine ExL.nil ?_
          refine Ex.block ?_
          refine Ex.loopK (X := Nat) (fun k => [(9, .int .i64 ((k : Int) + 1))]) (fun k => []) (fun k => Upb q.o (k + 1)) (fun k => q.o.length - k) 0 [(6, _)] [_] 1 [0] ⟨agI (by omega), trivial⟩ ⟨rfl, trivial⟩ (rfl) rfl (fun i h1 => by omega) (fun k hI => ?_)
          have hI : Upb q.o (k + 1) := hI
          refine Ex.seq ?_
          refine Ex.regSeq (ExL.pures 3 rfl ?_)
          refine ExL.lss rfl rfl rfl rfl rfl rfl (fun h110 => ?_) (fun h110 => ?_)
          · refine ExL.nil ?_
            refine Ex.cond_t rfl ?_
            refine Ex.skip ?_
            refine Ex.seq ?_
            refine Ex.block ?_
            refine Ex.drawSeqM rfl ?_
            refine ExD.take (i := 0) rfl (by kernel_rfl) (pureVal_ok rfl) ((List.Sublist.refl _)) rfl rfl rfl ?_
            refine ExD.take (i := 1) rfl (by kernel_rfl) (pureVal_ok rfl) ((List.Sublist.refl _)) rfl rfl rfl ?_
            refine ExD.take (i := 2) rfl (by kernel_rfl) (fr_indexAddrR (sz := 2) 0 rfl rfl rfl rfl rfl rfl (by omega)) ((List.Sublist.refl _)) rfl rfl rfl ?_
            refine ExD.take (i := 3) rfl (by kernel_rfl) (fr_fieldAddrR 0 rfl (by omega) rfl rfl rfl rfl rfl rfl) ((List.Sublist.refl _)) rfl rfl rfl ?_
            refine ExD.take (i := 4) rfl (by kernel_rfl) (fr_load rfl rfl rfl rfl (cellJ (i := (↑k + 1)) ((k + 1)) (Reads.row (i := 0) rfl) encP_len zP 1 rfl (by omega) (by omega) rfl)) ((List.Sublist.refl _)) rfl rfl rfl ?_
            refine ExD.take (i := 5) rfl (by kernel_rfl) (pureVal_ok rfl) ((List.Sublist.refl _)) rfl rfl rfl ?_
            refine ExD.take (i := 6) rfl (by kernel_rfl) (pureVal_ok rfl) ((List.Sublist.refl _)) rfl rfl rfl ?_
            refine ExD.take (i := 7) rfl (by kernel_rfl) (by first | exact fr_sub64 rfl rfl rfl (by omega) | exact fr_sub rfl rfl rfl) ((List.Sublist.refl _)) rfl rfl rfl ?_
            refine ExD.take (i := 8) rfl (by kernel_rfl) (fr_indexAddrR (sz := 2) 0 rfl rfl rfl rfl rfl rfl (by omega)) ((List.Sublist.refl _)) rfl rfl rfl ?_
            refine ExD.take (i := 9) rfl (by kernel_rfl) (fr_fieldAddrR 0 rfl (by omega) rfl rfl rfl rfl rfl rfl) ((List.Sublist.refl _)) rfl rfl rfl ?_
            refine ExD.take (i := 10) rfl (by kernel_rfl) (fr_load rfl rfl rfl rfl (cellJ (i := ((↑k + 1) - 1)) (((k + 1) - 1)) (Reads.row (i := 0) rfl) encP_len zP 1 rfl (by omega) (by omega) rfl)) ((List.Sublist.refl _)) rfl rfl rfl ?_
            refine ExD.cmp_lss (i := 11) rfl (by kernel_rfl) rfl rfl rfl ((List.Sublist.refl _)) rfl rfl rfl (fun h111 => ?_) (fun h111 => ?_)
            · refine ExD.done (by kernel_rfl) ?_
              refine Ex.cond_t rfl ?_
              have hmv := mer_4 hvv hcf (by rw [← hoe]; exact upb_f (i := k) (by omega) (by first | assumption | omega))
              refine Ex.regSeq (ExL.pures 0 rfl ?_)
              refine ExL.op rfl (op_buildSlice (sz := 2) rfl rfl rfl rfl rfl rfl rfl rfl (by decide) rfl rfl rfl (fun r112 => ?_))
              refine ExL.pures 2 rfl ?_
              refine ExL.nil ?_
              refine Ex.ret ?_
              refine RetQ.mk ((some ⟨r112, 0, none⟩), 0) rfl (.tmp rfl (.tmp rfl .nil)) (t2 (by rw [hmv]; first | done | rfl) (vI (by rw [hmv]; first | done | rfl))) [0] (by rw [hmv]; first | done | rfl) rfl (trivial)
            · refine ExD.done (by kernel_rfl) ?_
              refine Ex.cond_f rfl ?_
              refine Ex.skip ?_
              refine Ex.region (ExL.pures 1 rfl ?_)
              refine ExL.free (by first | exact fr_add64 rfl rfl rfl (by omega) | exact fr_add rfl rfl rfl) rfl rfl rfl ?_
              refine ExL.pures 1 rfl ?_
              refine ExL.nil ?_
              refine Hand.mk (k + 1) 1 [0] ⟨agI (by omega), trivial⟩ ⟨rfl, trivial⟩ (rfl) rfl (hI.snoc (by first | assumption | omega)) (by omega)
          · refine ExL.nil ?_
            refine Ex.cond_f rfl ?_
            refine Ex.exit ?_
            have hup : upB q.o = true := upb_t hI (by omega)
            refine Ex.seq ?_
            refine Ex.regSeq (ExL.pures 2 rfl ?_)
            refine ExL.gtr rfl rfl rfl rfl rfl rfl (fun h113 => ?_) (fun h113 => ?_)
            · refine ExL.nil ?_
              refine Ex.cond_t rfl ?_
              have hmv := mer_3 hvv hcf (by rw [← hoe]; exact hup) (by rw [← hoe]; omega)
              refine Ex.regSeq (ExL.pures 0 rfl ?_)
              refine ExL.op rfl (op_buildSlice (sz := 2) rfl rfl rfl rfl rfl rfl rfl rfl (by decide) rfl rfl rfl (fun r114 => ?_))
              refine ExL.pures 2 rfl ?_
              refine ExL.nil ?_
              refine Ex.ret ?_
              refine RetQ.mk ((some ⟨r114, 0, none⟩), 0) rfl (.tmp rfl (.tmp rfl .nil)) (t2 (by rw [hmv]; first | done | rfl) (vI (by rw [hmv]; first | done | rfl))) [0] (by rw [hmv]; first | done | rfl) rfl (trivial)
            · refine ExL.nil ?_
              refine Ex.cond_f rfl ?_
              refine Ex.skip ?_
              have hmv := mer_0 hvv hcf (by rw [← hoe]; exact hup) (by rw [← hoe]; omega)
              rw [← hoe] at hmv
              refine Ex.regSeq (ExL.pures 3 rfl ?_)
              refine ExL.nil ?_
              refine Ex.ret ?_
              refine RetQ.mk (q.A, q.c) rfl (.tmp rfl (.tmp rfl .nil)) (t2 (by rw [hmv]; first | done | rfl) (vI (by rw [hmv]; first | done | rfl))) [0] (by rw [hmv]; first | done | rfl) rfl (trivial)
end Go.Proofs.Ytekofeabooliiaa

/- What these functions of the program hand back, each proved by walking its operations. -/
set_option linter.unusedVariables false
set_option linter.unusedSimpArgs false
set_option maxRecDepth 4000
namespace Go.Proofs.Ytekofeabooliiaa
open Go Go.Sx Go.RowKit Go.W Go.Proofs
attribute [local irreducible] Ex ExL ExD Op1 Free RetQ MutQ Reads CellO SegO LoadsAs
end Go.Proofs.Ytekofeabooliiaa

/- What these functions of the program hand back, each proved by walking its operations. -/
set_option linter.unusedVariables false
set_option linter.unusedSimpArgs false
set_option maxRecDepth 4000
namespace Go.Proofs.Ytekofeabooliiaa
open Go Go.Sx Go.RowKit Go.W Go.Proofs
attribute [local irreducible] Ex ExL ExD Op1 Free RetQ MutQ Reads CellO SegO LoadsAs
end Go.Proofs.Ytekofeabooliiaa

/- What these functions of the program hand back, each proved by walking its operations. -/
set_option linter.unusedVariables false
set_option linter.unusedSimpArgs false
set_option maxRecDepth 4000
namespace Go.Proofs.Ytekofeabooliiaa
open Go Go.Sx Go.RowKit Go.W Go.Proofs
attribute [local irreducible] Ex ExL ExD Op1 Free RetQ MutQ Reads CellO SegO LoadsAs
end Go.Proofs.Ytekofeabooliiaa

/- What these functions of the program hand back, each proved by walking its operations. -/
set_option linter.unusedVariables false
set_option linter.unusedSimpArgs false
set_option maxRecDepth 4000
namespace Go.Proofs.Ytekofeabooliiaa
open Go Go.Sx Go.RowKit Go.W Go.Proofs
attribute [local irreducible] Ex ExL ExD Op1 Free RetQ MutQ Reads CellO SegO LoadsAs
end Go.Proofs.Ytekofeabooliiaa

/- What these functions of the program hand back, each proved by walking its operations. -/
set_option linter.unusedVariables false
set_option linter.unusedSimpArgs false
set_option maxRecDepth 4000
namespace Go.Proofs.Ytekofeabooliiaa
open Go Go.Sx Go.RowKit Go.W Go.Proofs
attribute [local irreducible] Ex ExL ExD Op1 Free RetQ MutQ Reads CellO SegO LoadsAs
end Go.Proofs.Ytekofeabooliiaa

/- What these functions of the program hand back, each proved by walking its operations. -/
set_option linter.unusedVariables false
set_option linter.unusedSimpArgs false
set_option maxRecDepth 4000
namespace Go.Proofs.Ytekofeabooliiaa
open Go Go.Sx Go.RowKit Go.W Go.Proofs
attribute [local irreducible] Ex ExL ExD Op1 Free RetQ MutQ Reads CellO SegO LoadsAs
end Go.Proofs.Ytekofeabooliiaa

/- What these functions of the program hand back, each proved by walking its operations. -/
set_option linter.unusedVariables false
set_option linter.unusedSimpArgs false
set_option maxRecDepth 4000
namespace Go.Proofs.Ytekofeabooliiaa
open Go Go.Sx Go.RowKit Go.W Go.Proofs
attribute [local irreducible] Ex ExL ExD Op1 Free RetQ MutQ Reads CellO SegO LoadsAs
theorem e_9 : Enters Try.prog 9 := Enters.of Try.func9 rfl
theorem c_markTotalS (s : List VP) (A : Option Addr) (c : Nat) (n : Nat) (hn : n ≤ 100000000 ∧ s.length = n) (k : Int) (hk : 0 ≤ k ∧ k ≤ 1000000000) : Mut Try.prog 9 [.slice A n c, .int .i64 k] [.row (.slice A n c) 33 2 n (s.flatMap encP)] (fun base w0 F => True) (fun x : Unit => .int .i64 (k + 2 * n)) (fun x => [.row (.slice A n c) 33 2 n ((mkP n k).flatMap encP)]) (fun x => True) := by
  refine Mut.of e_9 Try.func9 rfl Try.ntmps9 rfl rfl (fun base w0 F hfr => ?_)
  obtain ⟨hn1, hsl⟩ := hn
  have hsL : (s.flatMap encP).length = n * 2 := by rw [flat_len encP_len, hsl]
  have hml : ((mkP n k).flatMap encP).length = (s.flatMap encP).length := by rw [hsL, flat_len encP_len, mkP_len]
  have hm0 : maxLen = 9223372036854775807 := rfl
  refine Ex.regSeq (ExL.pures 1 rfl ?_)
  refine ExL.nil ?_
  refine Ex.seq ?_
  refine Ex.regSeq (ExL.pures 1 rfl ?_)
  refine ExL.nil ?_
  refine Ex.block ?_
  refine Ex.loopK (X := Nat) (fun i => [(1, .int .i64 (k + 2 * i)), (5, .int .i64 i)]) (fun i => [.row (.slice A n c) 33 2 n (over ((mkP n k).flatMap encP) (s.flatMap encP) (i * 2))]) (fun i => i ≤ n) (fun i => n - i) 0 [(0, _), (4, _)] (F) 1 [0] ⟨agI (by omega), rfl, trivial⟩ ⟨rfl, rfl, trivial⟩ (pkR (by rw [Nat.zero_mul, over_zero])) rfl (Nat.zero_le _) (fun i hI => ?_)
  have hI : i ≤ n := hI
  refine Ex.seq ?_
  refine Ex.regSeq (ExL.pures 3 rfl ?_)
  refine ExL.lss rfl rfl rfl rfl rfl rfl (fun h1 => ?_) (fun h1 => ?_)
  · refine ExL.nil ?_
    refine Ex.cond_t rfl ?_
    refine Ex.skip ?_
    refine Ex.seq ?_
    refine Ex.block ?_
    refine Ex.regSeq (ExL.pures 3 rfl ?_)
    refine ExL.free (fr_indexAddrR (sz := 2) 0 rfl rfl rfl rfl rfl rfl (by omega)) rfl rfl rfl ?_
    refine ExL.free (fr_fieldAddrR 0 rfl (by omega) rfl rfl rfl rfl rfl rfl) rfl rfl rfl ?_
    refine ExL.op rfl (op_storeRowF (i := 0) rfl rfl rfl rfl rfl rfl rfl rfl (over_roomC hml (by omega) (by simp) rfl) (List.cons_ne_nil _ _) rfl (over_cell (p := i * 2) hml (by omega) (by simp) (mkP_cell (j := 0) (by omega) (by omega))) ?_)
    refine ExL.nil ?_
    refine Ex.regSeq (ExL.pures 1 rfl ?_)
    refine ExL.free (by first | exact fr_add64 rfl rfl rfl (by omega) | exact fr_add rfl rfl rfl) rfl rfl rfl ?_
    refine ExL.pures 1 rfl ?_
    refine ExL.nil ?_
    refine Ex.regSeq (ExL.pures 3 rfl ?_)
    refine ExL.free (fr_indexAddrR (sz := 2) 0 rfl rfl rfl rfl rfl rfl (by omega)) rfl rfl rfl ?_
    refine ExL.free (fr_fieldAddrR 0 rfl (by omega) rfl rfl rfl rfl rfl rfl) rfl rfl rfl ?_
    refine ExL.op rfl (op_storeRowF (i := 0) rfl rfl rfl rfl rfl rfl rfl rfl (over_roomC hml (by omega) (by simp) rfl) (List.cons_ne_nil _ _) rfl (over_cell (p := i * 2 + 1) hml (by omega) (by simp) (mkP_cell (j := 1) (by omega) (by omega))) ?_)
    refine ExL.nil ?_
    refine Ex.region (ExL.pures 1 rfl ?_)
    refine ExL.free (by first | exact fr_add64 rfl rfl rfl (by omega) | exact fr_add rfl rfl rfl) rfl rfl rfl ?_
    refine ExL.pures 1 rfl ?_
    refine ExL.nil ?_
    refine Ex.region (ExL.pures 1 rfl ?_)
    refine ExL.free (by first | exact fr_add64 rfl rfl rfl (by omega) | exact fr_add rfl rfl rfl) rfl rfl rfl ?_
    refine ExL.pures 1 rfl ?_
    refine ExL.nil ?_
    refine Hand.mk (i + 1) 1 [0] ⟨agI (by omega), rfl, trivial⟩ ⟨rfl, rfl, trivial⟩ (pkR (by rw [Nat.succ_mul])) rfl (by omega) (by omega)
  · refine ExL.nil ?_
    refine Ex.cond_f rfl ?_
    refine Ex.exit ?_
    obtain rfl : i = n := (by omega)
    refine Ex.regSeq (ExL.pures 2 rfl ?_)
    refine ExL.nil ?_
    refine Ex.ret ?_
    refine MutQ.mk () rfl (.tmp rfl .nil) (rfl) 1 [0] (pkR (by rw [← hsL, over_all hml])) rfl (trivial)
theorem e_10 : Enters Try.prog 10 := Enters.of Try.func10 rfl
theorem c_heldTotalS (A : Option Addr) (c : Nat) (n : Nat) (hn : n ≤ 100000000) (k : Int) (hk : 0 ≤ k ∧ k ≤ 1000000000) : Ret Try.prog 10 [.slice A n c, .int .i64 k] (fun w => Rd w A ((mkP n k).flatMap encP)) (fun x : Unit => .int .i64 (k + 2 * n)) (fun x => []) (fun x => True) := by
  refine Ret.of e_10 Try.func10 rfl Try.ntmps10 rfl rfl (fun w hpre => ?_)
  have hs := hpre.base
  have hml := mkP_len n k
  rw [← hml]
  have hm0 : maxLen = 9223372036854775807 := rfl
  refine Ex.regSeq (ExL.pures 1 rfl ?_)
  refine ExL.nil ?_
  refine Ex.seq ?_
  refine Ex.regSeq (ExL.pures 1 rfl ?_)
  refine ExL.nil ?_
  refine Ex.block ?_
  refine Ex.loopK (X := Nat) (fun i => [(1, .int .i64 (k + 2 * i)), (5, .int .i64 i)]) (fun i => []) (fun i => i ≤ n) (fun i => n - i) 0 [(0, _)] [] 0 [] ⟨agI (by omega), rfl, trivial⟩ ⟨rfl, trivial⟩ (rfl) rfl (Nat.zero_le _) (fun i hI => ?_)
  have hI : i ≤ n := hI
  refine Ex.seq ?_
  refine Ex.regSeq (ExL.pures 3 rfl ?_)
  refine ExL.lss rfl rfl rfl rfl rfl rfl (fun h1 => ?_) (fun h1 => ?_)
  · refine ExL.nil ?_
    refine Ex.cond_t rfl ?_
    refine Ex.skip ?_
    refine Ex.seq ?_
    refine Ex.block ?_
    refine Ex.seq ?_
    refine Ex.regSeq (ExL.pures 2 rfl ?_)
    refine ExL.free (fr_indexAddrF (Reads.old hs) encP_len rfl rfl rfl rfl rfl rfl (by omega)) rfl rfl rfl ?_
    refine ExL.free (fr_fieldAddrF (i := (↑i : Int).toNat) (Reads.old hs) encP_len rfl rfl rfl (by omega) rfl rfl rfl rfl) rfl rfl rfl ?_
    refine ExL.free (fr_load rfl rfl rfl rfl (by first | exact cellN (Reads.old hs) encP_len zP 0 rfl (by omega) rfl | exact cellF (Reads.old hs) encP_len zP 0 rfl (by omega) rfl)) rfl rfl rfl ?_
    refine ExL.pures 1 rfl ?_
    refine ExL.free (fr_neq_f rfl rfl rfl (by rw [mkP_at (by omega)]; simp)) rfl rfl rfl ?_
    refine ExL.nil ?_
    refine Ex.cond_f rfl ?_
    refine Ex.skip ?_
    refine Ex.regSeq (ExL.pures 1 rfl ?_)
    refine ExL.free (by first | exact fr_add64 rfl rfl rfl (by omega) | exact fr_add rfl rfl rfl) rfl rfl rfl ?_
    refine ExL.pures 1 rfl ?_
    refine ExL.nil ?_
    refine Ex.seq ?_
    refine Ex.regSeq (ExL.pures 2 rfl ?_)
    refine ExL.free (fr_indexAddrF (Reads.old hs) encP_len rfl rfl rfl rfl rfl rfl (by omega)) rfl rfl rfl ?_
    refine ExL.free (fr_fieldAddrF (i := (↑i : Int).toNat) (Reads.old hs) encP_len rfl rfl rfl (by omega) rfl rfl rfl rfl) rfl rfl rfl ?_
    refine ExL.free (fr_load rfl rfl rfl rfl (by first | exact cellN (Reads.old hs) encP_len zP 1 rfl (by omega) rfl | exact cellF (Reads.old hs) encP_len zP 1 rfl (by omega) rfl)) rfl rfl rfl ?_
    refine ExL.pures 1 rfl ?_
    refine ExL.free (fr_neq_f rfl rfl rfl (by rw [mkP_at (by omega)]; simp)) rfl rfl rfl ?_
    refine ExL.nil ?_
    refine Ex.cond_f rfl ?_
    refine Ex.skip ?_
    refine Ex.region (ExL.pures 1 rfl ?_)
    refine ExL.free (by first | exact fr_add64 rfl rfl rfl (by omega) | exact fr_add rfl rfl rfl) rfl rfl rfl ?_
    refine ExL.pures 1 rfl ?_
    refine ExL.nil ?_
    refine Ex.region (ExL.pures 1 rfl ?_)
    refine ExL.free (by first | exact fr_add64 rfl rfl rfl (by omega) | exact fr_add rfl rfl rfl) rfl rfl rfl ?_
    refine ExL.pures 1 rfl ?_
    refine ExL.nil ?_
    refine Hand.mk (i + 1) 0 [] ⟨agI (by omega), rfl, trivial⟩ ⟨rfl, trivial⟩ (rfl) rfl (by omega) (by omega)
  · refine ExL.nil ?_
    refine Ex.cond_f rfl ?_
    refine Ex.exit ?_
    refine Ex.regSeq (ExL.pures 2 rfl ?_)
    refine ExL.nil ?_
    refine Ex.ret ?_
    refine RetQ.mk () rfl (.tmp rfl .nil) (tI (by omega)) [] (rfl) rfl (trivial)
end Go.Proofs.Ytekofeabooliiaa

/- What these functions of the program hand back, each proved by walking its operations. -/
set_option linter.unusedVariables false
set_option linter.unusedSimpArgs false
set_option maxRecDepth 4000
namespace Go.Proofs.Ytekofeabooliiaa
open Go Go.Sx Go.RowKit Go.W Go.Proofs
attribute [local irreducible] Ex ExL ExD Op1 Free RetQ MutQ Reads CellO SegO LoadsAs
end Go.Proofs.Ytekofeabooliiaa

/- What these functions of the program hand back, each proved by walking its operations. -/
set_option linter.unusedVariables false
set_option linter.unusedSimpArgs false
set_option maxRecDepth 4000
namespace Go.Proofs.Ytekofeabooliiaa
open Go Go.Sx Go.RowKit Go.W Go.Proofs
attribute [local irreducible] Ex ExL ExD Op1 Free RetQ MutQ Reads CellO SegO LoadsAs
theorem e_25 : Enters Try.prog 25 := Enters.of Try.func25 rfl
theorem c_isNaN (a : Int) : Ret Try.prog 25 [.int .i64 a] (fun w => True) (fun x : Unit => .bool false) (fun x => []) (fun x => True) := by
  refine Ret.of e_25 Try.func25 rfl Try.ntmps25 rfl rfl (fun w hpre => ?_)
  refine Ex.regSeq (ExL.pures 1 rfl ?_)
  refine ExL.nil ?_
  refine Ex.regSeq (ExL.pures 2 rfl ?_)
  refine ExL.free (fr_neq_f rfl rfl rfl (fun h => h rfl)) rfl rfl rfl ?_
  refine ExL.pures 1 rfl ?_
  refine ExL.nil ?_
  refine Ex.ret ?_
  refine RetQ.mk () rfl (.tmp rfl .nil) (rfl) [] (rfl) rfl (trivial)
theorem e_17 : Enters Try.prog 17 := Enters.of Try.func17 rfl
theorem c_cmp3 (a b : Int) : Ret Try.prog 17 [.int .i64 a, .int .i64 b] (fun w => True) (fun x : Unit => .int .i64 (c3 a b)) (fun x => []) (fun x => True) := by
  refine Ret.of e_17 Try.func17 rfl Try.ntmps17 rfl rfl (fun w hpre => ?_)
  refine Ex.regSeq (ExL.pures 1 rfl ?_)
  refine ExL.nil ?_
  refine Ex.regSeq (ExL.pures 1 rfl ?_)
  refine ExL.op rfl (op_ret rfl rfl rfl (c_isNaN _) (fun _ _ => trivial) rfl rfl (fun x1 hx1 => ?_))
  refine ExL.pures 1 rfl ?_
  refine ExL.nil ?_
  refine Ex.regSeq (ExL.pures 1 rfl ?_)
  refine ExL.op rfl (op_ret rfl rfl rfl (c_isNaN _) (fun _ _ => trivial) rfl rfl (fun x2 hx2 => ?_))
  refine ExL.pures 1 rfl ?_
  refine ExL.nil ?_
  refine Ex.seq ?_
  refine Ex.regSeq (ExL.pures 1 rfl ?_)
  refine ExL.nil ?_
  refine Ex.cond_f rfl ?_
  refine Ex.skip ?_
  refine Ex.seq ?_
  refine Ex.regSeq (ExL.pures 1 rfl ?_)
  refine ExL.nil ?_
  refine Ex.cond_f rfl ?_
  refine Ex.skip ?_
  refine Ex.seq ?_
  refine Ex.regSeq (ExL.pures 2 rfl ?_)
  refine ExL.lss rfl rfl rfl rfl rfl rfl (fun h3 => ?_) (fun h3 => ?_)
  · refine ExL.nil ?_
    refine Ex.cond_t rfl ?_
    refine Ex.regSeq (ExL.pures 1 rfl ?_)
    refine ExL.nil ?_
    refine Ex.ret ?_
    refine RetQ.mk () rfl (.tmp rfl .nil) (tI (by unfold c3; split <;> first | omega | (split <;> omega))) [] (rfl) rfl (trivial)
  · refine ExL.nil ?_
    refine Ex.cond_f rfl ?_
    refine Ex.skip ?_
    refine Ex.seq ?_
    refine Ex.regSeq (ExL.pures 2 rfl ?_)
    refine ExL.gtr rfl rfl rfl rfl rfl rfl (fun h4 => ?_) (fun h4 => ?_)
    · refine ExL.nil ?_
      refine Ex.cond_t rfl ?_
      refine Ex.regSeq (ExL.pures 1 rfl ?_)
      refine ExL.nil ?_
      refine Ex.ret ?_
      refine RetQ.mk () rfl (.tmp rfl .nil) (tI (by unfold c3; split <;> first | omega | (split <;> omega))) [] (rfl) rfl (trivial)
    · refine ExL.nil ?_
      refine Ex.cond_f rfl ?_
      refine Ex.skip ?_
      refine Ex.regSeq (ExL.pures 1 rfl ?_)
      refine ExL.nil ?_
      refine Ex.ret ?_
      refine RetQ.mk () rfl (.tmp rfl .nil) (tI (by unfold c3; split <;> first | omega | (split <;> omega))) [] (rfl) rfl (trivial)
end Go.Proofs.Ytekofeabooliiaa

/- What these functions of the program hand back, each proved by walking its operations. -/
set_option linter.unusedVariables false
set_option linter.unusedSimpArgs false
set_option maxRecDepth 4000
namespace Go.Proofs.Ytekofeabooliiaa
open Go Go.Sx Go.RowKit Go.W Go.Proofs
attribute [local irreducible] Ex ExL ExD Op1 Free RetQ MutQ Reads CellO SegO LoadsAs
theorem e_16 : Enters Try.prog 16 := Enters.of Try.func16 rfl
theorem c_mcmp (u v : VP) : Ret Try.prog 16 [.agg (encP u).toArray, .agg (encP v).toArray] (fun w => True) (fun x : Unit => .int .i64 (c3 u.a v.a)) (fun x => []) (fun x => True) := by
  refine Ret.of e_16 Try.func16 rfl Try.ntmps16 rfl rfl (fun w hpre => ?_)
  refine Ex.regSeq (ExL.pures 0 rfl ?_)
  refine ExL.op rfl (op_box rfl rfl rfl rfl rfl (fun b1 => ?_))
  refine ExL.op rfl (op_box rfl rfl rfl rfl rfl (fun b2 => ?_))
  refine ExL.pures 1 rfl ?_
  refine ExL.nil ?_
  refine Ex.regSeq (ExL.pures 1 rfl ?_)
  refine ExL.free (fr_load rfl rfl rfl rfl (CellO.blk (i := 1) rfl rfl)) rfl rfl rfl ?_
  refine ExL.pures 1 rfl ?_
  refine ExL.free (fr_load rfl rfl rfl rfl (CellO.blk (i := 0) rfl rfl)) rfl rfl rfl ?_
  refine ExL.op rfl (op_ret rfl rfl rfl (c_cmp3 u.a v.a) (fun _ _ => trivial) rfl rfl (fun x3 hx3 => ?_))
  refine ExL.pures 1 rfl ?_
  refine ExL.nil ?_
  refine Ex.ret ?_
  refine RetQ.mk () rfl (.tmp rfl .nil) (rfl) [] (rfl) rfl (trivial)
theorem e_26 : Enters Try.prog 26 := Enters.of Try.func26 rfl
theorem c_insertion (l : List VP) (A : Addr) (n c : Nat) (hn : l.length = n ∧ n ≤ 1000) (a b : Nat) (hab : a ≤ b ∧ b ≤ n) : Mut Try.prog 26 [.slice (some A) n c, .int .i64 (a : Int), .int .i64 (b : Int), .func (.func 16) #[] #[]] [.row (.slice (some A) n c) 33 2 n (l.flatMap encP)] (fun base w0 F => True) (fun x : List VP => .tuple #[]) (fun x => [.row (.slice (some A) n c) 33 2 n (x.flatMap encP)]) (fun x => Mv a b l x ∧ Up x a b) := by
  refine Mut.of e_26 Try.func26 rfl Try.ntmps26 rfl rfl (fun base w0 F hfr => ?_)
  obtain ⟨hn1, hn2⟩ := hn
  obtain ⟨hab1, hab2⟩ := hab
  have hm0 : maxLen = 9223372036854775807 := rfl
  refine Ex.regSeq (ExL.pures 1 rfl ?_)
  refine ExL.free (by first | exact fr_add64 rfl rfl rfl (by omega) | exact fr_add rfl rfl rfl) rfl rfl rfl ?_
  refine ExL.pures 1 rfl ?_
  refine ExL.nil ?_
  refine Ex.block ?_
  refine Ex.loopK (X := Nat × List VP) (fun q => [(8, .int .i64 (q.1 : Int))]) (fun q => [.row (.slice (some A) n c) 33 2 n (q.2.flatMap encP)]) (fun q => (a + 1 ≤ q.1 ∧ (q.1 ≤ b ∨ q.1 = a + 1)) ∧ Mv a b l q.2 ∧ Up q.2 a q.1) (fun q => b - q.1) (a + 1, l) [(0, _), (1, _), (2, _), (3, _)] (F) 1 [0] ⟨agI (by push_cast; omega), trivial⟩ ⟨rfl, rfl, rfl, rfl, trivial⟩ (rfl) rfl ⟨⟨by dsimp only; omega, by dsimp only; omega⟩, Mv.refl _ _ _, fun p q h1 h2 h3 => by dsimp only at h3; omega⟩ (fun q hI => ?_)
  have hI : (a + 1 ≤ q.1 ∧ (q.1 ≤ b ∨ q.1 = a + 1)) ∧ Mv a b l q.2 ∧ Up q.2 a q.1 := hI
  obtain ⟨⟨hi1, hi2⟩, hmv, hup⟩ := hI
  have hlen := hmv.same.len
  refine Ex.seq ?_
  refine Ex.regSeq (ExL.pures 2 rfl ?_)
  refine ExL.lss rfl rfl rfl rfl rfl rfl (fun h1 => ?_) (fun h1 => ?_)
  · refine ExL.nil ?_
    refine Ex.cond_t rfl ?_
    refine Ex.skip ?_
    refine Ex.seq ?_
    refine Ex.block ?_
    refine Ex.regSeq (ExL.pures 2 rfl ?_)
    refine ExL.nil ?_
    refine Ex.block ?_
    refine Ex.loopK (X := Nat × List VP) (fun r => [(9, .int .i64 (r.1 : Int))]) (fun r => [.row (.slice (some A) n c) 33 2 n (r.2.flatMap encP)]) (fun r => Put a b q.1 r.1 l r.2) (fun r => r.1) (q.1, q.2) [(0, _), (1, _), (2, _), (3, _), (8, _)] (F) 1 [0] ⟨rfl, trivial⟩ ⟨rfl, rfl, rfl, rfl, rfl, trivial⟩ (rfl) rfl (Put.start hmv (by omega) (by omega) hup) (fun r hI => ?_)
    have hI : Put a b q.1 r.1 l r.2 := hI
    have hlr := hI.mv.same.len
    have hja := hI.ja
    have hji := hI.ji
    have hib := hI.ib
    refine Ex.seq ?_
    have hc := c3n (r.2.getD r.1 zP).a (r.2.getD (r.1 - 1) zP).a
    refine Ex.drawSeqM rfl ?_
    refine ExD.take (i := 0) rfl (by kernel_rfl) (pureVal_ok rfl) ((List.Sublist.refl _)) rfl rfl rfl ?_
    refine ExD.take (i := 1) rfl (by kernel_rfl) (pureVal_ok rfl) ((List.Sublist.refl _)) rfl rfl rfl ?_
    refine ExD.cmp_gtr (i := 2) rfl (by kernel_rfl) rfl rfl rfl ((List.Sublist.refl _)) rfl rfl rfl (fun h2 => ?_) (fun h2 => ?_)
    · refine ExD.take (i := 3) rfl (by kernel_rfl) (pureVal_ok rfl) ((List.Sublist.refl _)) rfl rfl rfl ?_
      refine ExD.take (i := 4) rfl (by kernel_rfl) (pureVal_ok rfl) ((List.Sublist.refl _)) rfl rfl rfl ?_
      refine ExD.take (i := 5) rfl (by kernel_rfl) (pureVal_ok rfl) ((List.Sublist.refl _)) rfl rfl rfl ?_
      refine ExD.take (i := 6) rfl (by kernel_rfl) (pureVal_ok rfl) ((List.Sublist.refl _)) rfl rfl rfl ?_
      refine ExD.take (i := 7) rfl (by kernel_rfl) (fr_indexAddr (sz := 2) rfl rfl rfl rfl rfl rfl (by omega)) ((List.Sublist.refl _)) rfl rfl rfl ?_
      refine ExD.take (i := 8) rfl (by kernel_rfl) (fr_loadN rfl rfl rfl rfl rfl (segJ (r.1) (Reads.row (i := 0) rfl) encP_len rfl zP (by omega) (by omega))) ((List.Sublist.refl _)) rfl rfl rfl ?_
      refine ExD.take (i := 9) rfl (by kernel_rfl) (pureVal_ok rfl) ((List.Sublist.refl _)) rfl rfl rfl ?_
      refine ExD.take (i := 10) rfl (by kernel_rfl) (pureVal_ok rfl) ((List.Sublist.refl _)) rfl rfl rfl ?_
      refine ExD.take (i := 11) rfl (by kernel_rfl) (by first | exact fr_sub64 rfl rfl rfl (by omega) | exact fr_sub rfl rfl rfl) ((List.Sublist.refl _)) rfl rfl rfl ?_
      refine ExD.take (i := 12) rfl (by kernel_rfl) (fr_indexAddr (sz := 2) rfl rfl rfl rfl rfl rfl (by omega)) ((List.Sublist.refl _)) rfl rfl rfl ?_
      refine ExD.take (i := 13) rfl (by kernel_rfl) (fr_loadN rfl rfl rfl rfl rfl (segJ ((r.1 - 1)) (Reads.row (i := 0) rfl) encP_len rfl zP (by omega) (by omega))) ((List.Sublist.refl _)) rfl rfl rfl ?_
      refine ExD.op (i := 14) rfl (by kernel_rfl) rfl (op_ret rfl rfl rfl (c_mcmp (r.2.getD r.1 zP) (r.2.getD (r.1 - 1) zP)) (fun _ _ => trivial) rfl rfl (fun x3 hx3 => ⟨(List.Sublist.refl _), ?_⟩))
      refine ExD.cmp_lss (i := 15) rfl (by kernel_rfl) rfl rfl rfl ((List.Sublist.refl _)) rfl rfl rfl (fun h4 => ?_) (fun h4 => ?_)
      · refine ExD.take (i := 16) rfl (by kernel_rfl) (pureVal_ok rfl) ((List.Sublist.refl _)) rfl rfl rfl ?_
        refine ExD.done (by kernel_rfl) ?_
        refine Ex.cond_t rfl ?_
        refine Ex.skip ?_
        refine Ex.seq ?_
        refine Ex.block ?_
        refine Ex.drawI [] rfl rfl ?_
        refine ExD.take (i := 0) rfl (by kernel_rfl) (pureVal_ok rfl) ((List.nil_sublist _)) rfl rfl rfl ?_
        refine ExD.take (i := 1) rfl (by kernel_rfl) (pureVal_ok rfl) ((List.nil_sublist _)) rfl rfl rfl ?_
        refine ExD.take (i := 2) rfl (by kernel_rfl) (pureVal_ok rfl) ((List.nil_sublist _)) rfl rfl rfl ?_
        refine ExD.take (i := 3) rfl (by kernel_rfl) (pureVal_ok rfl) ((List.nil_sublist _)) rfl rfl rfl ?_
        refine ExD.take (i := 4) rfl (by kernel_rfl) (by first | exact fr_sub64 rfl rfl rfl (by omega) | exact fr_sub rfl rfl rfl) ((List.nil_sublist _)) rfl rfl rfl ?_
        refine ExD.take (i := 5) rfl (by kernel_rfl) (pureVal_ok rfl) ((List.nil_sublist _)) rfl rfl rfl ?_
        refine ExD.take (i := 6) rfl (by kernel_rfl) (pureVal_ok rfl) ((List.nil_sublist _)) rfl rfl rfl ?_
        refine ExD.take (i := 7) rfl (by kernel_rfl) (by first | exact fr_sub64 rfl rfl rfl (by omega) | exact fr_sub rfl rfl rfl) ((List.nil_sublist _)) rfl rfl rfl ?_
        refine ExD.take (i := 8) rfl (by kernel_rfl) (fr_indexAddr (sz := 2) rfl rfl rfl rfl rfl rfl (by omega)) ((List.nil_sublist _)) rfl rfl rfl ?_
        refine ExD.take (i := 10) rfl (by kernel_rfl) (pureVal_ok rfl) ((List.nil_sublist _)) rfl rfl rfl ?_
        refine ExD.take (i := 11) rfl (by kernel_rfl) (pureVal_ok rfl) ((List.nil_sublist _)) rfl rfl rfl ?_
        refine ExD.take (i := 12) rfl (by kernel_rfl) (fr_indexAddr (sz := 2) rfl rfl rfl rfl rfl rfl (by omega)) ((List.nil_sublist _)) rfl rfl rfl ?_
        refine ExD.two (i := 9) (j := 13) rfl rfl (by kernel_rfl) (by kernel_rfl) (by kernel_rfl) rfl (List.nil_sublist _) rfl rfl rfl rfl rfl rfl rfl rfl rfl (fr_loadN rfl rfl rfl rfl rfl (segJ ((r.1 - 1)) (Reads.row (i := 0) rfl) encP_len rfl zP (by omega) (by omega))) (fr_loadN rfl rfl rfl rfl rfl (segJ (r.1) (Reads.row (i := 0) rfl) encP_len rfl zP (by omega) (by omega))) (fr_loadN rfl rfl rfl rfl rfl (segJ ((r.1 - 1)) (Reads.row (i := 0) rfl) encP_len rfl zP (by omega) (by omega))) (fr_loadN rfl rfl rfl rfl rfl (segJ (r.1) (Reads.row (i := 0) rfl) encP_len rfl zP (by omega) (by omega))) ?_
        refine ExD.take (i := 14) rfl (by kernel_rfl) (fr_indexAddr (sz := 2) rfl rfl rfl rfl rfl rfl (by omega)) ((List.nil_sublist _)) rfl rfl rfl ?_
        refine ExD.op (i := 15) rfl (by kernel_rfl) rfl (op_storeRowF (i := 0) rfl rfl rfl rfl rfl rfl rfl rfl (room encP_len (k := r.1) (by omega) (by simp) rfl) (List.cons_ne_nil _ _) rfl (vp_put (i := r.1) (r.2.getD (r.1 - 1) zP) (by omega) (by simp) rfl) ⟨(List.nil_sublist _), ?_⟩)
        refine ExD.take (i := 16) rfl (by kernel_rfl) (fr_indexAddr (sz := 2) rfl rfl rfl rfl rfl rfl (by omega)) ((List.nil_sublist _)) rfl rfl rfl ?_
        refine ExD.last (i := 17) rfl (by kernel_rfl) (by kernel_rfl) rfl (op_storeRowF (i := 0) rfl rfl rfl rfl rfl rfl rfl rfl (room encP_len (k := (r.1 - 1)) (by rw [List.length_set]; omega) (by omega) rfl) (List.cons_ne_nil _ _) rfl (vp_put (i := (r.1 - 1)) (r.2.getD r.1 zP) (by rw [List.length_set]; omega) (by omega) rfl) ?_)
        refine ExD.done (by kernel_rfl) ?_
        refine Ex.region (ExL.pures 1 rfl ?_)
        refine ExL.free (by first | exact fr_sub64 rfl rfl rfl (by omega) | exact fr_sub rfl rfl rfl) rfl rfl rfl ?_
        refine ExL.pures 1 rfl ?_
        refine ExL.nil ?_
        refine Hand.mk ((r.1 - 1, sw r.2 (r.1 - 1))) 1 [0] ⟨agI (by dsimp only; omega), trivial⟩ ⟨rfl, rfl, rfl, rfl, rfl, trivial⟩ (by rw [← sw_eq (by omega)]; rfl) rfl ((hI.down (by omega) (by omega) (by omega))) ((by dsimp only; omega))
      · refine ExD.take (i := 16) rfl (by kernel_rfl) (pureVal_ok rfl) ((List.Sublist.refl _)) rfl rfl rfl ?_
        refine ExD.done (by kernel_rfl) ?_
        refine Ex.cond_f rfl ?_
        refine Ex.exit ?_
        have hPm := hI.mv
        have hpf := hI.fin (by omega)
        refine Ex.region (ExL.pures 1 rfl ?_)
        refine ExL.free (by first | exact fr_add64 rfl rfl rfl (by omega) | exact fr_add rfl rfl rfl) rfl rfl rfl ?_
        refine ExL.pures 1 rfl ?_
        refine ExL.nil ?_
        refine Hand.mk ((q.1 + 1, r.2)) 1 [0] ⟨agI (by push_cast; omega), trivial⟩ ⟨rfl, rfl, rfl, rfl, trivial⟩ (rfl) rfl (⟨⟨by dsimp only; omega, by dsimp only; omega⟩, hPm, hpf⟩) ((by dsimp only; omega))
    · refine ExD.take (i := 3) rfl (by kernel_rfl) (pureVal_ok rfl) ((List.Sublist.refl _)) rfl rfl rfl ?_
      refine ExD.pass (i := 4) rfl (by kernel_rfl) ((List.Sublist.refl _)) rfl rfl rfl ?_
      refine ExD.pass (i := 5) rfl (by kernel_rfl) ((List.Sublist.refl _)) rfl rfl rfl ?_
      refine ExD.pass (i := 6) rfl (by kernel_rfl) ((List.Sublist.refl _)) rfl rfl rfl ?_
      refine ExD.pass (i := 7) rfl (by kernel_rfl) ((List.Sublist.refl _)) rfl rfl rfl ?_
      refine ExD.pass (i := 8) rfl (by kernel_rfl) ((List.Sublist.refl _)) rfl rfl rfl ?_
      refine ExD.pass (i := 9) rfl (by kernel_rfl) ((List.Sublist.refl _)) rfl rfl rfl ?_
      refine ExD.pass (i := 10) rfl (by kernel_rfl) ((List.Sublist.refl _)) rfl rfl rfl ?_
      refine ExD.pass (i := 11) rfl (by kernel_rfl) ((List.Sublist.refl _)) rfl rfl rfl ?_
      refine ExD.pass (i := 12) rfl (by kernel_rfl) ((List.Sublist.refl _)) rfl rfl rfl ?_
      refine ExD.pass (i := 13) rfl (by kernel_rfl) ((List.Sublist.refl _)) rfl rfl rfl ?_
      refine ExD.pass (i := 14) rfl (by kernel_rfl) ((List.Sublist.refl _)) rfl rfl rfl ?_
      refine ExD.pass (i := 15) rfl (by kernel_rfl) ((List.Sublist.refl _)) rfl rfl rfl ?_
      refine ExD.take (i := 16) rfl (by kernel_rfl) (pureVal_ok rfl) ((List.Sublist.refl _)) rfl rfl rfl ?_
      refine ExD.done (by kernel_rfl) ?_
      refine Ex.cond_f rfl ?_
      refine Ex.exit ?_
      have hPm := hI.mv
      have hpf := hI.fin (by omega)
      refine Ex.region (ExL.pures 1 rfl ?_)
      refine ExL.free (by first | exact fr_add64 rfl rfl rfl (by omega) | exact fr_add rfl rfl rfl) rfl rfl rfl ?_
      refine ExL.pures 1 rfl ?_
      refine ExL.nil ?_
      refine Hand.mk ((q.1 + 1, r.2)) 1 [0] ⟨agI (by push_cast; omega), trivial⟩ ⟨rfl, rfl, rfl, rfl, trivial⟩ (rfl) rfl (⟨⟨by dsimp only; omega, by dsimp only; omega⟩, hPm, hpf⟩) ((by dsimp only; omega))
  · refine ExL.nil ?_
    refine Ex.cond_f rfl ?_
    refine Ex.exit ?_
    refine MutQ.mk q.2 rfl .nil (rfl) 1 [0] (rfl) rfl (⟨hmv, fun p q h1 h2 h3 => hup p q h1 h2 (by omega)⟩)
end Go.Proofs.Ytekofeabooliiaa

/- What these functions of the program hand back, each proved by walking its operations. -/
set_option linter.unusedVariables false
set_option linter.unusedSimpArgs false
set_option maxRecDepth 4000
namespace Go.Proofs.Ytekofeabooliiaa
open Go Go.Sx Go.RowKit Go.W Go.Proofs
attribute [local irreducible] Ex ExL ExD Op1 Free RetQ MutQ Reads CellO SegO LoadsAs
theorem e_29 : Enters Try.prog 29 := Enters.of Try.func29 rfl
theorem c_swapRange (l : List VP) (A : Addr) (n c : Nat) (hn : l.length = n ∧ n ≤ 1000) (a b k : Nat) (hab : a + k ≤ b ∧ b + k ≤ n) : Mut Try.prog 29 [.slice (some A) n c, .int .i64 (a : Int), .int .i64 (b : Int), .int .i64 (k : Int), .func (.func 16) #[] #[]] [.row (.slice (some A) n c) 33 2 n (l.flatMap encP)] (fun base w0 F => True) (fun x : Unit => .tuple #[]) (fun x => [.row (.slice (some A) n c) 33 2 n ((swR l a b k).flatMap encP)]) (fun x => True) := by
  refine Mut.of e_29 Try.func29 rfl Try.ntmps29 rfl rfl (fun base w0 F hfr => ?_)
  obtain ⟨hn1, hn2⟩ := hn
  obtain ⟨hab1, hab2⟩ := hab
  have hm0 : maxLen = 9223372036854775807 := rfl
  refine Ex.regSeq (ExL.pures 1 rfl ?_)
  refine ExL.nil ?_
  refine Ex.block ?_
  refine Ex.loopK (X := Nat) (fun i => [(10, .int .i64 (i : Int))]) (fun i => [.row (.slice (some A) n c) 33 2 n ((swR l a b i).flatMap encP)]) (fun i => i ≤ k) (fun i => k - i) 0 [(0, _), (1, _), (2, _), (3, _)] (F) 1 [0] ⟨rfl, trivial⟩ ⟨rfl, rfl, rfl, rfl, trivial⟩ (rfl) rfl (Nat.zero_le _) (fun i hI => ?_)
  have hI : i ≤ k := hI
  have hlr := swR_len l a b i
  refine Ex.seq ?_
  refine Ex.regSeq (ExL.pures 2 rfl ?_)
  refine ExL.lss rfl rfl rfl rfl rfl rfl (fun h1 => ?_) (fun h1 => ?_)
  · refine ExL.nil ?_
    refine Ex.cond_t rfl ?_
    refine Ex.skip ?_
    refine Ex.seq ?_
    refine Ex.block ?_
    refine Ex.drawI [] rfl rfl ?_
    refine ExD.take (i := 0) rfl (by kernel_rfl) (pureVal_ok rfl) ((List.nil_sublist _)) rfl rfl rfl ?_
    refine ExD.take (i := 1) rfl (by kernel_rfl) (pureVal_ok rfl) ((List.nil_sublist _)) rfl rfl rfl ?_
    refine ExD.take (i := 2) rfl (by kernel_rfl) (pureVal_ok rfl) ((List.nil_sublist _)) rfl rfl rfl ?_
    refine ExD.take (i := 3) rfl (by kernel_rfl) (by first | exact fr_add64 rfl rfl rfl (by omega) | exact fr_add rfl rfl rfl) ((List.nil_sublist _)) rfl rfl rfl ?_
    refine ExD.take (i := 4) rfl (by kernel_rfl) (pureVal_ok rfl) ((List.nil_sublist _)) rfl rfl rfl ?_
    refine ExD.take (i := 5) rfl (by kernel_rfl) (pureVal_ok rfl) ((List.nil_sublist _)) rfl rfl rfl ?_
    refine ExD.take (i := 6) rfl (by kernel_rfl) (pureVal_ok rfl) ((List.nil_sublist _)) rfl rfl rfl ?_
    refine ExD.take (i := 7) rfl (by kernel_rfl) (by first | exact fr_add64 rfl rfl rfl (by omega) | exact fr_add rfl rfl rfl) ((List.nil_sublist _)) rfl rfl rfl ?_
    refine ExD.take (i := 8) rfl (by kernel_rfl) (pureVal_ok rfl) ((List.nil_sublist _)) rfl rfl rfl ?_
    refine ExD.take (i := 9) rfl (by kernel_rfl) (pureVal_ok rfl) ((List.nil_sublist _)) rfl rfl rfl ?_
    refine ExD.take (i := 10) rfl (by kernel_rfl) (pureVal_ok rfl) ((List.nil_sublist _)) rfl rfl rfl ?_
    refine ExD.take (i := 11) rfl (by kernel_rfl) (by first | exact fr_add64 rfl rfl rfl (by omega) | exact fr_add rfl rfl rfl) ((List.nil_sublist _)) rfl rfl rfl ?_
    refine ExD.take (i := 12) rfl (by kernel_rfl) (fr_indexAddr (sz := 2) rfl rfl rfl rfl rfl rfl (by omega)) ((List.nil_sublist _)) rfl rfl rfl ?_
    refine ExD.take (i := 14) rfl (by kernel_rfl) (pureVal_ok rfl) ((List.nil_sublist _)) rfl rfl rfl ?_
    refine ExD.take (i := 15) rfl (by kernel_rfl) (pureVal_ok rfl) ((List.nil_sublist _)) rfl rfl rfl ?_
    refine ExD.take (i := 16) rfl (by kernel_rfl) (pureVal_ok rfl) ((List.nil_sublist _)) rfl rfl rfl ?_
    refine ExD.take (i := 17) rfl (by kernel_rfl) (by first | exact fr_add64 rfl rfl rfl (by omega) | exact fr_add rfl rfl rfl) ((List.nil_sublist _)) rfl rfl rfl ?_
    refine ExD.take (i := 18) rfl (by kernel_rfl) (fr_indexAddr (sz := 2) rfl rfl rfl rfl rfl rfl (by omega)) ((List.nil_sublist _)) rfl rfl rfl ?_
    refine ExD.two (i := 13) (j := 19) rfl rfl (by kernel_rfl) (by kernel_rfl) (by kernel_rfl) rfl (List.nil_sublist _) rfl rfl rfl rfl rfl rfl rfl rfl rfl (fr_loadN rfl rfl rfl rfl rfl (segJ ((b + i)) (Reads.row (i := 0) rfl) encP_len rfl zP (by omega) (by omega))) (fr_loadN rfl rfl rfl rfl rfl (segJ ((a + i)) (Reads.row (i := 0) rfl) encP_len rfl zP (by omega) (by omega))) (fr_loadN rfl rfl rfl rfl rfl (segJ ((b + i)) (Reads.row (i := 0) rfl) encP_len rfl zP (by omega) (by omega))) (fr_loadN rfl rfl rfl rfl rfl (segJ ((a + i)) (Reads.row (i := 0) rfl) encP_len rfl zP (by omega) (by omega))) ?_
    refine ExD.take (i := 20) rfl (by kernel_rfl) (fr_indexAddr (sz := 2) rfl rfl rfl rfl rfl rfl (by omega)) ((List.nil_sublist _)) rfl rfl rfl ?_
    refine ExD.op (i := 21) rfl (by kernel_rfl) rfl (op_storeRowF (i := 0) rfl rfl rfl rfl rfl rfl rfl rfl (room encP_len (k := a + i) (by omega) (by omega) rfl) (List.cons_ne_nil _ _) rfl (vp_put (i := a + i) ((swR l a b i).getD (b + i) zP) (by omega) (by omega) rfl) ⟨(List.nil_sublist _), ?_⟩)
    refine ExD.take (i := 22) rfl (by kernel_rfl) (fr_indexAddr (sz := 2) rfl rfl rfl rfl rfl rfl (by omega)) ((List.nil_sublist _)) rfl rfl rfl ?_
    refine ExD.last (i := 23) rfl (by kernel_rfl) (by kernel_rfl) rfl (op_storeRowF (i := 0) rfl rfl rfl rfl rfl rfl rfl rfl (room encP_len (k := b + i) (by rw [List.length_set]; omega) (by omega) rfl) (List.cons_ne_nil _ _) rfl (vp_put (i := b + i) ((swR l a b i).getD (a + i) zP) (by rw [List.length_set]; omega) (by omega) rfl) ?_)
    refine ExD.done (by kernel_rfl) ?_
    refine Ex.region (ExL.pures 1 rfl ?_)
    refine ExL.free (by first | exact fr_add64 rfl rfl rfl (by omega) | exact fr_add rfl rfl rfl) rfl rfl rfl ?_
    refine ExL.pures 1 rfl ?_
    refine ExL.nil ?_
    refine Hand.mk (i + 1) 1 [0] ⟨agI (by push_cast; omega), trivial⟩ ⟨rfl, rfl, rfl, rfl, trivial⟩ (rfl) rfl (by omega) (by omega)
  · refine ExL.nil ?_
    refine Ex.cond_f rfl ?_
    refine Ex.exit ?_
    obtain rfl : k = i := (by omega)
    refine MutQ.mk () rfl .nil (rfl) 1 [0] (rfl) rfl (trivial)
end Go.Proofs.Ytekofeabooliiaa

/- What these functions of the program hand back, each proved by walking its operations. -/
set_option linter.unusedVariables false
set_option linter.unusedSimpArgs false
set_option maxRecDepth 4000
namespace Go.Proofs.Ytekofeabooliiaa
open Go Go.Sx Go.RowKit Go.W Go.Proofs
attribute [local irreducible] Ex ExL ExD Op1 Free RetQ MutQ Reads CellO SegO LoadsAs
theorem c_swapRangeE (l : List VP) (A : Addr) (n c : Nat) (hn : l.length = n ∧ n ≤ 1000) (a b k : Nat) (hab : a + k ≤ b ∧ b + k ≤ n) (a_ b_ k_ : Int) (ha : a_ = a) (hb : b_ = b) (hk : k_ = k) : Mut Try.prog 29 [.slice (some A) n c, .int .i64 a_, .int .i64 b_, .int .i64 k_, .func (.func 16) #[] #[]] [.row (.slice (some A) n c) 33 2 n (l.flatMap encP)] (fun base w0 F => True) (fun x : Unit => .tuple #[]) (fun x => [.row (.slice (some A) n c) 33 2 n ((swR l a b k).flatMap encP)]) (fun x => True) := by
  subst ha hb hk; exact c_swapRange l A n c hn a b k hab
theorem e_28 : Enters Try.prog 28 := Enters.of Try.func28 rfl
theorem c_rotate (l : List VP) (A : Addr) (n c : Nat) (hn : l.length = n ∧ n ≤ 1000) (a m b : Nat) (hab : a < m ∧ m < b ∧ b ≤ n) : Mut Try.prog 28 [.slice (some A) n c, .int .i64 (a : Int), .int .i64 (m : Int), .int .i64 (b : Int), .func (.func 16) #[] #[]] [.row (.slice (some A) n c) 33 2 n (l.flatMap encP)] (fun base w0 F => True) (fun x : List VP => .tuple #[]) (fun x => [.row (.slice (some A) n c) 33 2 n (x.flatMap encP)]) (fun x => Rot a m b l x) := by
  refine Mut.of e_28 Try.func28 rfl Try.ntmps28 rfl rfl (fun base w0 F hfr => ?_)
  obtain ⟨hn1, hn2⟩ := hn
  obtain ⟨hab1, hab2, hab3⟩ := hab
  have hm0 : maxLen = 9223372036854775807 := rfl
  refine Ex.regSeq (ExL.pures 2 rfl ?_)
  refine ExL.free (by first | exact fr_sub64 rfl rfl rfl (by omega) | exact fr_sub rfl rfl rfl) rfl rfl rfl ?_
  refine ExL.pures 1 rfl ?_
  refine ExL.nil ?_
  refine Ex.regSeq (ExL.pures 2 rfl ?_)
  refine ExL.free (by first | exact fr_sub64 rfl rfl rfl (by omega) | exact fr_sub rfl rfl rfl) rfl rfl rfl ?_
  refine ExL.pures 1 rfl ?_
  refine ExL.nil ?_
  refine Ex.seq ?_
  refine Ex.block ?_
  refine Ex.loopK (X := Nat × Nat × List VP) (fun q => [(10, .int .i64 (q.1 : Int)), (11, .int .i64 (q.2.1 : Int))]) (fun q => [.row (.slice (some A) n c) 33 2 n (q.2.2.flatMap encP)]) (fun q => RI a m b l q.1 q.2.1 q.2.2) (fun q => q.1 + q.2.1) (m - a, b - m, l) [(0, _), (2, _), (4, _)] (F) 1 [0] ⟨agI (by first | omega | rfl | (dsimp only; omega)), agI (by first | omega | rfl | (dsimp only; omega)), trivial⟩ ⟨rfl, rfl, rfl, trivial⟩ (rfl) rfl (RI.start hab1 hab2) (fun q hI => ?_)
  have hI : RI a m b l q.1 q.2.1 q.2.2 := hI
  have h_im := hI.im
  have h_jb := hI.jb
  have h_i0 := hI.i0
  have h_j0 := hI.j0
  have h_len := hI.len
  refine Ex.seq ?_
  refine Ex.regSeq (ExL.pures 2 rfl ?_)
  refine ExL.neq rfl rfl rfl rfl rfl rfl (fun h1 => ?_) (fun h1 => ?_)
  · refine ExL.nil ?_
    refine Ex.cond_t rfl ?_
    refine Ex.skip ?_
    refine Ex.block ?_
    refine Ex.regSeq (ExL.pures 2 rfl ?_)
    refine ExL.gtr rfl rfl rfl rfl rfl rfl (fun h2 => ?_) (fun h2 => ?_)
    · refine ExL.nil ?_
      refine Ex.cond_t rfl ?_
      refine Ex.regSeq (ExL.pures 3 rfl ?_)
      refine ExL.free (by first | exact fr_sub64 rfl rfl rfl (by omega) | exact fr_sub rfl rfl rfl) rfl rfl rfl ?_
      refine ExL.pures 3 rfl ?_
      refine ExL.op rfl (op_mut rfl rfl rfl (c_swapRangeE q.2.2 A n c (by constructor <;> omega) (m - q.1) m q.2.1 (by constructor <;> omega) _ _ _ (by omega) (by omega) (by omega)) (perm_at (i := 0) rfl) (trivial) rfl rfl (fun x3 hx3 => ?_))
      refine ExL.nil ?_
      refine Ex.region (ExL.pures 2 rfl ?_)
      refine ExL.free (by first | exact fr_sub64 rfl rfl rfl (by omega) | exact fr_sub rfl rfl rfl) rfl rfl rfl ?_
      refine ExL.pures 1 rfl ?_
      refine ExL.nil ?_
      refine Hand.mk ((q.1 - q.2.1, q.2.1, swR q.2.2 (m - q.1) m q.2.1)) 1 [0] ⟨agI (by first | omega | rfl | (dsimp only; omega)), agI (by first | omega | rfl | (dsimp only; omega)), trivial⟩ ⟨rfl, rfl, rfl, trivial⟩ (rfl) rfl ((hI.left (by omega) (by omega))) ((by first | omega | rfl | (dsimp only; omega)))
    · refine ExL.nil ?_
      refine Ex.cond_f rfl ?_
      refine Ex.regSeq (ExL.pures 3 rfl ?_)
      refine ExL.free (by first | exact fr_sub64 rfl rfl rfl (by omega) | exact fr_sub rfl rfl rfl) rfl rfl rfl ?_
      refine ExL.pures 2 rfl ?_
      refine ExL.free (by first | exact fr_add64 rfl rfl rfl (by omega) | exact fr_add rfl rfl rfl) rfl rfl rfl ?_
      refine ExL.pures 1 rfl ?_
      refine ExL.free (by first | exact fr_sub64 rfl rfl rfl (by omega) | exact fr_sub rfl rfl rfl) rfl rfl rfl ?_
      refine ExL.pures 2 rfl ?_
      refine ExL.op rfl (op_mut rfl rfl rfl (c_swapRangeE q.2.2 A n c (by constructor <;> omega) (m - q.1) ((m + q.2.1) - q.1) q.1 (by constructor <;> omega) _ _ _ (by omega) (by omega) (by omega)) (perm_at (i := 0) rfl) (trivial) rfl rfl (fun x4 hx4 => ?_))
      refine ExL.nil ?_
      refine Ex.region (ExL.pures 2 rfl ?_)
      refine ExL.free (by first | exact fr_sub64 rfl rfl rfl (by omega) | exact fr_sub rfl rfl rfl) rfl rfl rfl ?_
      refine ExL.pures 1 rfl ?_
      refine ExL.nil ?_
      refine Hand.mk ((q.1, q.2.1 - q.1, swR q.2.2 (m - q.1) (m + q.2.1 - q.1) q.1)) 1 [0] ⟨agI (by first | omega | rfl | (dsimp only; omega)), agI (by first | omega | rfl | (dsimp only; omega)), trivial⟩ ⟨rfl, rfl, rfl, trivial⟩ (rfl) rfl ((hI.right (by omega) (by omega))) ((by first | omega | rfl | (dsimp only; omega)))
  · refine ExL.nil ?_
    refine Ex.cond_f rfl ?_
    refine Ex.exit ?_
    refine Ex.region (ExL.pures 3 rfl ?_)
    refine ExL.free (by first | exact fr_sub64 rfl rfl rfl (by omega) | exact fr_sub rfl rfl rfl) rfl rfl rfl ?_
    refine ExL.pures 3 rfl ?_
    refine ExL.op rfl (op_mut rfl rfl rfl (c_swapRangeE q.2.2 A n c (by constructor <;> omega) (m - q.1) m q.1 (by constructor <;> omega) _ _ _ (by omega) (by omega) (by omega)) (perm_at (i := 0) rfl) (trivial) rfl rfl (fun x5 hx5 => ?_))
    refine ExL.nil ?_
    refine MutQ.mk (swR q.2.2 (m - q.1) m q.1) rfl .nil (rfl) 1 [0] (rfl) rfl (hI.fin (by omega) (by omega))
end Go.Proofs.Ytekofeabooliiaa
