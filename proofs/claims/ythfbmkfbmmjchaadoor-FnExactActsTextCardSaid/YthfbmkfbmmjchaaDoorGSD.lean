/- What these functions of the program hand back, each proved by walking its operations. -/
import Derived.Test.YthfbmkfbmmjchaaDoorProg
import Derived.Test.YthfbmkfbmmjchaaDoorFw
import Derived.Test.YthfbmkfbmmjchaaDoorGSB
import Derived.Test.YthfbmkfbmmjchaaDoorM63
import Derived.Test.YthfbmkfbmmjchaaDoorGA
set_option linter.unusedVariables false
set_option linter.unusedSimpArgs false
set_option maxRecDepth 4000
namespace Go.Proofs.YthfbmkfbmmjchaaDoor
open Go Go.Sx Go.RowKit Go.W Go.Proofs
attribute [local irreducible] Ex ExL ExD Op1 Free RetQ MutQ Reads CellO SegO LoadsAs
theorem e_69 : Enters Tryd.prog 69 := Enters.of Tryd.func69 rfl
theorem c_actWords  : Ret Tryd.prog 69 [] (fun w => True) (fun x : Nat => .slice (some ⟨x, 0, none⟩) 6 6) (fun x => [.row (.slice (some ⟨x, 0, none⟩) 6 6) 9 1 6 (wordsL.flatMap eSt)]) (fun x => True) := by
  refine Ret.of e_69 Tryd.func69 rfl Tryd.ntmps69 rfl rfl (fun w hpre => ?_)
  refine Ex.regSeq (ExL.pures 1 rfl ?_)
  refine ExL.nil ?_
  refine Ex.regSeq (ExL.pures 0 rfl ?_)
  refine ExL.op rfl (op_buildSlice (sz := 1) rfl rfl rfl rfl rfl rfl rfl rfl (by decide) rfl rfl rfl (fun r1 => ?_))
  refine ExL.pures 1 rfl ?_
  refine ExL.nil ?_
  refine Ex.ret ?_
  refine RetQ.mk r1 rfl (.tmp rfl .nil) (rfl) [0] (rfl) rfl (trivial)
theorem e_63 : Enters Tryd.prog 63 := Enters.of Tryd.func63 rfl
theorem c_l07Words  : Ret Tryd.prog 63 [] (fun w => True) (fun x : Nat => .slice (some ⟨x, 0, none⟩) 6 6) (fun x => [.row (.slice (some ⟨x, 0, none⟩) 6 6) 9 1 6 (wordsL.flatMap eSt)]) (fun x => True) := by
  refine Ret.of e_63 Tryd.func63 rfl Tryd.ntmps63 rfl rfl (fun w hpre => ?_)
  refine Ex.regSeq (ExL.pures 1 rfl ?_)
  refine ExL.nil ?_
  refine Ex.regSeq (ExL.pures 0 rfl ?_)
  refine ExL.op rfl (op_buildSlice (sz := 1) rfl rfl rfl rfl rfl rfl rfl rfl (by decide) rfl rfl rfl (fun r1 => ?_))
  refine ExL.pures 1 rfl ?_
  refine ExL.nil ?_
  refine Ex.ret ?_
  refine RetQ.mk r1 rfl (.tmp rfl .nil) (rfl) [0] (rfl) rfl (trivial)
theorem e_64 : Enters Tryd.prog 64 := Enters.of Tryd.func64 rfl
theorem c_Signed (n : Int) (hn : -9223372036854775807 ≤ n ∧ n ≤ 9223372036854775807) : Ret Tryd.prog 64 [.int .i64 n] (fun w => True) (fun x : Unit => sv (Lib.itoa n)) (fun x => []) (fun x => True) := by
  refine Ret.of e_64 Tryd.func64 rfl Tryd.ntmps64 rfl rfl (fun w hpre => ?_)
  have hil := itoa_le (n := -n) (by omega)
  refine Ex.regSeq (ExL.pures 1 rfl ?_)
  refine ExL.nil ?_
  refine Ex.seq ?_
  refine Ex.regSeq (ExL.pures 1 rfl ?_)
  refine ExL.lss rfl rfl rfl rfl rfl rfl (fun h1 => ?_) (fun h1 => ?_)
  · refine ExL.nil ?_
    refine Ex.cond_t rfl ?_
    refine Ex.regSeq (ExL.pures 1 rfl ?_)
    refine ExL.free (by first | exact fr_neg64 rfl rfl (by omega) | exact fr_neg rfl rfl) rfl rfl rfl ?_
    refine ExL.op rfl (op_ret rfl rfl rfl (c_sDecimal (-n) (by omega)) (fun _ _ => trivial) rfl rfl (fun x2 hx2 => ?_))
    refine ExL.free (fr_addS (l := [45]) (r := Lib.itoa (-n)) rfl rfl rfl (by first | omega | (simp only [List.length_append, List.length_cons, List.length_nil]; omega))) rfl rfl rfl ?_
    refine ExL.pures 1 rfl ?_
    refine ExL.nil ?_
    refine Ex.ret ?_
    refine RetQ.mk () rfl (.tmp rfl .nil) (tS (by first | rfl | exact (itoa_neg (by omega)).symm)) [] (rfl) rfl (trivial)
  · refine ExL.nil ?_
    refine Ex.cond_f rfl ?_
    refine Ex.skip ?_
    refine Ex.regSeq (ExL.pures 1 rfl ?_)
    refine ExL.op rfl (op_ret rfl rfl rfl (c_sDecimal n (by omega)) (fun _ _ => trivial) rfl rfl (fun x3 hx3 => ?_))
    refine ExL.pures 1 rfl ?_
    refine ExL.nil ?_
    refine Ex.ret ?_
    refine RetQ.mk () rfl (.tmp rfl .nil) (tS (by first | rfl | exact (itoa_neg (by omega)).symm)) [] (rfl) rfl (trivial)
theorem e_34 : Enters Tryd.prog 34 := Enters.of Tryd.func34 rfl
theorem c_actText (a : VAct) (hv : validAct a = true) : Ret Tryd.prog 34 [.agg (encA a).toArray] (fun w => TabO Tryd.prog w) (fun x : Unit => sv (actT a)) (fun x => []) (fun x => True) := by
  refine Ret.of e_34 Tryd.func34 rfl Tryd.ntmps34 rfl rfl (fun w hpre => ?_)
  have htab := hpre
  have hvd := of_decide_eq_true hv
  have hil := itoa_le (n := a.n) (by omega)
  have hwl := actW_le a
  have hw6 : wordsL.length = 6 := rfl
  refine Ex.regSeq (ExL.pures 0 rfl ?_)
  refine ExL.op rfl (op_box rfl rfl rfl rfl rfl (fun b1 => ?_))
  refine ExL.pures 1 rfl ?_
  refine ExL.nil ?_
  refine Ex.drawSeqM rfl ?_
  refine ExD.take (i := 1) rfl (by kernel_rfl) (pureVal_ok rfl) ((List.Sublist.refl _)) rfl rfl rfl ?_
  refine ExD.take (i := 2) rfl (by kernel_rfl) (fr_load rfl rfl rfl rfl (CellO.blk (i := 0) rfl rfl)) ((List.Sublist.refl _)) rfl rfl rfl ?_
  refine ExD.op (i := 0) rfl (by kernel_rfl) rfl (op_ret rfl rfl rfl (c_actWords) (fun _ _ => trivial) rfl rfl (fun x2 hx2 => ⟨(List.Sublist.cons _ (List.Sublist.refl _)), ?_⟩))
  refine ExD.take (i := 3) rfl (by kernel_rfl) (fr_indexAddr (sz := 1) rfl rfl rfl rfl rfl rfl (by omega)) ((List.Sublist.cons _ (List.Sublist.refl _))) rfl rfl rfl ?_
  refine ExD.op (i := 4) rfl (by kernel_rfl) rfl (Op1.of_free (fr_load rfl rfl rfl rfl (by first | exact cellN (Reads.row (i := 0) rfl) eSt_len ([] : List UInt8) 0 rfl (by omega) rfl | exact cellF (Reads.row (i := 0) rfl) eSt_len ([] : List UInt8) 0 rfl (by omega) rfl)) rfl rfl ⟨(List.Sublist.cons _ (List.Sublist.refl _)), ?_⟩)
  refine ExD.take (i := 5) rfl (by kernel_rfl) (pureVal_ok rfl) ((List.Sublist.cons _ (List.Sublist.refl _))) rfl rfl rfl ?_
  refine ExD.done (by kernel_rfl) ?_
  refine Ex.seq ?_
  refine Ex.regSeq (ExL.pures 1 rfl ?_)
  refine ExL.free (fr_load rfl rfl rfl rfl (CellO.blk (i := 1) rfl rfl)) rfl rfl rfl ?_
  refine ExL.leq rfl rfl rfl rfl rfl rfl (fun h3 => ?_) (fun h3 => ?_)
  · refine ExL.nil ?_
    refine Ex.cond_t rfl ?_
    refine Ex.region (ExL.pures 2 rfl ?_)
    refine ExL.free (fr_load rfl rfl rfl rfl (CellO.blk (i := 1) rfl rfl)) rfl rfl rfl ?_
    refine ExL.op rfl (op_ret rfl rfl rfl (c_decimal a.n (by omega)) (fun w hw => TabO.keep htab hw) rfl rfl (fun x4 hx4 => ?_))
    refine ExL.free (fr_addS (l := [32]) (r := Lib.itoa a.n) rfl rfl rfl (by first | omega | (simp only [List.length_append, List.length_cons, List.length_nil]; omega))) rfl rfl rfl ?_
    refine ExL.free (fr_addS (l := (actW a)) (r := ([32] ++ Lib.itoa a.n)) rfl rfl rfl (by first | omega | (simp only [List.length_append, List.length_cons, List.length_nil]; omega))) rfl rfl rfl ?_
    refine ExL.pures 1 rfl ?_
    refine ExL.nil ?_
    refine Ex.regSeq (ExL.pures 2 rfl ?_)
    refine ExL.nil ?_
    refine Ex.ret ?_
    refine RetQ.mk () rfl (.tmp rfl .nil) (tS (by first | exact (actT_3 (by omega)).symm | exact (actT_4 (by omega)).symm)) [] (rfl) rfl (trivial)
  · refine ExL.nil ?_
    refine Ex.cond_f rfl ?_
    refine Ex.skip ?_
    refine Ex.regSeq (ExL.pures 2 rfl ?_)
    refine ExL.nil ?_
    refine Ex.ret ?_
    refine RetQ.mk () rfl (.tmp rfl .nil) (tS (by first | exact (actT_3 (by omega)).symm | exact (actT_4 (by omega)).symm)) [] (rfl) rfl (trivial)
end Go.Proofs.YthfbmkfbmmjchaaDoor
