/- What these functions of the program hand back, each proved by walking its operations. -/
import Derived.Test.YtplljnddhkleaaaProg
import Derived.Test.YtplljnddhkleaaaFw
import Derived.Test.YtplljnddhkleaaaGPB
set_option linter.unusedVariables false
set_option linter.unusedSimpArgs false
set_option maxRecDepth 4000
namespace Go.Proofs.Ytplljnddhkleaaa
open Go Go.Sx Go.RowKit Go.W Go.Proofs
attribute [local irreducible] Ex ExL ExD Op1 Free RetQ MutQ Reads CellO SegO LoadsAs
theorem e_3 : Enters Try.prog 3 := Enters.of Try.func3 rfl
theorem w_FnExactShows (s : List Int) (hu : Nums 255 s) (As : Option Addr) (cs : Nat) (hls : s.length ≤ maxLen) (p : VPh) (hp : OkPh p) (a : Dig) (ha : Nums 255 a.l) : Ret Try.prog 3 [.slice As s.length cs, .agg (encPh p).toArray, .agg (encD a).toArray] (fun w => Rd w As (s.flatMap (eI .u8))) (fun x : Unit => .bool true) (fun x => []) (fun x => True) := by
  refine Ret.of e_3 Try.func3 rfl Try.ntmps3 rfl rfl (fun w hpre => ?_)
  have hs := hpre.base
  have hm0 : maxLen = 9223372036854775807 := rfl
  refine Ex.regSeq (ExL.pures 0 rfl ?_)
  refine ExL.op rfl (op_box rfl rfl rfl rfl rfl (fun b1 => ?_))
  refine ExL.op rfl (op_box rfl rfl rfl rfl rfl (fun b2 => ?_))
  refine ExL.pures 1 rfl ?_
  refine ExL.nil ?_
  refine Ex.seq ?_
  refine Ex.regSeq (ExL.pures 2 rfl ?_)
  refine ExL.gtr rfl rfl rfl rfl rfl rfl (fun h3 => ?_) (fun h3 => ?_)
  · refine ExL.nil ?_
    refine Ex.cond_t rfl ?_
    refine Ex.regSeq (ExL.pures 1 rfl ?_)
    refine ExL.nil ?_
    refine Ex.ret ?_
    refine RetQ.mk () rfl (.tmp rfl .nil) (tB (by first | rfl | (exfalso; omega) | (exfalso; simp_all; done))) [] (rfl) rfl (trivial)
  · refine ExL.nil ?_
    refine Ex.cond_f rfl ?_
    refine Ex.skip ?_
    refine Ex.drawSeqM rfl ?_
    refine ExD.take (i := 0) rfl (by kernel_rfl) (pureVal_ok rfl) ((List.Sublist.refl _)) rfl rfl rfl ?_
    refine ExD.take (i := 2) rfl (by kernel_rfl) (fr_loadN rfl rfl rfl rfl rfl (SegO.whole (i := 1) rfl)) ((List.Sublist.refl _)) rfl rfl rfl ?_
    refine ExD.take (i := 4) rfl (by kernel_rfl) (fr_loadN rfl rfl rfl rfl rfl (SegO.whole (i := 0) rfl)) ((List.Sublist.refl _)) rfl rfl rfl ?_
    refine ExD.op (i := 1) rfl (by kernel_rfl) rfl (op_ret rfl rfl rfl (c_toStack s _ _ (by omega)) (Reads.get (Reads.old hs)) rfl rfl (fun x4 hx4 => ⟨(List.Sublist.cons _ (List.Sublist.refl _)), ?_⟩))
    refine ExD.op (i := 3) rfl (by kernel_rfl) rfl (op_ret rfl rfl rfl (c_toPhoto p) (fun _ _ => trivial) rfl rfl (fun x5 hx5 => ⟨(List.Sublist.cons _ (List.Sublist.refl _)), ?_⟩))
    refine ExD.op (i := 5) rfl (by kernel_rfl) rfl (op_ret rfl rfl rfl (c_toDigits a) (fun _ _ => trivial) rfl rfl (fun x6 hx6 => ⟨(List.Sublist.cons _ (List.Sublist.refl _)), ?_⟩))
    refine ExD.op (i := 6) rfl (by kernel_rfl) rfl (op_ret rfl rfl rfl (c_sShows s (by assumption) _ _ (by omega) p hp a (by assumption)) (Reads.get (Reads.row (i := 0) rfl)) rfl rfl (fun x7 hx7 => ⟨(List.Sublist.cons _ (List.Sublist.refl _)), ?_⟩))
    refine ExD.take (i := 7) rfl (by kernel_rfl) (pureVal_ok rfl) ((List.Sublist.cons _ (List.Sublist.refl _))) rfl rfl rfl ?_
    refine ExD.take (i := 8) rfl (by kernel_rfl) (pureVal_ok rfl) ((List.Sublist.cons _ (List.Sublist.refl _))) rfl rfl rfl ?_
    refine ExD.take (i := 9) rfl (by kernel_rfl) (pureVal_ok rfl) ((List.Sublist.cons _ (List.Sublist.refl _))) rfl rfl rfl ?_
    refine ExD.take (i := 10) rfl (by kernel_rfl) (pureVal_ok rfl) ((List.Sublist.cons _ (List.Sublist.refl _))) rfl rfl rfl ?_
    refine ExD.take (i := 11) rfl (by kernel_rfl) (pureVal_ok rfl) ((List.Sublist.cons _ (List.Sublist.refl _))) rfl rfl rfl ?_
    refine ExD.done (by kernel_rfl) ?_
    refine Ex.regSeq (ExL.pures 1 rfl ?_)
    refine ExL.op rfl (op_ret rfl rfl rfl (c_toStack s _ _ (by omega)) (Reads.get (Reads.old hs)) rfl rfl (fun x8 hx8 => ?_))
    refine ExL.pures 1 rfl ?_
    refine ExL.nil ?_
    refine Ex.drawSeqM rfl ?_
    refine ExD.take (i := 0) rfl (by kernel_rfl) (pureVal_ok rfl) ((List.Sublist.refl _)) rfl rfl rfl ?_
    refine ExD.take (i := 1) rfl (by kernel_rfl) (fr_loadN rfl rfl rfl rfl rfl (SegO.whole (i := 3) rfl)) ((List.Sublist.refl _)) rfl rfl rfl ?_
    refine ExD.take (i := 3) rfl (by kernel_rfl) (fr_loadN rfl rfl rfl rfl rfl (SegO.whole (i := 2) rfl)) ((List.Sublist.refl _)) rfl rfl rfl ?_
    refine ExD.op (i := 2) rfl (by kernel_rfl) rfl (op_ret rfl rfl rfl (c_toPhoto p) (fun _ _ => trivial) rfl rfl (fun x9 hx9 => ⟨(List.Sublist.refl _), ?_⟩))
    refine ExD.op (i := 4) rfl (by kernel_rfl) rfl (op_ret rfl rfl rfl (c_toDigits a) (fun _ _ => trivial) rfl rfl (fun x10 hx10 => ⟨(List.Sublist.refl _), ?_⟩))
    refine ExD.op (i := 5) rfl (by kernel_rfl) rfl (op_ret rfl rfl rfl (c_iShows s (by assumption) _ _ (by omega) p hp a (by assumption)) (Reads.get (Reads.row (i := 0) rfl)) rfl rfl (fun x11 hx11 => ⟨(List.Sublist.refl _), ?_⟩))
    refine ExD.take (i := 6) rfl (by kernel_rfl) (pureVal_ok rfl) ((List.Sublist.refl _)) rfl rfl rfl ?_
    refine ExD.take (i := 7) rfl (by kernel_rfl) (pureVal_ok rfl) ((List.Sublist.refl _)) rfl rfl rfl ?_
    refine ExD.take (i := 8) rfl (by kernel_rfl) (pureVal_ok rfl) ((List.Sublist.refl _)) rfl rfl rfl ?_
    refine ExD.take (i := 9) rfl (by kernel_rfl) (pureVal_ok rfl) ((List.Sublist.refl _)) rfl rfl rfl ?_
    refine ExD.take (i := 10) rfl (by kernel_rfl) (pureVal_ok rfl) ((List.Sublist.refl _)) rfl rfl rfl ?_
    refine ExD.done (by kernel_rfl) ?_
    refine Ex.seq ?_
    refine Ex.regSeq (ExL.pures 2 rfl ?_)
    refine ExL.free (fr_neq_bool rfl rfl rfl rfl) rfl rfl rfl ?_
    refine ExL.pures 1 rfl ?_
    refine ExL.bool (d := 39) rfl (fun hb12 => ?_) (fun hb12 => ?_)
    · refine ExL.pures 4 rfl ?_
      refine ExL.nil ?_
      refine Ex.cond_t rfl ?_
      refine Ex.regSeq (ExL.pures 1 rfl ?_)
      refine ExL.nil ?_
      refine Ex.ret ?_
      refine RetQ.mk () rfl (.tmp rfl .nil) (tB (by first | rfl | (exfalso; omega) | (exfalso; simp_all; done))) [] (rfl) rfl (trivial)
    · refine ExL.pures 2 rfl ?_
      refine ExL.neq rfl rfl rfl rfl rfl rfl (fun h13 => ?_) (fun h13 => ?_)
      · refine ExL.pures 1 rfl ?_
        refine ExL.nil ?_
        refine Ex.cond_t rfl ?_
        refine Ex.regSeq (ExL.pures 1 rfl ?_)
        refine ExL.nil ?_
        refine Ex.ret ?_
        refine RetQ.mk () rfl (.tmp rfl .nil) (tB (by first | rfl | (exfalso; omega) | (exfalso; simp_all; done))) [] (rfl) rfl (trivial)
      · refine ExL.pures 1 rfl ?_
        refine ExL.nil ?_
        refine Ex.cond_f rfl ?_
        refine Ex.skip ?_
        refine Ex.seq ?_
        refine Ex.regSeq (ExL.pures 2 rfl ?_)
        refine ExL.op rfl (op_ret rfl rfl rfl (c_toStack s _ _ (by omega)) (Reads.get (Reads.old hs)) rfl rfl (fun x14 hx14 => ?_))
        refine ExL.op rfl (op_ret rfl rfl rfl (c_eqStack s _ _ (by omega) s _ _ (by omega)) (fun w hw => ⟨Reads.get (Reads.row (i := 1) rfl) w hw, Reads.get (Reads.row (i := 0) rfl) w hw⟩) rfl rfl (fun x15 hx15 => ?_))
        refine ExL.pures 1 rfl ?_
        refine ExL.nil ?_
        refine Ex.cond rfl (fun hb16 => ?_) (fun hb16 => ?_)
        · replace hb16 := nd_t hb16
          refine Ex.regSeq (ExL.pures 1 rfl ?_)
          refine ExL.nil ?_
          refine Ex.ret ?_
          refine RetQ.mk () rfl (.tmp rfl .nil) (tB (by first | rfl | (exfalso; omega) | (exfalso; simp_all; done))) [] (rfl) rfl (trivial)
        · replace hb16 := nd_f hb16
          refine Ex.skip ?_
          refine Ex.regSeq (ExL.pures 1 rfl ?_)
          refine ExL.nil ?_
          refine Ex.ret ?_
          refine RetQ.mk () rfl (.tmp rfl .nil) (tB (by first | rfl | (exfalso; omega) | (exfalso; simp_all; done))) [] (rfl) rfl (trivial)
end Go.Proofs.Ytplljnddhkleaaa
