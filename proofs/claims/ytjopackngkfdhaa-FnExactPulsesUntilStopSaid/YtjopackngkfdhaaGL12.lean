/- What these functions of the program hand back, each proved by walking its operations. -/
import Derived.Test.YtjopackngkfdhaaProg
import Derived.Test.YtjopackngkfdhaaFw
import Derived.Test.YtjopackngkfdhaaGY
set_option linter.unusedVariables false
set_option linter.unusedSimpArgs false
set_option maxRecDepth 4000
namespace Go.Proofs.Ytjopackngkfdhaa
open Go Go.Sx Go.RowKit Go.W Go.Proofs
attribute [local irreducible] Ex ExL ExD Op1 Free RetQ MutQ Reads CellO SegO LoadsAs
theorem e_11 : Enters Try.prog 11 := Enters.of Try.func11 rfl
theorem w_FnExactPulsesUntilStop (d : VDev) (hk : OkDev d) (Ad : Option Addr) (cd : Nat) : Ret Try.prog 11 [.agg (encV Ad cd d).toArray] (fun w => Rd w Ad (d.stack.flatMap (eI .u8))) (fun x : Unit => .bool true) (fun x => []) (fun x => True) := by
  refine Ret.of e_11 Try.func11 rfl Try.ntmps11 rfl rfl (fun w hpre => ?_)
  have hd := hpre.base
  have hkk := hk
  obtain ⟨hl, hu, ha, hpp, htt⟩ := hk
  have hm0 : maxLen = 9223372036854775807 := rfl
  have hz := size_bd hu d.stack.length
  rw [List.take_length] at hz
  refine Ex.regSeq (ExL.pures 0 rfl ?_)
  refine ExL.op rfl (op_box rfl rfl rfl rfl rfl (fun b1 => ?_))
  refine ExL.pures 1 rfl ?_
  refine ExL.nil ?_
  refine Ex.regSeq (ExL.pures 1 rfl ?_)
  refine ExL.nil ?_
  refine Ex.regSeq (ExL.pures 0 rfl ?_)
  refine ExL.free (fr_loadN rfl rfl rfl rfl rfl (SegO.whole (i := 0) rfl)) rfl rfl rfl ?_
  refine ExL.pures 1 rfl ?_
  refine ExL.op rfl (op_ret rfl rfl rfl (c_szDevice d _ _ (by omega) _ (by omega)) (fun _ _ => trivial) rfl rfl (fun x2 hx2 => ?_))
  refine ExL.pures 1 rfl ?_
  refine ExL.nil ?_
  refine Ex.seq ?_
  refine Ex.regSeq (ExL.pures 1 rfl ?_)
  refine ExL.lss rfl rfl rfl rfl rfl rfl (fun h3 => ?_) (fun h3 => ?_)
  · refine ExL.nil ?_
    refine Ex.cond_t rfl ?_
    refine Ex.regSeq (ExL.pures 1 rfl ?_)
    refine ExL.nil ?_
    refine Ex.ret ?_
    refine RetQ.mk () rfl (.tmp rfl .nil) (tB (by first | rfl | (exfalso; simp_all [sameV_refl, sameTs_refl, sameAs_refl, sameNs_refl, sameT_refl]))) [] (rfl) rfl (trivial)
  · refine ExL.nil ?_
    refine Ex.cond_f rfl ?_
    refine Ex.skip ?_
    refine Ex.regSeq (ExL.pures 0 rfl ?_)
    refine ExL.free (fr_loadN rfl rfl rfl rfl rfl (SegO.whole (i := 0) rfl)) rfl rfl rfl ?_
    refine ExL.op rfl (op_ret rfl rfl rfl (c_toDevice d _ _ (by omega)) (Reads.get (Reads.old hd)) rfl rfl (fun x4 hx4 => ?_))
    refine ExL.op rfl (op_ret rfl rfl rfl (c_sPulsesUntilStop d (by assumption) _ _) (Reads.get (Reads.row (i := 0) rfl)) rfl rfl (fun x5 hx5 => ?_))
    refine ExL.pures 5 rfl ?_
    refine ExL.nil ?_
    refine Ex.regSeq (ExL.pures 0 rfl ?_)
    refine ExL.free (fr_loadN rfl rfl rfl rfl rfl (SegO.whole (i := 1) rfl)) rfl rfl rfl ?_
    refine ExL.op rfl (op_ret rfl rfl rfl (c_toDevice d _ _ (by omega)) (Reads.get (Reads.old hd)) rfl rfl (fun x6 hx6 => ?_))
    refine ExL.op rfl (op_alloc rfl rfl rfl rfl rfl (fun b7 => ?_))
    refine ExL.op rfl (op_storeC (i := 0) rfl rfl rfl rfl rfl rfl rfl rfl rfl rfl ?_)
    refine ExL.nil ?_
    refine Ex.regSeq (ExL.pures 0 rfl ?_)
    refine ExL.free (fr_loadN rfl rfl rfl rfl rfl (SegO.whole (i := 0) rfl)) rfl rfl rfl ?_
    refine ExL.op rfl (op_ret rfl rfl rfl (c_iPulsesUntilStop d (by assumption) _ _) (Reads.get (Reads.row (i := 1) rfl)) rfl rfl (fun x8 hx8 => ?_))
    refine ExL.pures 5 rfl ?_
    refine ExL.nil ?_
    refine Ex.seq ?_
    refine Ex.regSeq (ExL.pures 2 rfl ?_)
    refine ExL.neq rfl rfl rfl rfl rfl rfl (fun h9 => ?_) (fun h9 => ?_)
    · refine ExL.pures 5 rfl ?_
      refine ExL.nil ?_
      refine Ex.cond_t rfl ?_
      refine Ex.regSeq (ExL.pures 1 rfl ?_)
      refine ExL.nil ?_
      refine Ex.ret ?_
      refine RetQ.mk () rfl (.tmp rfl .nil) (tB (by first | rfl | (exfalso; simp_all [sameV_refl, sameTs_refl, sameAs_refl, sameNs_refl, sameT_refl]))) [] (rfl) rfl (trivial)
    · refine ExL.pures 3 rfl ?_
      refine ExL.neq rfl rfl rfl rfl rfl rfl (fun h10 => ?_) (fun h10 => ?_)
      · refine ExL.pures 1 rfl ?_
        refine ExL.nil ?_
        refine Ex.cond_t rfl ?_
        refine Ex.regSeq (ExL.pures 1 rfl ?_)
        refine ExL.nil ?_
        refine Ex.ret ?_
        refine RetQ.mk () rfl (.tmp rfl .nil) (tB (by first | rfl | (exfalso; simp_all [sameV_refl, sameTs_refl, sameAs_refl, sameNs_refl, sameT_refl]))) [] (rfl) rfl (trivial)
      · refine ExL.pures 1 rfl ?_
        refine ExL.nil ?_
        refine Ex.cond_f rfl ?_
        refine Ex.skip ?_
        refine Ex.seq ?_
        refine Ex.drawSeqM rfl ?_
        refine ExD.take (i := 0) rfl (by kernel_rfl) (fr_loadN rfl rfl rfl rfl rfl (SegO.whole (i := 0) rfl)) ((List.Sublist.refl _)) rfl rfl rfl ?_
        refine ExD.take (i := 1) rfl (by kernel_rfl) (fr_loadN rfl rfl rfl rfl rfl (SegO.whole (i := 3) rfl)) ((List.Sublist.refl _)) rfl rfl rfl ?_
        refine ExD.op (i := 2) rfl (by kernel_rfl) rfl (op_ret rfl rfl rfl (c_toDevice d _ _ (by omega)) (Reads.get (Reads.old hd)) rfl rfl (fun x11 hx11 => ⟨(List.Sublist.cons _ (List.Sublist.refl _)), ?_⟩))
        refine ExD.op (i := 3) rfl (by kernel_rfl) rfl (op_ret rfl rfl rfl (c_eqDevice d d _ _ _ _ (by omega) (by omega)) (fun w hw => ⟨Reads.get (Reads.row (i := 2) rfl) w hw, Reads.get (Reads.row (i := 0) rfl) w hw⟩) rfl rfl (fun x12 hx12 => ⟨(List.Sublist.cons _ (List.Sublist.refl _)), ?_⟩))
        refine ExD.take (i := 4) rfl (by kernel_rfl) (pureVal_ok rfl) ((List.Sublist.cons _ (List.Sublist.refl _))) rfl rfl rfl ?_
        refine ExD.done (by kernel_rfl) ?_
        refine Ex.cond rfl (fun hb13 => ?_) (fun hb13 => ?_)
        · replace hb13 := nb_t hb13
          refine Ex.regSeq (ExL.pures 1 rfl ?_)
          refine ExL.nil ?_
          refine Ex.ret ?_
          refine RetQ.mk () rfl (.tmp rfl .nil) (tB (by first | rfl | (exfalso; simp_all [sameV_refl, sameTs_refl, sameAs_refl, sameNs_refl, sameT_refl]))) [] (rfl) rfl (trivial)
        · replace hb13 := nb_f hb13
          refine Ex.skip ?_
          refine Ex.regSeq (ExL.pures 1 rfl ?_)
          refine ExL.nil ?_
          refine Ex.ret ?_
          refine RetQ.mk () rfl (.tmp rfl .nil) (tB (by first | rfl | (exfalso; simp_all [sameV_refl, sameTs_refl, sameAs_refl, sameNs_refl, sameT_refl]))) [] (rfl) rfl (trivial)
end Go.Proofs.Ytjopackngkfdhaa
