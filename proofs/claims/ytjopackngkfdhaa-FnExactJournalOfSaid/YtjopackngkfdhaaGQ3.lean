/- What these functions of the program hand back, each proved by walking its operations. -/
import Derived.Test.YtjopackngkfdhaaProg
import Derived.Test.YtjopackngkfdhaaFw
import Derived.Test.YtjopackngkfdhaaGQ2
import Derived.Test.YtjopackngkfdhaaGZ2
set_option linter.unusedVariables false
set_option linter.unusedSimpArgs false
set_option maxRecDepth 4000
namespace Go.Proofs.Ytjopackngkfdhaa
open Go Go.Sx Go.RowKit Go.W Go.Proofs
attribute [local irreducible] Ex ExL ExD Op1 Free RetQ MutQ Reads CellO SegO LoadsAs
theorem e_74 : Enters Try.prog 74 := Enters.of Try.func74 rfl
theorem c_iPrint (d : VDev) (hk : OkDev d) (Ad : Option Addr) (cd : Nat) (hAd : Ad = none → cd = 0) (hdl : d.stack.length ≤ 1048576) : Ret Try.prog 74 [.agg (encV Ad cd d).toArray] (fun w => Rd w Ad (d.stack.flatMap (eI .u8))) (fun x : Option Addr × Nat => .tuple #[.agg (encV x.1 x.2 (printV d).1).toArray, .agg (encT (printV d).2.1).toArray, .int .i64 (printV d).2.2]) (fun x => [.row (.slice x.1 (printV d).1.stack.length x.2) 5 1 (printV d).1.stack.length ((printV d).1.stack.flatMap (eI .u8))]) (fun x => True) := by
  refine Ret.of e_74 Try.func74 rfl Try.ntmps74 rfl rfl (fun w hpre => ?_)
  have hd := hpre.base
  have hoa := a5_ok
  have hds := da_len d a5
  have hm0 : maxLen = 9223372036854775807 := rfl
  refine Ex.regSeq (ExL.pures 0 rfl ?_)
  refine ExL.op rfl (op_box rfl rfl rfl rfl rfl (fun b1 => ?_))
  refine ExL.op rfl (op_alloc rfl rfl rfl rfl rfl (fun b2 => ?_))
  refine ExL.op rfl (op_alloc rfl rfl rfl rfl rfl (fun b3 => ?_))
  refine ExL.pures 1 rfl ?_
  refine ExL.nil ?_
  refine Ex.regSeq (ExL.pures 0 rfl ?_)
  refine ExL.free (fr_loadN rfl rfl rfl rfl rfl (SegO.whole (i := 2) rfl)) rfl rfl rfl ?_
  refine ExL.free (fr_build (cells := encA a5) rfl rfl rfl (by kernel_rfl)) rfl rfl rfl ?_
  refine ExL.op rfl (op_ret rfl rfl rfl (c_iDoAct d (by assumption) _ _ (by first | assumption | exact (fun e => nomatch e)) (by omega) a5 (by assumption)) (Reads.get (Reads.old hd)) rfl rfl (fun x4 hx4 => ?_))
  refine ExL.pures 4 rfl ?_
  refine ExL.op rfl (op_alloc rfl rfl rfl rfl rfl (fun b5 => ?_))
  refine ExL.op rfl (op_storeC (i := 0) rfl rfl rfl rfl rfl rfl rfl rfl rfl rfl ?_)
  refine ExL.pures 2 rfl ?_
  refine ExL.nil ?_
  refine Ex.seq ?_
  refine Ex.regSeq (ExL.pures 1 rfl ?_)
  refine ExL.neq rfl rfl rfl rfl rfl rfl (fun h6 => ?_) (fun h6 => ?_)
  · refine ExL.nil ?_
    refine Ex.cond_t rfl ?_
    refine Ex.regSeq (ExL.pures 0 rfl ?_)
    refine ExL.free (fr_build rfl rfl rfl rfl) rfl rfl rfl ?_
    refine ExL.free (fr_build rfl rfl rfl rfl) rfl rfl rfl ?_
    refine ExL.pures 1 rfl ?_
    refine ExL.op rfl (op_storeC (i := 3) rfl rfl rfl rfl rfl rfl rfl rfl rfl rfl ?_)
    refine ExL.op rfl (op_storeC (i := 2) rfl rfl rfl rfl rfl rfl rfl rfl rfl rfl ?_)
    refine ExL.pures 1 rfl ?_
    refine ExL.nil ?_
    refine Ex.nilRow 5 1 ?_
    refine Ex.ret ?_
    refine RetQ.mk (none, 0) rfl (.cell rfl (.many rfl rfl rfl (SegO.whole (i := 4) rfl)) (.cell rfl (.many rfl rfl rfl (SegO.whole (i := 3) rfl)) (.tmp rfl .nil))) (t3 (by first | (rw [pr_no (by assumption)]; first | done | rfl) | (rw [pr_ok (by first | assumption | exact not_not_intro (by assumption))]; first | done | rfl)) (by first | (rw [pr_no (by assumption)]; first | done | rfl) | (rw [pr_ok (by first | assumption | exact not_not_intro (by assumption))]; first | done | rfl)) (by first | (rw [pr_no (by assumption)]; first | done | rfl) | (rw [pr_ok (by first | assumption | exact not_not_intro (by assumption))]; first | done | rfl))) [0] (by first | (rw [pr_no (by assumption)]; first | done | rfl) | (rw [pr_ok (by first | assumption | exact not_not_intro (by assumption))]; first | done | rfl)) rfl (trivial)
  · refine ExL.nil ?_
    refine Ex.cond_f rfl ?_
    refine Ex.skip ?_
    refine Ex.drawSeqI [0, 1, 4] rfl rfl ?_
    refine ExD.take (i := 0) rfl (by kernel_rfl) (fr_loadN rfl rfl rfl rfl rfl (SegO.whole (i := 0) rfl)) ((List.Sublist.cons_cons _ (List.Sublist.cons_cons _ (List.Sublist.cons _ (List.Sublist.cons _ (List.Sublist.refl _)))))) rfl rfl rfl ?_
    refine ExD.op (i := 1) rfl (by kernel_rfl) rfl (op_ret rfl rfl rfl (c_ticket (doActV d a5).1 (by first | assumption | exact (da_dev hk (by first | assumption | exact not_not_intro (by assumption))).1) (by first | assumption | exact (da_dev hk (by first | assumption | exact not_not_intro (by assumption))).2) _ _ _) (fun w hw => Reads.get (Reads.blk (i := 0) rfl) w hw) rfl rfl (fun x7 hx7 => ⟨(List.Sublist.cons_cons _ (List.Sublist.cons_cons _ (List.Sublist.cons _ (List.Sublist.cons _ (List.Sublist.refl _))))), ?_⟩))
    refine ExD.op (i := 2) rfl (by kernel_rfl) rfl (op_storeC (i := 3) rfl rfl rfl rfl rfl rfl rfl rfl rfl rfl ⟨(List.Sublist.cons_cons _ (List.Sublist.cons_cons _ (List.Sublist.cons _ (List.Sublist.cons _ (List.Sublist.refl _))))), ?_⟩)
    refine ExD.op (i := 3) rfl (by kernel_rfl) rfl (op_storeC (i := 2) rfl rfl rfl rfl rfl rfl rfl rfl rfl rfl ⟨(List.Sublist.cons_cons _ (List.Sublist.cons_cons _ (List.Sublist.cons _ (List.Sublist.cons _ (List.Sublist.refl _))))), ?_⟩)
    refine ExD.take (i := 4) rfl (by kernel_rfl) (pureVal_ok rfl) ((List.Sublist.cons_cons _ (List.Sublist.cons_cons _ (List.Sublist.cons _ (List.Sublist.cons _ (List.Sublist.refl _)))))) rfl rfl rfl ?_
    refine ExD.done (by kernel_rfl) ?_
    refine Ex.ret ?_
    refine RetQ.mk (x4.1, x4.2) rfl (.cell rfl (.many rfl rfl rfl (SegO.whole (i := 3) rfl)) (.cell rfl (.many rfl rfl rfl (SegO.whole (i := 2) rfl)) (.tmp rfl .nil))) (t3 (by first | (rw [pr_no (by assumption)]; first | done | rfl) | (rw [pr_ok (by first | assumption | exact not_not_intro (by assumption))]; first | done | rfl)) (by first | (rw [pr_no (by assumption)]; first | done | rfl) | (rw [pr_ok (by first | assumption | exact not_not_intro (by assumption))]; first | done | rfl)) (by first | (rw [pr_no (by assumption)]; first | done | rfl) | (rw [pr_ok (by first | assumption | exact not_not_intro (by assumption))]; first | done | rfl))) [1] (by first | (rw [pr_no (by assumption)]; first | done | rfl) | (rw [pr_ok (by first | assumption | exact not_not_intro (by assumption))]; first | done | rfl)) rfl (trivial)
theorem e_73 : Enters Try.prog 73 := Enters.of Try.func73 rfl
theorem c_sPrint (d : VDev) (hk : OkDev d) (Ad : Option Addr) (cd : Nat) (hAd : Ad = none → cd = 0) (hdl : d.stack.length ≤ 1048576) : Ret Try.prog 73 [.agg (encV Ad cd d).toArray] (fun w => Rd w Ad (d.stack.flatMap (eI .u8))) (fun x : Option Addr × Nat => .tuple #[.agg (encV x.1 x.2 (printV d).1).toArray, .agg (encT (printV d).2.1).toArray, .int .i64 (printV d).2.2]) (fun x => [.row (.slice x.1 (printV d).1.stack.length x.2) 5 1 (printV d).1.stack.length ((printV d).1.stack.flatMap (eI .u8))]) (fun x => True) := by
  refine Ret.of e_73 Try.func73 rfl Try.ntmps73 rfl rfl (fun w hpre => ?_)
  have hd := hpre.base
  have hoa := a5_ok
  have hpl := prs_len d
  have hm0 : maxLen = 9223372036854775807 := rfl
  refine Ex.regSeq (ExL.pures 0 rfl ?_)
  refine ExL.op rfl (op_box rfl rfl rfl rfl rfl (fun b1 => ?_))
  refine ExL.op rfl (op_alloc rfl rfl rfl rfl rfl (fun b2 => ?_))
  refine ExL.op rfl (op_alloc rfl rfl rfl rfl rfl (fun b3 => ?_))
  refine ExL.pures 1 rfl ?_
  refine ExL.nil ?_
  refine Ex.regSeq (ExL.pures 0 rfl ?_)
  refine ExL.free (fr_build (cells := encA a5) rfl rfl rfl (by kernel_rfl)) rfl rfl rfl ?_
  refine ExL.op rfl (op_buildSlice (sz := 2) rfl rfl rfl rfl rfl rfl rfl rfl (by decide) rfl rfl rfl (fun r4 => ?_))
  refine ExL.op rfl (op_ret rfl rfl rfl (c_l07Run d (by assumption) _ _ _ (by first | assumption | exact (fun e => nomatch e)) (by omega) [a5] _ _ (by first | omega | (simp; omega))) (fun w hw => ⟨Reads.get (Reads.blk (i := 3) rfl) w hw, Reads.get (Reads.old hd) w hw, Reads.get (Reads.row (i := 0) rfl) w hw⟩) rfl rfl (fun x5 hx5 => ?_))
  refine ExL.pures 5 rfl ?_
  refine ExL.op rfl (op_alloc rfl rfl rfl rfl rfl (fun b6 => ?_))
  refine ExL.op rfl (op_storeC (i := 0) rfl rfl rfl rfl rfl rfl rfl rfl rfl rfl ?_)
  refine ExL.pures 3 rfl ?_
  refine ExL.nil ?_
  refine Ex.seq ?_
  refine Ex.regSeq (ExL.pures 1 rfl ?_)
  refine ExL.neq rfl rfl rfl rfl rfl rfl (fun h7 => ?_) (fun h7 => ?_)
  · refine ExL.nil ?_
    refine Ex.cond_t rfl ?_
    refine Ex.regSeq (ExL.pures 0 rfl ?_)
    refine ExL.free (fr_build rfl rfl rfl rfl) rfl rfl rfl ?_
    refine ExL.free (fr_build rfl rfl rfl rfl) rfl rfl rfl ?_
    refine ExL.pures 1 rfl ?_
    refine ExL.op rfl (op_storeC (i := 6) rfl rfl rfl rfl rfl rfl rfl rfl rfl rfl ?_)
    refine ExL.op rfl (op_storeC (i := 5) rfl rfl rfl rfl rfl rfl rfl rfl rfl rfl ?_)
    refine ExL.pures 1 rfl ?_
    refine ExL.nil ?_
    refine Ex.nilRow 5 1 ?_
    refine Ex.ret ?_
    refine RetQ.mk (none, 0) rfl (.cell rfl (.many rfl rfl rfl (SegO.whole (i := 7) rfl)) (.cell rfl (.many rfl rfl rfl (SegO.whole (i := 6) rfl)) (.tmp rfl .nil))) (t3 (by first | (rw [prs_no (by assumption)]; first | done | rfl) | (rw [prs_ok (by first | assumption | exact not_not_intro (by assumption))]; first | done | rfl)) (by first | (rw [prs_no (by assumption)]; first | done | rfl) | (rw [prs_ok (by first | assumption | exact not_not_intro (by assumption))]; first | done | rfl)) (by first | (rw [prs_no (by assumption)]; first | done | rfl) | (rw [prs_ok (by first | assumption | exact not_not_intro (by assumption))]; first | done | rfl))) [0] (by first | (rw [prs_no (by assumption)]; first | done | rfl) | (rw [prs_ok (by first | assumption | exact not_not_intro (by assumption))]; first | done | rfl)) rfl (trivial)
  · refine ExL.nil ?_
    refine Ex.cond_f rfl ?_
    refine Ex.skip ?_
    refine Ex.drawSeqI [0, 1, 2, 3, 4, 7] rfl rfl ?_
    refine ExD.take (i := 0) rfl (by kernel_rfl) (fr_loadN rfl rfl rfl rfl rfl (SegO.whole (i := 0) rfl)) ((List.Sublist.cons_cons _ (List.Sublist.cons_cons _ (List.Sublist.cons_cons _ (List.Sublist.cons_cons _ (List.Sublist.cons_cons _ (List.Sublist.cons _ (List.Sublist.cons _ (List.Sublist.refl _))))))))) rfl rfl rfl ?_
    refine ExD.take (i := 1) rfl (by kernel_rfl) (pureVal_ok rfl) ((List.Sublist.cons_cons _ (List.Sublist.cons_cons _ (List.Sublist.cons_cons _ (List.Sublist.cons_cons _ (List.Sublist.cons_cons _ (List.Sublist.cons _ (List.Sublist.cons _ (List.Sublist.refl _))))))))) rfl rfl rfl ?_
    refine ExD.take (i := 2) rfl (by kernel_rfl) (fr_indexAddrR (sz := 10) 3 rfl rfl rfl rfl rfl rfl (by omega)) ((List.Sublist.cons_cons _ (List.Sublist.cons_cons _ (List.Sublist.cons_cons _ (List.Sublist.cons_cons _ (List.Sublist.cons_cons _ (List.Sublist.cons _ (List.Sublist.cons _ (List.Sublist.refl _))))))))) rfl rfl rfl ?_
    refine ExD.take (i := 3) rfl (by kernel_rfl) (fr_loadN rfl rfl rfl rfl rfl (by first | exact segN (Reads.row (i := 3) rfl) encT_len rfl zT (by omega) | exact segF (Reads.row (i := 3) rfl) encT_len rfl zT (by omega))) ((List.Sublist.cons_cons _ (List.Sublist.cons_cons _ (List.Sublist.cons_cons _ (List.Sublist.cons_cons _ (List.Sublist.cons_cons _ (List.Sublist.cons _ (List.Sublist.cons _ (List.Sublist.refl _))))))))) rfl rfl rfl ?_
    refine ExD.op (i := 4) rfl (by kernel_rfl) rfl (op_storeC (i := 6) rfl rfl rfl rfl rfl rfl rfl rfl rfl rfl ⟨(List.Sublist.cons_cons _ (List.Sublist.cons_cons _ (List.Sublist.cons_cons _ (List.Sublist.cons_cons _ (List.Sublist.cons_cons _ (List.Sublist.cons _ (List.Sublist.cons _ (List.Sublist.refl _)))))))), ?_⟩)
    refine ExD.op (i := 5) rfl (by kernel_rfl) rfl (op_storeC (i := 5) rfl rfl rfl rfl rfl rfl rfl rfl rfl rfl ⟨(List.Sublist.cons_cons _ (List.Sublist.cons_cons _ (List.Sublist.cons_cons _ (List.Sublist.cons_cons _ (List.Sublist.cons_cons _ (List.Sublist.cons _ (List.Sublist.cons _ (List.Sublist.refl _)))))))), ?_⟩)
    refine ExD.take (i := 6) rfl (by kernel_rfl) (pureVal_ok rfl) ((List.Sublist.cons_cons _ (List.Sublist.cons_cons _ (List.Sublist.cons_cons _ (List.Sublist.cons_cons _ (List.Sublist.cons_cons _ (List.Sublist.cons _ (List.Sublist.cons _ (List.Sublist.refl _))))))))) rfl rfl rfl ?_
    refine ExD.done (by kernel_rfl) ?_
    refine Ex.ret ?_
    refine RetQ.mk (x5.1.1, x5.1.2) rfl (.cell rfl (.many rfl rfl rfl (SegO.whole (i := 6) rfl)) (.cell rfl (.many rfl rfl rfl (SegO.whole (i := 5) rfl)) (.tmp rfl .nil))) (t3 (by first | (rw [prs_no (by assumption)]; first | done | rfl) | (rw [prs_ok (by first | assumption | exact not_not_intro (by assumption))]; first | done | rfl)) (by first | (rw [prs_no (by assumption)]; first | done | rfl) | (rw [prs_ok (by first | assumption | exact not_not_intro (by assumption))]; first | done | rfl)) (by first | (rw [prs_no (by assumption)]; first | done | rfl) | (rw [prs_ok (by first | assumption | exact not_not_intro (by assumption))]; first | done | rfl))) [1] (by first | (rw [prs_no (by assumption)]; first | done | rfl) | (rw [prs_ok (by first | assumption | exact not_not_intro (by assumption))]; first | done | rfl)) rfl (trivial)
end Go.Proofs.Ytjopackngkfdhaa
