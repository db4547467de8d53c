/- What these functions of the program hand back, each proved by walking its operations. -/
import Derived.Test.YtjopackngkfdhaaProg
import Derived.Test.YtjopackngkfdhaaFw
import Derived.Test.YtjopackngkfdhaaGR2
set_option linter.unusedVariables false
set_option linter.unusedSimpArgs false
set_option maxRecDepth 4000
namespace Go.Proofs.Ytjopackngkfdhaa
open Go Go.Sx Go.RowKit Go.W Go.Proofs
attribute [local irreducible] Ex ExL ExD Op1 Free RetQ MutQ Reads CellO SegO LoadsAs
theorem e_134 : Enters Try.prog 134 := Enters.of Try.func134 rfl
theorem c_played (d : VDev) (hk : OkDev d) (Ad : Option Addr) (cd : Nat) (hdl : d.stack.length ≤ 1048576) (l : List VAct) (Al : Option Addr) (cl : Nat) (hll : l.length ≤ maxLen) : Ret Try.prog 134 [.agg (encV Ad cd d).toArray, .slice Al l.length cl] (fun w => Rd w Ad (d.stack.flatMap (eI .u8)) ∧ Rd w Al (l.flatMap encA)) (fun x : (Option Addr × Nat) × (Option Addr × Nat) × (Option Addr × Nat) => .tuple #[.agg (encV x.1.1 x.1.2 (runV d l).1).toArray, .slice x.2.1.1 (runV d l).2.1.length x.2.1.2, .slice x.2.2.1 (runV d l).2.2.1.length x.2.2.2, .int .i64 (runV d l).2.2.2.1, .int .i64 (runV d l).2.2.2.2]) (fun x => [.row (.slice x.1.1 (runV d l).1.stack.length x.1.2) 5 1 (runV d l).1.stack.length ((runV d l).1.stack.flatMap (eI .u8)), .row (.slice x.2.1.1 (runV d l).2.1.length x.2.1.2) 109 11 (runV d l).2.1.length ((runV d l).2.1.flatMap encN), .row (.slice x.2.2.1 (runV d l).2.2.1.length x.2.2.2) 53 10 (runV d l).2.2.1.length ((runV d l).2.2.1.flatMap encT)]) (fun x => True) := by
  refine Ret.of e_134 Try.func134 rfl Try.ntmps134 rfl rfl (fun w hpre => ?_)
  have hd := hpre.1.base
  have hl := hpre.2.base
  have hm0 : maxLen = 9223372036854775807 := rfl
  refine Ex.regSeq (ExL.pures 0 rfl ?_)
  refine ExL.op rfl (op_box rfl rfl rfl rfl rfl (fun b1 => ?_))
  refine ExL.op rfl (op_alloc rfl rfl rfl rfl rfl (fun b2 => ?_))
  refine ExL.pures 4 rfl ?_
  refine ExL.nil ?_
  refine Ex.seq ?_
  refine Ex.regSeq (ExL.pures 0 rfl ?_)
  refine ExL.free (fr_loadN rfl rfl rfl rfl rfl (SegO.whole (i := 1) rfl)) rfl rfl rfl ?_
  refine ExL.op rfl (op_ret rfl rfl rfl (c_iValidDevice d (by assumption) _ _) (Reads.get (Reads.old hd)) rfl rfl (fun x3 hx3 => ?_))
  refine ExL.pures 1 rfl ?_
  refine ExL.nil ?_
  refine Ex.cond rfl (fun hb4 => ?_) (fun hb4 => ?_)
  · replace hb4 := nb_t hb4
    refine Ex.regSeq (ExL.pures 0 rfl ?_)
    refine ExL.free (fr_build rfl rfl rfl rfl) rfl rfl rfl ?_
    refine ExL.op rfl (op_storeC (i := 0) rfl rfl rfl rfl rfl rfl rfl rfl rfl rfl ?_)
    refine ExL.pures 4 rfl ?_
    refine ExL.nil ?_
    refine Ex.nilRow 5 1 ?_
    refine Ex.nilRow 109 11 ?_
    refine Ex.nilRow 53 10 ?_
    refine Ex.ret ?_
    refine RetQ.mk ((none, 0), (none, 0), (none, 0)) rfl (.cell rfl (.many rfl rfl rfl (SegO.whole (i := 3) rfl)) (.tmp rfl (.tmp rfl (.tmp rfl (.tmp rfl .nil))))) (t5 (by first | (rw [rv_vd (by assumption)]; first | done | rfl) | (rw [rv_af (by assumption) (by assumption)]; first | done | rfl) | (rw [rv_nc (by assumption) (by first | assumption | exact not_not_intro (by assumption)) (by assumption)]; first | done | rfl) | (rw [rv_no (by assumption) (by first | assumption | exact not_not_intro (by assumption)) (by first | assumption | exact not_not_intro (by assumption)) (by assumption)]; first | done | rfl)) (by first | (rw [rv_vd (by assumption)]; first | done | rfl) | (rw [rv_af (by assumption) (by assumption)]; first | done | rfl) | (rw [rv_nc (by assumption) (by first | assumption | exact not_not_intro (by assumption)) (by assumption)]; first | done | rfl) | (rw [rv_no (by assumption) (by first | assumption | exact not_not_intro (by assumption)) (by first | assumption | exact not_not_intro (by assumption)) (by assumption)]; first | done | rfl)) (by first | (rw [rv_vd (by assumption)]; first | done | rfl) | (rw [rv_af (by assumption) (by assumption)]; first | done | rfl) | (rw [rv_nc (by assumption) (by first | assumption | exact not_not_intro (by assumption)) (by assumption)]; first | done | rfl) | (rw [rv_no (by assumption) (by first | assumption | exact not_not_intro (by assumption)) (by first | assumption | exact not_not_intro (by assumption)) (by assumption)]; first | done | rfl)) (by first | (rw [rv_vd (by assumption)]; first | done | rfl) | (rw [rv_af (by assumption) (by assumption)]; first | done | rfl) | (rw [rv_nc (by assumption) (by first | assumption | exact not_not_intro (by assumption)) (by assumption)]; first | done | rfl) | (rw [rv_no (by assumption) (by first | assumption | exact not_not_intro (by assumption)) (by first | assumption | exact not_not_intro (by assumption)) (by assumption)]; first | done | rfl)) (by first | (rw [rv_vd (by assumption)]; first | done | rfl) | (rw [rv_af (by assumption) (by assumption)]; first | done | rfl) | (rw [rv_nc (by assumption) (by first | assumption | exact not_not_intro (by assumption)) (by assumption)]; first | done | rfl) | (rw [rv_no (by assumption) (by first | assumption | exact not_not_intro (by assumption)) (by first | assumption | exact not_not_intro (by assumption)) (by assumption)]; first | done | rfl))) [2, 1, 0] (by first | (rw [rv_vd (by assumption)]; first | done | rfl) | (rw [rv_af (by assumption) (by assumption)]; first | done | rfl) | (rw [rv_nc (by assumption) (by first | assumption | exact not_not_intro (by assumption)) (by assumption)]; first | done | rfl) | (rw [rv_no (by assumption) (by first | assumption | exact not_not_intro (by assumption)) (by first | assumption | exact not_not_intro (by assumption)) (by assumption)]; first | done | rfl)) rfl (trivial)
  · replace hb4 := nb_f hb4
    refine Ex.skip ?_
    refine Ex.seq ?_
    refine Ex.regSeq (ExL.pures 1 rfl ?_)
    refine ExL.op rfl (op_ret rfl rfl rfl (c_actsFault l _ _ (by omega)) (Reads.get (Reads.old hl)) rfl rfl (fun x5 hx5 => ?_))
    refine ExL.pures 1 rfl ?_
    refine ExL.nil ?_
    refine Ex.regSeq (ExL.pures 1 rfl ?_)
    refine ExL.neq rfl rfl rfl rfl rfl rfl (fun h6 => ?_) (fun h6 => ?_)
    · refine ExL.nil ?_
      refine Ex.cond_t rfl ?_
      refine Ex.regSeq (ExL.pures 0 rfl ?_)
      refine ExL.free (fr_build rfl rfl rfl rfl) rfl rfl rfl ?_
      refine ExL.pures 1 rfl ?_
      refine ExL.op rfl (op_storeC (i := 0) rfl rfl rfl rfl rfl rfl rfl rfl rfl rfl ?_)
      refine ExL.pures 4 rfl ?_
      refine ExL.nil ?_
      refine Ex.nilRow 5 1 ?_
      refine Ex.nilRow 109 11 ?_
      refine Ex.nilRow 53 10 ?_
      refine Ex.ret ?_
      refine RetQ.mk ((none, 0), (none, 0), (none, 0)) rfl (.cell rfl (.many rfl rfl rfl (SegO.whole (i := 3) rfl)) (.tmp rfl (.tmp rfl (.tmp rfl (.tmp rfl .nil))))) (t5 (by first | (rw [rv_vd (by assumption)]; first | done | rfl) | (rw [rv_af (by assumption) (by assumption)]; first | done | rfl) | (rw [rv_nc (by assumption) (by first | assumption | exact not_not_intro (by assumption)) (by assumption)]; first | done | rfl) | (rw [rv_no (by assumption) (by first | assumption | exact not_not_intro (by assumption)) (by first | assumption | exact not_not_intro (by assumption)) (by assumption)]; first | done | rfl)) (by first | (rw [rv_vd (by assumption)]; first | done | rfl) | (rw [rv_af (by assumption) (by assumption)]; first | done | rfl) | (rw [rv_nc (by assumption) (by first | assumption | exact not_not_intro (by assumption)) (by assumption)]; first | done | rfl) | (rw [rv_no (by assumption) (by first | assumption | exact not_not_intro (by assumption)) (by first | assumption | exact not_not_intro (by assumption)) (by assumption)]; first | done | rfl)) (by first | (rw [rv_vd (by assumption)]; first | done | rfl) | (rw [rv_af (by assumption) (by assumption)]; first | done | rfl) | (rw [rv_nc (by assumption) (by first | assumption | exact not_not_intro (by assumption)) (by assumption)]; first | done | rfl) | (rw [rv_no (by assumption) (by first | assumption | exact not_not_intro (by assumption)) (by first | assumption | exact not_not_intro (by assumption)) (by assumption)]; first | done | rfl)) (by first | (rw [rv_vd (by assumption)]; first | done | rfl) | (rw [rv_af (by assumption) (by assumption)]; first | done | rfl) | (rw [rv_nc (by assumption) (by first | assumption | exact not_not_intro (by assumption)) (by assumption)]; first | done | rfl) | (rw [rv_no (by assumption) (by first | assumption | exact not_not_intro (by assumption)) (by first | assumption | exact not_not_intro (by assumption)) (by assumption)]; first | done | rfl)) (by first | (rw [rv_vd (by assumption)]; first | done | rfl) | (rw [rv_af (by assumption) (by assumption)]; first | done | rfl) | (rw [rv_nc (by assumption) (by first | assumption | exact not_not_intro (by assumption)) (by assumption)]; first | done | rfl) | (rw [rv_no (by assumption) (by first | assumption | exact not_not_intro (by assumption)) (by first | assumption | exact not_not_intro (by assumption)) (by assumption)]; first | done | rfl))) [2, 1, 0] (by first | (rw [rv_vd (by assumption)]; first | done | rfl) | (rw [rv_af (by assumption) (by assumption)]; first | done | rfl) | (rw [rv_nc (by assumption) (by first | assumption | exact not_not_intro (by assumption)) (by assumption)]; first | done | rfl) | (rw [rv_no (by assumption) (by first | assumption | exact not_not_intro (by assumption)) (by first | assumption | exact not_not_intro (by assumption)) (by assumption)]; first | done | rfl)) rfl (trivial)
    · refine ExL.nil ?_
      refine Ex.cond_f rfl ?_
      refine Ex.skip ?_
      refine Ex.regSeq (ExL.pures 0 rfl ?_)
      refine ExL.free (fr_loadN rfl rfl rfl rfl rfl (SegO.whole (i := 1) rfl)) rfl rfl rfl ?_
      refine ExL.op rfl (op_ret rfl rfl rfl (c_cloneDevice d _ _ (by omega)) (Reads.get (Reads.old hd)) rfl rfl (fun x7 hx7 => ?_))
      refine ExL.op rfl (op_buildSlice (sz := 10) rfl rfl rfl rfl rfl rfl rfl rfl (by decide) rfl rfl rfl (fun r8 => ?_))
      refine ExL.op rfl (op_alloc rfl rfl rfl rfl rfl (fun b9 => ?_))
      refine ExL.op rfl (op_alloc rfl rfl rfl rfl rfl (fun b10 => ?_))
      refine ExL.op rfl (op_storeC (i := 1) rfl rfl rfl rfl rfl rfl rfl rfl rfl rfl ?_)
      refine ExL.op rfl (op_storeC (i := 0) rfl rfl rfl rfl rfl rfl rfl rfl rfl rfl ?_)
      refine ExL.nil ?_
      refine Ex.regSeq (ExL.pures 1 rfl ?_)
      refine ExL.free (fr_makeFunc rfl rfl rfl) rfl rfl rfl ?_
      refine ExL.op rfl (op_mut rfl rfl rfl (c_notes d (by assumption) (by assumption) _ _ _ l (af_zero (by first | assumption | exact not_not_intro (by assumption))).1 (af_zero (by first | assumption | exact not_not_intro (by assumption))).2 _ _ _ _ _) (perm_4 1 2 0 0 rfl rfl rfl rfl) (hl) rfl rfl (fun x11 hx11 => ?_))
      refine ExL.pures 7 rfl ?_
      refine ExL.nil ?_
      refine Ex.seq ?_
      refine Ex.regSeq (ExL.pures 1 rfl ?_)
      refine ExL.neq rfl rfl rfl rfl rfl rfl (fun h12 => ?_) (fun h12 => ?_)
      · refine ExL.nil ?_
        refine Ex.cond_t rfl ?_
        refine Ex.regSeq (ExL.pures 0 rfl ?_)
        refine ExL.free (fr_build rfl rfl rfl rfl) rfl rfl rfl ?_
        refine ExL.pures 1 rfl ?_
        refine ExL.op rfl (op_storeC (i := 5) rfl rfl rfl rfl rfl rfl rfl rfl rfl rfl ?_)
        refine ExL.pures 4 rfl ?_
        refine ExL.nil ?_
        refine Ex.nilRow 5 1 ?_
        refine Ex.nilRow 109 11 ?_
        refine Ex.nilRow 53 10 ?_
        refine Ex.ret ?_
        refine RetQ.mk ((none, 0), (none, 0), (none, 0)) rfl (.cell rfl (.many rfl rfl rfl (SegO.whole (i := 8) rfl)) (.tmp rfl (.tmp rfl (.tmp rfl (.tmp rfl .nil))))) (t5 (by first | (rw [rv_vd (by assumption)]; first | done | rfl) | (rw [rv_af (by assumption) (by assumption)]; first | done | rfl) | (rw [rv_nc (by assumption) (by first | assumption | exact not_not_intro (by assumption)) (by assumption)]; first | done | rfl) | (rw [rv_no (by assumption) (by first | assumption | exact not_not_intro (by assumption)) (by first | assumption | exact not_not_intro (by assumption)) (by assumption)]; first | done | rfl)) (by first | (rw [rv_vd (by assumption)]; first | done | rfl) | (rw [rv_af (by assumption) (by assumption)]; first | done | rfl) | (rw [rv_nc (by assumption) (by first | assumption | exact not_not_intro (by assumption)) (by assumption)]; first | done | rfl) | (rw [rv_no (by assumption) (by first | assumption | exact not_not_intro (by assumption)) (by first | assumption | exact not_not_intro (by assumption)) (by assumption)]; first | done | rfl)) (by first | (rw [rv_vd (by assumption)]; first | done | rfl) | (rw [rv_af (by assumption) (by assumption)]; first | done | rfl) | (rw [rv_nc (by assumption) (by first | assumption | exact not_not_intro (by assumption)) (by assumption)]; first | done | rfl) | (rw [rv_no (by assumption) (by first | assumption | exact not_not_intro (by assumption)) (by first | assumption | exact not_not_intro (by assumption)) (by assumption)]; first | done | rfl)) (by first | (rw [rv_vd (by assumption)]; first | done | rfl) | (rw [rv_af (by assumption) (by assumption)]; first | done | rfl) | (rw [rv_nc (by assumption) (by first | assumption | exact not_not_intro (by assumption)) (by assumption)]; first | done | rfl) | (rw [rv_no (by assumption) (by first | assumption | exact not_not_intro (by assumption)) (by first | assumption | exact not_not_intro (by assumption)) (by assumption)]; first | done | rfl)) (by first | (rw [rv_vd (by assumption)]; first | done | rfl) | (rw [rv_af (by assumption) (by assumption)]; first | done | rfl) | (rw [rv_nc (by assumption) (by first | assumption | exact not_not_intro (by assumption)) (by assumption)]; first | done | rfl) | (rw [rv_no (by assumption) (by first | assumption | exact not_not_intro (by assumption)) (by first | assumption | exact not_not_intro (by assumption)) (by assumption)]; first | done | rfl))) [2, 1, 0] (by first | (rw [rv_vd (by assumption)]; first | done | rfl) | (rw [rv_af (by assumption) (by assumption)]; first | done | rfl) | (rw [rv_nc (by assumption) (by first | assumption | exact not_not_intro (by assumption)) (by assumption)]; first | done | rfl) | (rw [rv_no (by assumption) (by first | assumption | exact not_not_intro (by assumption)) (by first | assumption | exact not_not_intro (by assumption)) (by assumption)]; first | done | rfl)) rfl (trivial)
      · refine ExL.nil ?_
        refine Ex.cond_f rfl ?_
        refine Ex.skip ?_
        refine Ex.drawSeqI [0, 1, 2, 3, 4, 6] rfl rfl ?_
        refine ExD.take (i := 0) rfl (by kernel_rfl) (fr_loadN rfl rfl rfl rfl rfl (SegO.whole (i := 0) rfl)) ((List.Sublist.cons_cons _ (List.Sublist.cons_cons _ (List.Sublist.cons_cons _ (List.Sublist.cons_cons _ (List.Sublist.cons_cons _ (List.Sublist.cons _ (List.Sublist.refl _)))))))) rfl rfl rfl ?_
        refine ExD.take (i := 1) rfl (by kernel_rfl) (pureVal_ok rfl) ((List.Sublist.cons_cons _ (List.Sublist.cons_cons _ (List.Sublist.cons_cons _ (List.Sublist.cons_cons _ (List.Sublist.cons_cons _ (List.Sublist.cons _ (List.Sublist.refl _)))))))) rfl rfl rfl ?_
        refine ExD.take (i := 2) rfl (by kernel_rfl) (fr_load rfl rfl rfl rfl (CellO.blk (i := 2) rfl rfl)) ((List.Sublist.cons_cons _ (List.Sublist.cons_cons _ (List.Sublist.cons_cons _ (List.Sublist.cons_cons _ (List.Sublist.cons_cons _ (List.Sublist.cons _ (List.Sublist.refl _)))))))) rfl rfl rfl ?_
        refine ExD.take (i := 3) rfl (by kernel_rfl) (pureVal_ok rfl) ((List.Sublist.cons_cons _ (List.Sublist.cons_cons _ (List.Sublist.cons_cons _ (List.Sublist.cons_cons _ (List.Sublist.cons_cons _ (List.Sublist.cons _ (List.Sublist.refl _)))))))) rfl rfl rfl ?_
        refine ExD.op (i := 4) rfl (by kernel_rfl) rfl (op_storeC (i := 5) rfl rfl rfl rfl rfl rfl rfl rfl rfl rfl ⟨(List.Sublist.cons_cons _ (List.Sublist.cons_cons _ (List.Sublist.cons_cons _ (List.Sublist.cons_cons _ (List.Sublist.cons_cons _ (List.Sublist.cons _ (List.Sublist.refl _))))))), ?_⟩)
        refine ExD.take (i := 5) rfl (by kernel_rfl) (pureVal_ok rfl) ((List.Sublist.cons_cons _ (List.Sublist.cons_cons _ (List.Sublist.cons_cons _ (List.Sublist.cons_cons _ (List.Sublist.cons_cons _ (List.Sublist.cons _ (List.Sublist.refl _)))))))) rfl rfl rfl ?_
        refine ExD.take (i := 6) rfl (by kernel_rfl) (pureVal_ok rfl) ((List.Sublist.cons_cons _ (List.Sublist.cons_cons _ (List.Sublist.cons_cons _ (List.Sublist.cons_cons _ (List.Sublist.cons_cons _ (List.Sublist.cons _ (List.Sublist.refl _)))))))) rfl rfl rfl ?_
        refine ExD.take (i := 7) rfl (by kernel_rfl) (pureVal_ok rfl) ((List.Sublist.cons_cons _ (List.Sublist.cons_cons _ (List.Sublist.cons_cons _ (List.Sublist.cons_cons _ (List.Sublist.cons_cons _ (List.Sublist.cons _ (List.Sublist.refl _)))))))) rfl rfl rfl ?_
        refine ExD.take (i := 8) rfl (by kernel_rfl) (pureVal_ok rfl) ((List.Sublist.cons_cons _ (List.Sublist.cons_cons _ (List.Sublist.cons_cons _ (List.Sublist.cons_cons _ (List.Sublist.cons_cons _ (List.Sublist.cons _ (List.Sublist.refl _)))))))) rfl rfl rfl ?_
        refine ExD.done (by kernel_rfl) ?_
        refine Ex.ret ?_
        refine RetQ.mk ((x7.1, x7.2), (x11.2.2.2.1, x11.2.2.2.2), (x11.2.2.1.1, x11.2.2.1.2)) rfl (.cell rfl (.many rfl rfl rfl (SegO.whole (i := 5) rfl)) (.tmp rfl (.tmp rfl (.tmp rfl (.tmp rfl .nil))))) (t5 (by first | (rw [rv_vd (by assumption)]; first | done | rfl) | (rw [rv_af (by assumption) (by assumption)]; first | done | rfl) | (rw [rv_nc (by assumption) (by first | assumption | exact not_not_intro (by assumption)) (by assumption)]; first | done | rfl) | (rw [rv_no (by assumption) (by first | assumption | exact not_not_intro (by assumption)) (by first | assumption | exact not_not_intro (by assumption)) (by assumption)]; first | done | rfl)) (by first | (rw [rv_vd (by assumption)]; first | done | rfl) | (rw [rv_af (by assumption) (by assumption)]; first | done | rfl) | (rw [rv_nc (by assumption) (by first | assumption | exact not_not_intro (by assumption)) (by assumption)]; first | done | rfl) | (rw [rv_no (by assumption) (by first | assumption | exact not_not_intro (by assumption)) (by first | assumption | exact not_not_intro (by assumption)) (by assumption)]; first | done | rfl)) (by first | (rw [rv_vd (by assumption)]; first | done | rfl) | (rw [rv_af (by assumption) (by assumption)]; first | done | rfl) | (rw [rv_nc (by assumption) (by first | assumption | exact not_not_intro (by assumption)) (by assumption)]; first | done | rfl) | (rw [rv_no (by assumption) (by first | assumption | exact not_not_intro (by assumption)) (by first | assumption | exact not_not_intro (by assumption)) (by assumption)]; first | done | rfl)) (by first | (rw [rv_vd (by assumption)]; first | done | rfl) | (rw [rv_af (by assumption) (by assumption)]; first | done | rfl) | (rw [rv_nc (by assumption) (by first | assumption | exact not_not_intro (by assumption)) (by assumption)]; first | done | rfl) | (rw [rv_no (by assumption) (by first | assumption | exact not_not_intro (by assumption)) (by first | assumption | exact not_not_intro (by assumption)) (by assumption)]; first | done | rfl)) (by first | (rw [rv_vd (by assumption)]; first | done | rfl) | (rw [rv_af (by assumption) (by assumption)]; first | done | rfl) | (rw [rv_nc (by assumption) (by first | assumption | exact not_not_intro (by assumption)) (by assumption)]; first | done | rfl) | (rw [rv_no (by assumption) (by first | assumption | exact not_not_intro (by assumption)) (by first | assumption | exact not_not_intro (by assumption)) (by assumption)]; first | done | rfl))) [1, 4, 3] (by first | (rw [rv_vd (by assumption)]; first | done | rfl) | (rw [rv_af (by assumption) (by assumption)]; first | done | rfl) | (rw [rv_nc (by assumption) (by first | assumption | exact not_not_intro (by assumption)) (by assumption)]; first | done | rfl) | (rw [rv_no (by assumption) (by first | assumption | exact not_not_intro (by assumption)) (by first | assumption | exact not_not_intro (by assumption)) (by assumption)]; first | done | rfl)) rfl (trivial)
end Go.Proofs.Ytjopackngkfdhaa
