/- What these functions of the program hand back, each proved by walking its operations. -/
import Derived.Test.YtjopackngkfdhaaProg
import Derived.Test.YtjopackngkfdhaaFw
import Derived.Test.YtjopackngkfdhaaM1
import Derived.Test.YtjopackngkfdhaaGA
set_option linter.unusedVariables false
set_option linter.unusedSimpArgs false
set_option maxRecDepth 4000
namespace Go.Proofs.Ytjopackngkfdhaa
open Go Go.Sx Go.RowKit Go.W Go.Proofs
attribute [local irreducible] Ex ExL ExD Op1 Free RetQ MutQ Reads CellO SegO LoadsAs
theorem e_3 : Enters Try.prog 3 := Enters.of Try.func3 rfl
theorem w_FnExactValidAct (a : VAct) : Ret Try.prog 3 [.agg (encA a).toArray] (fun w => True) (fun x : Unit => .bool true) (fun x => []) (fun x => True) := by
  refine Ret.of e_3 Try.func3 rfl Try.ntmps3 rfl rfl (fun w hpre => ?_)
  refine Ex.regSeq (ExL.pures 0 rfl ?_)
  refine ExL.op rfl (op_box rfl rfl rfl rfl rfl (fun b1 => ?_))
  refine ExL.pures 1 rfl ?_
  refine ExL.nil ?_
  refine Ex.regSeq (ExL.pures 0 rfl ?_)
  refine ExL.free (fr_loadN rfl rfl rfl rfl rfl (SegO.whole (i := 0) rfl)) rfl rfl rfl ?_
  refine ExL.op rfl (op_ret rfl rfl rfl (c_toAct _) (fun _ _ => trivial) rfl rfl (fun x2 hx2 => ?_))
  refine ExL.op rfl (op_ret rfl rfl rfl (c_sValidAct _) (fun _ _ => trivial) rfl rfl (fun x3 hx3 => ?_))
  refine ExL.pures 1 rfl ?_
  refine ExL.nil ?_
  refine Ex.regSeq (ExL.pures 0 rfl ?_)
  refine ExL.free (fr_loadN rfl rfl rfl rfl rfl (SegO.whole (i := 0) rfl)) rfl rfl rfl ?_
  refine ExL.op rfl (op_ret rfl rfl rfl (c_toAct _) (fun _ _ => trivial) rfl rfl (fun x4 hx4 => ?_))
  refine ExL.op rfl (op_ret rfl rfl rfl (c_ValidAct _) (fun _ _ => trivial) rfl rfl (fun x5 hx5 => ?_))
  refine ExL.pures 1 rfl ?_
  refine ExL.nil ?_
  refine Ex.seq ?_
  refine Ex.regSeq (ExL.pures 2 rfl ?_)
  refine ExL.free (fr_neq_bool rfl rfl rfl rfl) rfl rfl rfl ?_
  refine ExL.nil ?_
  refine Ex.cond rfl (fun hb6 => ?_) (fun hb6 => ?_)
  · refine Ex.regSeq (ExL.pures 1 rfl ?_)
    refine ExL.nil ?_
    refine Ex.ret ?_
    refine RetQ.mk () rfl (.tmp rfl .nil) (tB (by first | rfl | (exfalso; simp_all))) (List.nil_sublist _) (trivial)
  · refine Ex.skip ?_
    refine Ex.regSeq (ExL.pures 1 rfl ?_)
    refine ExL.nil ?_
    refine Ex.ret ?_
    refine RetQ.mk () rfl (.tmp rfl .nil) (tB (by first | rfl | (exfalso; simp_all))) (List.nil_sublist _) (trivial)
end Go.Proofs.Ytjopackngkfdhaa
