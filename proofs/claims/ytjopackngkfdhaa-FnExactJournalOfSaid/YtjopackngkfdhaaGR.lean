/- What these functions of the program hand back, each proved by walking its operations. -/
import Derived.Test.YtjopackngkfdhaaProg
import Derived.Test.YtjopackngkfdhaaFw
import Derived.Test.YtjopackngkfdhaaGQ3
import Derived.Test.YtjopackngkfdhaaM8
set_option linter.unusedVariables false
set_option linter.unusedSimpArgs false
set_option maxRecDepth 4000
namespace Go.Proofs.Ytjopackngkfdhaa
open Go Go.Sx Go.RowKit Go.W Go.Proofs
attribute [local irreducible] Ex ExL ExD Op1 Free RetQ MutQ Reads CellO SegO LoadsAs
theorem e_156 : Enters Try.prog 156 := Enters.of Try.func156 rfl
theorem c_plays (ts : List VTic) (hts : ts.length ≤ 60) (bt : Nat) (A : Option Addr) (c : Nat) (t : VTic) : Mut Try.prog 156 [.agg (encT t).toArray, .pointer (some ⟨bt, 0, none⟩)] [.blk bt [.slice A ts.length c] 76, .row (.slice A ts.length c) 53 10 ts.length (ts.flatMap encT)] (fun base w0 F => True) (fun x : Option Addr × Nat => .tuple #[]) (fun x => [.blk bt [.slice x.1 (ts ++ [t]).length x.2] 76, .row (.slice x.1 (ts ++ [t]).length x.2) 53 10 (ts ++ [t]).length ((ts ++ [t]).flatMap encT)]) (fun x => True) := by
  refine Mut.of e_156 Try.func156 rfl Try.ntmps156 rfl rfl (fun base w0 F hfr => ?_)
  have hm0 : maxLen = 9223372036854775807 := rfl
  refine Ex.regSeq (ExL.pures 0 rfl ?_)
  refine ExL.op rfl (op_box rfl rfl rfl rfl rfl (fun b1 => ?_))
  refine ExL.nil ?_
  refine Ex.region (ExL.pures 0 rfl ?_)
  refine ExL.free (fr_load rfl rfl rfl rfl (CellO.blk (i := 1) rfl rfl)) rfl rfl rfl ?_
  refine ExL.free (fr_loadN rfl rfl rfl rfl rfl (SegO.whole (i := 0) rfl)) rfl rfl rfl ?_
  refine ExL.op rfl (op_buildSlice (sz := 10) rfl rfl rfl rfl rfl rfl rfl rfl (by decide) rfl rfl rfl (fun r2 => ?_))
  refine ExL.op rfl (op_append (sz := 10) (bytes := 24) (i := 3) rfl rfl rfl rfl (Reads.row (i := 0) rfl) rfl (fun e => nomatch e) rfl rfl rfl rfl (by constructor <;> first | omega | (unfold maxLen; omega)) rfl rfl (fun A3 cA3 => ?_))
  refine ExL.op rfl (op_storeC (i := 2) rfl rfl rfl rfl rfl rfl rfl rfl rfl rfl ?_)
  refine ExL.nil ?_
  refine MutQ.mk (A3, cA3) rfl .nil (rfl) 4 [2, 3] (by rw [List.length_append, List.flatMap_append]; rfl) rfl (trivial)
end Go.Proofs.Ytjopackngkfdhaa
