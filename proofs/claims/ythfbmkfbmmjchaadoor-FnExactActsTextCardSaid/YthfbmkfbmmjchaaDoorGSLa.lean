/- What these functions of the program hand back, each proved by walking its operations. -/
import Derived.Test.YthfbmkfbmmjchaaDoorProg
import Derived.Test.YthfbmkfbmmjchaaDoorFw
import Derived.Test.YthfbmkfbmmjchaaDoorGSE
import Derived.Test.YthfbmkfbmmjchaaDoorGSH
set_option linter.unusedVariables false
set_option linter.unusedSimpArgs false
set_option maxRecDepth 4000
namespace Go.Proofs.YthfbmkfbmmjchaaDoor
open Go Go.Sx Go.RowKit Go.W Go.Proofs
attribute [local irreducible] Ex ExL ExD Op1 Free RetQ MutQ Reads CellO SegO LoadsAs
theorem e_3 : Enters Tryd.prog 3 := Enters.of Tryd.func3 rfl
theorem w_FnExactActsText (s : List VAct) (As : Option Addr) (cs : Nat) (hls : s.length ≤ maxLen) : Ret Tryd.prog 3 [.slice As s.length cs] (fun w => Rd w As (s.flatMap encA) ∧ TabO Tryd.prog w) (fun x : Unit => .bool true) (fun x => []) (fun x => True) := by
  refine Ret.of e_3 Tryd.func3 rfl Tryd.ntmps3 rfl rfl (fun w hpre => ?_)
  have hs := hpre.1.base
  have htab := hpre.2
  have hm0 : maxLen = 9223372036854775807 := rfl
  refine Ex.regSeq (ExL.pures 1 rfl ?_)
  refine ExL.nil ?_
  refine Ex.regSeq (ExL.pures 1 rfl ?_)
  refine ExL.nil ?_
  refine Ex.regSeq (ExL.pures 2 rfl ?_)
  refine ExL.op rfl (op_ret rfl rfl rfl (c_szActS _ _ _ (by omega) _ (by omega)) (fun _ _ => trivial) rfl rfl (fun x1 hx1 => ?_))
  refine ExL.pures 1 rfl ?_
  refine ExL.nil ?_
  refine Ex.seq ?_
  refine Ex.regSeq (ExL.pures 1 rfl ?_)
  refine ExL.lss rfl rfl rfl rfl rfl rfl (fun h2 => ?_) (fun h2 => ?_)
  · refine ExL.nil ?_
    refine Ex.cond_t rfl ?_
    refine Ex.regSeq (ExL.pures 1 rfl ?_)
    refine ExL.nil ?_
    refine Ex.ret ?_
    refine RetQ.mk () rfl (.tmp rfl .nil) (tB (by first | rfl | (exfalso; omega) | (exfalso; simp_all [sameAs_refl]; done))) [] (rfl) rfl (trivial)
  · refine ExL.nil ?_
    refine Ex.cond_f rfl ?_
    refine Ex.skip ?_
    refine Ex.regSeq (ExL.pures 1 rfl ?_)
    refine ExL.op rfl (op_ret rfl rfl rfl (c_toActS s _ _ (by omega)) (Reads.get (Reads.old hs)) rfl rfl (fun x3 hx3 => ?_))
    refine ExL.op rfl (op_ret rfl rfl rfl (c_sActsText s _ _ (by omega)) (Reads.get (Reads.row (i := 0) rfl)) rfl rfl (fun x4 hx4 => ?_))
    refine ExL.pures 1 rfl ?_
    refine ExL.nil ?_
    refine Ex.regSeq (ExL.pures 1 rfl ?_)
    refine ExL.op rfl (op_ret rfl rfl rfl (c_toActS s _ _ (by omega)) (Reads.get (Reads.old hs)) rfl rfl (fun x5 hx5 => ?_))
    refine ExL.pures 1 rfl ?_
    refine ExL.nil ?_
    refine Ex.regSeq (ExL.pures 1 rfl ?_)
    refine ExL.op rfl (op_ret rfl rfl rfl (c_iActsText s _ _ (by omega)) (fun w hw => ⟨Reads.get (Reads.row (i := 0) rfl) w hw, TabO.keep htab hw⟩) rfl rfl (fun x6 hx6 => ?_))
    refine ExL.pures 1 rfl ?_
    refine ExL.nil ?_
    refine Ex.seq ?_
    refine Ex.regSeq (ExL.pures 2 rfl ?_)
    refine ExL.free (fr_neqS (l := (actsTx s)) (r := (actsTx s)) rfl rfl rfl) rfl rfl rfl ?_
    refine ExL.nil ?_
    refine Ex.cond rfl (fun hb7 => ?_) (fun hb7 => ?_)
    · replace hb7 := nd_t hb7
      refine Ex.regSeq (ExL.pures 1 rfl ?_)
      refine ExL.nil ?_
      refine Ex.ret ?_
      refine RetQ.mk () rfl (.tmp rfl .nil) (tB (by first | rfl | (exfalso; omega) | (exfalso; simp_all [sameAs_refl]; done))) [] (rfl) rfl (trivial)
    · replace hb7 := nd_f hb7
      refine Ex.skip ?_
      refine Ex.seq ?_
      refine Ex.regSeq (ExL.pures 2 rfl ?_)
      refine ExL.op rfl (op_ret rfl rfl rfl (c_toActS s _ _ (by omega)) (Reads.get (Reads.old hs)) rfl rfl (fun x8 hx8 => ?_))
      refine ExL.op rfl (op_ret rfl rfl rfl (c_eqActS s _ _ (by omega) s _ _ (by omega)) (fun w hw => ⟨Reads.get (Reads.row (i := 1) rfl) w hw, Reads.get (Reads.row (i := 0) rfl) w hw⟩) rfl rfl (fun x9 hx9 => ?_))
      refine ExL.pures 1 rfl ?_
      refine ExL.nil ?_
      refine Ex.cond rfl (fun hb10 => ?_) (fun hb10 => ?_)
      · replace hb10 := nb_t hb10
        refine Ex.regSeq (ExL.pures 1 rfl ?_)
        refine ExL.nil ?_
        refine Ex.ret ?_
        refine RetQ.mk () rfl (.tmp rfl .nil) (tB (by first | rfl | (exfalso; omega) | (exfalso; simp_all [sameAs_refl]; done))) [] (rfl) rfl (trivial)
      · replace hb10 := nb_f hb10
        refine Ex.skip ?_
        refine Ex.regSeq (ExL.pures 1 rfl ?_)
        refine ExL.nil ?_
        refine Ex.ret ?_
        refine RetQ.mk () rfl (.tmp rfl .nil) (tB (by first | rfl | (exfalso; omega) | (exfalso; simp_all [sameAs_refl]; done))) [] (rfl) rfl (trivial)
end Go.Proofs.YthfbmkfbmmjchaaDoor
