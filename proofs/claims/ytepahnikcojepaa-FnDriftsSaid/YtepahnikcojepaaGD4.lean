/- What these functions of the program hand back, each proved by walking its operations. -/
import Derived.Test.YtepahnikcojepaaProg
import Derived.Test.YtepahnikcojepaaFw
import Derived.Test.YtepahnikcojepaaGD3
set_option linter.unusedVariables false
set_option linter.unusedSimpArgs false
set_option maxRecDepth 4000
namespace Go.Proofs.Ytepahnikcojepaa
open Go Go.Sx Go.RowKit Go.W Go.Proofs
attribute [local irreducible] Ex ExL ExD Op1 Free RetQ MutQ Reads CellO SegO LoadsAs
theorem e_120 : Enters Try.prog 120 := Enters.of Try.func120 rfl
theorem c_covers (l : List VP) (Al : Option Addr) (cl : Nat) (hll : l.length ≤ maxLen) (day : Int) : Ret Try.prog 120 [.slice Al l.length cl, .int .i64 day] (fun w => Rd w Al (l.flatMap encP)) (fun x : Unit => .bool (onW l day).2) (fun x => []) (fun x => True) := by
  refine Ret.of e_120 Try.func120 rfl Try.ntmps120 rfl rfl (fun w hpre => ?_)
  have hl := hpre.base
  have hm0 : maxLen = 9223372036854775807 := rfl
  refine Ex.regSeq (ExL.pures 1 rfl ?_)
  refine ExL.nil ?_
  refine Ex.drawSeqM rfl ?_
  refine ExD.take (i := 0) rfl (by kernel_rfl) (pureVal_ok rfl) ((List.Sublist.refl _)) rfl rfl rfl ?_
  refine ExD.take (i := 1) rfl (by kernel_rfl) (pureVal_ok rfl) ((List.Sublist.refl _)) rfl rfl rfl ?_
  refine ExD.cmp_gtr (i := 2) rfl (by kernel_rfl) rfl rfl rfl ((List.Sublist.refl _)) rfl rfl rfl (fun h1 => ?_) (fun h1 => ?_)
  · refine ExD.take (i := 3) rfl (by kernel_rfl) (pureVal_ok rfl) ((List.Sublist.refl _)) rfl rfl rfl ?_
    refine ExD.take (i := 4) rfl (by kernel_rfl) (pureVal_ok rfl) ((List.Sublist.refl _)) rfl rfl rfl ?_
    refine ExD.take (i := 5) rfl (by kernel_rfl) (pureVal_ok rfl) ((List.Sublist.refl _)) rfl rfl rfl ?_
    refine ExD.take (i := 6) rfl (by kernel_rfl) (fr_indexAddrF (Reads.old hl) encP_len rfl rfl rfl rfl rfl rfl (by omega)) ((List.Sublist.refl _)) rfl rfl rfl ?_
    refine ExD.take (i := 7) rfl (by kernel_rfl) (fr_fieldAddrF (i := (0 : Int).toNat) (Reads.old hl) encP_len rfl rfl rfl (by omega) rfl rfl rfl rfl) ((List.Sublist.refl _)) rfl rfl rfl ?_
    refine ExD.take (i := 8) rfl (by kernel_rfl) (fr_load rfl rfl rfl rfl (cellJ (i := 0) (0) (Reads.old hl) encP_len zP 0 rfl (by omega) (by omega) rfl)) ((List.Sublist.refl _)) rfl rfl rfl ?_
    refine ExD.take (i := 9) rfl (by kernel_rfl) (pureVal_ok rfl) ((List.Sublist.refl _)) rfl rfl rfl ?_
    refine ExD.take (i := 10) rfl (by kernel_rfl) (pureVal_ok rfl) ((List.Sublist.refl _)) rfl rfl rfl ?_
    refine ExD.take (i := 11) rfl (by kernel_rfl) (pureVal_ok rfl) ((List.Sublist.refl _)) rfl rfl rfl ?_
    refine ExD.take (i := 12) rfl (by kernel_rfl) (by first | exact fr_sub64 rfl rfl rfl (by omega) | exact fr_sub rfl rfl rfl) ((List.Sublist.refl _)) rfl rfl rfl ?_
    refine ExD.take (i := 13) rfl (by kernel_rfl) (fr_indexAddrF (Reads.old hl) encP_len rfl rfl rfl rfl rfl rfl (by omega)) ((List.Sublist.refl _)) rfl rfl rfl ?_
    refine ExD.take (i := 14) rfl (by kernel_rfl) (fr_fieldAddrF (i := ((l.length - 1) : Int).toNat) (Reads.old hl) encP_len rfl rfl rfl (by omega) rfl rfl rfl rfl) ((List.Sublist.refl _)) rfl rfl rfl ?_
    refine ExD.take (i := 15) rfl (by kernel_rfl) (fr_load rfl rfl rfl rfl (cellJ (i := (l.length - 1)) ((l.length - 1)) (Reads.old hl) encP_len zP 0 rfl (by omega) (by omega) rfl)) ((List.Sublist.refl _)) rfl rfl rfl ?_
    refine ExD.op (i := 16) rfl (by kernel_rfl) rfl (op_ret rfl rfl rfl (c_within _ _ _) (fun _ _ => trivial) rfl rfl (fun x2 hx2 => ⟨(List.Sublist.refl _), ?_⟩))
    refine ExD.take (i := 17) rfl (by kernel_rfl) (pureVal_ok rfl) ((List.Sublist.refl _)) rfl rfl rfl ?_
    refine ExD.take (i := 18) rfl (by kernel_rfl) (pureVal_ok rfl) ((List.Sublist.refl _)) rfl rfl rfl ?_
    refine ExD.done (by kernel_rfl) ?_
    refine Ex.ret ?_
    refine RetQ.mk () rfl (.tmp rfl .nil) (tB (by rw [ow_dec]; first | exact dec_f (by omega) | exact decide_eq_decide.2 (by omega))) [] (rfl) rfl (trivial)
  · refine ExD.take (i := 3) rfl (by kernel_rfl) (pureVal_ok rfl) ((List.Sublist.refl _)) rfl rfl rfl ?_
    refine ExD.pass (i := 4) rfl (by kernel_rfl) ((List.Sublist.refl _)) rfl rfl rfl ?_
    refine ExD.pass (i := 5) rfl (by kernel_rfl) ((List.Sublist.refl _)) rfl rfl rfl ?_
    refine ExD.pass (i := 6) rfl (by kernel_rfl) ((List.Sublist.refl _)) rfl rfl rfl ?_
    refine ExD.pass (i := 7) rfl (by kernel_rfl) ((List.Sublist.refl _)) rfl rfl rfl ?_
    refine ExD.pass (i := 8) rfl (by kernel_rfl) ((List.Sublist.refl _)) rfl rfl rfl ?_
    refine ExD.pass (i := 9) rfl (by kernel_rfl) ((List.Sublist.refl _)) rfl rfl rfl ?_
    refine ExD.pass (i := 10) rfl (by kernel_rfl) ((List.Sublist.refl _)) rfl rfl rfl ?_
    refine ExD.pass (i := 11) rfl (by kernel_rfl) ((List.Sublist.refl _)) rfl rfl rfl ?_
    refine ExD.pass (i := 12) rfl (by kernel_rfl) ((List.Sublist.refl _)) rfl rfl rfl ?_
    refine ExD.pass (i := 13) rfl (by kernel_rfl) ((List.Sublist.refl _)) rfl rfl rfl ?_
    refine ExD.pass (i := 14) rfl (by kernel_rfl) ((List.Sublist.refl _)) rfl rfl rfl ?_
    refine ExD.pass (i := 15) rfl (by kernel_rfl) ((List.Sublist.refl _)) rfl rfl rfl ?_
    refine ExD.pass (i := 16) rfl (by kernel_rfl) ((List.Sublist.refl _)) rfl rfl rfl ?_
    refine ExD.take (i := 17) rfl (by kernel_rfl) (pureVal_ok rfl) ((List.Sublist.refl _)) rfl rfl rfl ?_
    refine ExD.take (i := 18) rfl (by kernel_rfl) (pureVal_ok rfl) ((List.Sublist.refl _)) rfl rfl rfl ?_
    refine ExD.done (by kernel_rfl) ?_
    refine Ex.ret ?_
    refine RetQ.mk () rfl (.tmp rfl .nil) (tB (by rw [ow_dec]; first | exact dec_f (by omega) | exact decide_eq_decide.2 (by omega))) [] (rfl) rfl (trivial)
theorem e_98 : Enters Try.prog 98 := Enters.of Try.func98 rfl
theorem c_iCountOn (l : List VP) (hv : validTot l = true) (Al : Option Addr) (cl : Nat) (hll : l.length ≤ maxLen) (day : Int) : Ret Try.prog 98 [.slice Al l.length cl, .int .i64 day] (fun w => Rd w Al (l.flatMap encP)) (fun x : Unit => .tuple #[.int .i64 (conV l day).1, .int .i64 (conV l day).2]) (fun x => []) (fun x => True) := by
  refine Ret.of e_98 Try.func98 rfl Try.ntmps98 rfl rfl (fun w hpre => ?_)
  have hl := hpre.base
  have hT := tot hv
  have hm0 : maxLen = 9223372036854775807 := rfl
  refine Ex.regSeq (ExL.pures 2 rfl ?_)
  refine ExL.nil ?_
  refine Ex.seq ?_
  refine Ex.block ?_
  refine Ex.regSeq (ExL.pures 1 rfl ?_)
  refine ExL.op rfl (op_ret rfl rfl rfl (c_ValidTotals l _ _ (by omega)) (Reads.get (Reads.old hl)) rfl rfl (fun x1 hx1 => ?_))
  refine ExL.pures 2 rfl ?_
  refine ExL.nil ?_
  refine Ex.cond rfl (fun hb2 => ?_) (fun hb2 => ?_)
  · replace hb2 := nb_t hb2
    refine Ex.regSeq (ExL.pures 2 rfl ?_)
    refine ExL.nil ?_
    refine Ex.ret ?_
    refine RetQ.mk () rfl (.tmp rfl (.tmp rfl .nil)) (t2 (vI (by first | (rw [con_2 (by assumption)]; first | done | rfl) | (rw [con_6 (by assumption) (by assumption)]; first | done | rfl) | (rw [con_0 (by assumption) (by assumption)]; first | done | rfl) | (rw [con_0' (by assumption) (cov_of (by assumption))]; first | done | rfl) | (exfalso; simp_all; done))) (vI (by first | (rw [con_2 (by assumption)]; first | done | rfl) | (rw [con_6 (by assumption) (by assumption)]; first | done | rfl) | (rw [con_0 (by assumption) (by assumption)]; first | done | rfl) | (rw [con_0' (by assumption) (cov_of (by assumption))]; first | done | rfl) | (exfalso; simp_all; done)))) [] (rfl) rfl (trivial)
  · replace hb2 := nb_f hb2
    refine Ex.regSeq (ExL.pures 1 rfl ?_)
    refine ExL.op rfl (op_ret rfl rfl rfl (c_within _ _ _) (fun _ _ => trivial) rfl rfl (fun x3 hx3 => ?_))
    refine ExL.pures 2 rfl ?_
    refine ExL.nil ?_
    refine Ex.cond rfl (fun hb4 => ?_) (fun hb4 => ?_)
    · replace hb4 := nd_t hb4
      refine Ex.regSeq (ExL.pures 2 rfl ?_)
      refine ExL.nil ?_
      refine Ex.ret ?_
      refine RetQ.mk () rfl (.tmp rfl (.tmp rfl .nil)) (t2 (vI (by first | (rw [con_2 (by assumption)]; first | done | rfl) | (rw [con_6 (by assumption) (by assumption)]; first | done | rfl) | (rw [con_0 (by assumption) (by assumption)]; first | done | rfl) | (rw [con_0' (by assumption) (cov_of (by assumption))]; first | done | rfl) | (exfalso; simp_all; done))) (vI (by first | (rw [con_2 (by assumption)]; first | done | rfl) | (rw [con_6 (by assumption) (by assumption)]; first | done | rfl) | (rw [con_0 (by assumption) (by assumption)]; first | done | rfl) | (rw [con_0' (by assumption) (cov_of (by assumption))]; first | done | rfl) | (exfalso; simp_all; done)))) [] (rfl) rfl (trivial)
    · replace hb4 := nd_f hb4
      refine Ex.regSeq (ExL.pures 2 rfl ?_)
      refine ExL.op rfl (op_ret rfl rfl rfl (c_covers l _ _ (by omega) day) (Reads.get (Reads.old hl)) rfl rfl (fun x5 hx5 => ?_))
      refine ExL.pures 2 rfl ?_
      refine ExL.nil ?_
      refine Ex.cond rfl (fun hb6 => ?_) (fun hb6 => ?_)
      · replace hb6 := nb_t hb6
        refine Ex.regSeq (ExL.pures 2 rfl ?_)
        refine ExL.nil ?_
        refine Ex.ret ?_
        refine RetQ.mk () rfl (.tmp rfl (.tmp rfl .nil)) (t2 (vI (by first | (rw [con_2 (by assumption)]; first | done | rfl) | (rw [con_6 (by assumption) (by assumption)]; first | done | rfl) | (rw [con_0 (by assumption) (by assumption)]; first | done | rfl) | (rw [con_0' (by assumption) (cov_of (by assumption))]; first | done | rfl) | (exfalso; simp_all; done))) (vI (by first | (rw [con_2 (by assumption)]; first | done | rfl) | (rw [con_6 (by assumption) (by assumption)]; first | done | rfl) | (rw [con_0 (by assumption) (by assumption)]; first | done | rfl) | (rw [con_0' (by assumption) (cov_of (by assumption))]; first | done | rfl) | (exfalso; simp_all; done)))) [] (rfl) rfl (trivial)
      · replace hb6 := nb_f hb6
        refine Ex.skip ?_
        refine Ex.regSeq (ExL.pures 2 rfl ?_)
        refine ExL.op rfl (op_ret rfl rfl rfl (c_countOn l (by assumption) _ _ (by omega) _ (cov_of (by assumption))) (Reads.get (Reads.old hl)) rfl rfl (fun x7 hx7 => ?_))
        refine ExL.pures 2 rfl ?_
        refine ExL.nil ?_
        refine Ex.ret ?_
        refine RetQ.mk () rfl (.tmp rfl (.tmp rfl .nil)) (t2 (vI (by first | (rw [con_2 (by assumption)]; first | done | rfl) | (rw [con_6 (by assumption) (by assumption)]; first | done | rfl) | (rw [con_0 (by assumption) (by assumption)]; first | done | rfl) | (rw [con_0' (by assumption) (cov_of (by assumption))]; first | done | rfl) | (exfalso; simp_all; done))) (vI (by first | (rw [con_2 (by assumption)]; first | done | rfl) | (rw [con_6 (by assumption) (by assumption)]; first | done | rfl) | (rw [con_0 (by assumption) (by assumption)]; first | done | rfl) | (rw [con_0' (by assumption) (cov_of (by assumption))]; first | done | rfl) | (exfalso; simp_all; done)))) [] (rfl) rfl (trivial)
theorem e_99 : Enters Try.prog 99 := Enters.of Try.func99 rfl
theorem c_sCountOn (l : List VP) (hv : validTot l = true) (Al : Option Addr) (cl : Nat) (hll : l.length ≤ maxLen) (day : Int) : Ret Try.prog 99 [.slice Al l.length cl, .int .i64 day] (fun w => Rd w Al (l.flatMap encP)) (fun x : Unit => .tuple #[.int .i64 (conV l day).1, .int .i64 (conV l day).2]) (fun x => []) (fun x => True) := by
  refine Ret.of e_99 Try.func99 rfl Try.ntmps99 rfl rfl (fun w hpre => ?_)
  have hl := hpre.base
  have hT := tot hv
  have hm0 : maxLen = 9223372036854775807 := rfl
  refine Ex.regSeq (ExL.pures 2 rfl ?_)
  refine ExL.nil ?_
  refine Ex.seq ?_
  refine Ex.regSeq (ExL.pures 1 rfl ?_)
  refine ExL.op rfl (op_ret rfl rfl rfl (c_l06Totals l _ _ (by omega)) (Reads.get (Reads.old hl)) rfl rfl (fun x1 hx1 => ?_))
  refine ExL.pures 1 rfl ?_
  refine ExL.nil ?_
  refine Ex.cond rfl (fun hb2 => ?_) (fun hb2 => ?_)
  · replace hb2 := nb_t hb2
    refine Ex.regSeq (ExL.pures 2 rfl ?_)
    refine ExL.nil ?_
    refine Ex.ret ?_
    refine RetQ.mk () rfl (.tmp rfl (.tmp rfl .nil)) (t2 (vI (by first | (rw [con_2 (by assumption)]; first | done | rfl) | (rw [con_6 (by assumption) (by assumption)]; first | done | rfl) | (rw [con_0 (by assumption) (by assumption)]; first | done | rfl) | (rw [con_0' (by assumption) (cov_of (by assumption))]; first | done | rfl) | (exfalso; simp_all; done))) (vI (by first | (rw [con_2 (by assumption)]; first | done | rfl) | (rw [con_6 (by assumption) (by assumption)]; first | done | rfl) | (rw [con_0 (by assumption) (by assumption)]; first | done | rfl) | (rw [con_0' (by assumption) (cov_of (by assumption))]; first | done | rfl) | (exfalso; simp_all; done)))) [] (rfl) rfl (trivial)
  · replace hb2 := nb_f hb2
    refine Ex.skip ?_
    refine Ex.seq ?_
    refine Ex.regSeq (ExL.pures 1 rfl ?_)
    refine ExL.op rfl (op_ret rfl rfl rfl (c_l00In _ _ _) (fun _ _ => trivial) rfl rfl (fun x3 hx3 => ?_))
    refine ExL.pures 1 rfl ?_
    refine ExL.nil ?_
    refine Ex.cond rfl (fun hb4 => ?_) (fun hb4 => ?_)
    · replace hb4 := nd_t hb4
      refine Ex.regSeq (ExL.pures 2 rfl ?_)
      refine ExL.nil ?_
      refine Ex.ret ?_
      refine RetQ.mk () rfl (.tmp rfl (.tmp rfl .nil)) (t2 (vI (by first | (rw [con_2 (by assumption)]; first | done | rfl) | (rw [con_6 (by assumption) (by assumption)]; first | done | rfl) | (rw [con_0 (by assumption) (by assumption)]; first | done | rfl) | (rw [con_0' (by assumption) (cov_of (by assumption))]; first | done | rfl) | (exfalso; simp_all; done))) (vI (by first | (rw [con_2 (by assumption)]; first | done | rfl) | (rw [con_6 (by assumption) (by assumption)]; first | done | rfl) | (rw [con_0 (by assumption) (by assumption)]; first | done | rfl) | (rw [con_0' (by assumption) (cov_of (by assumption))]; first | done | rfl) | (exfalso; simp_all; done)))) [] (rfl) rfl (trivial)
    · replace hb4 := nd_f hb4
      refine Ex.skip ?_
      refine Ex.regSeq (ExL.pures 2 rfl ?_)
      refine ExL.op rfl (op_ret rfl rfl rfl (c_l06On l (by assumption) _ _ (by omega) day) (Reads.get (Reads.old hl)) rfl rfl (fun x5 hx5 => ?_))
      refine ExL.pures 5 rfl ?_
      refine ExL.nil ?_
      refine Ex.seq ?_
      refine Ex.regSeq (ExL.pures 2 rfl ?_)
      refine ExL.nil ?_
      refine Ex.cond rfl (fun hb6 => ?_) (fun hb6 => ?_)
      · replace hb6 := nb_t hb6
        refine Ex.regSeq (ExL.pures 2 rfl ?_)
        refine ExL.nil ?_
        refine Ex.ret ?_
        refine RetQ.mk () rfl (.tmp rfl (.tmp rfl .nil)) (t2 (vI (by first | (rw [con_2 (by assumption)]; first | done | rfl) | (rw [con_6 (by assumption) (by assumption)]; first | done | rfl) | (rw [con_0 (by assumption) (by assumption)]; first | done | rfl) | (rw [con_0' (by assumption) (cov_of (by assumption))]; first | done | rfl) | (exfalso; simp_all; done))) (vI (by first | (rw [con_2 (by assumption)]; first | done | rfl) | (rw [con_6 (by assumption) (by assumption)]; first | done | rfl) | (rw [con_0 (by assumption) (by assumption)]; first | done | rfl) | (rw [con_0' (by assumption) (cov_of (by assumption))]; first | done | rfl) | (exfalso; simp_all; done)))) [] (rfl) rfl (trivial)
      · replace hb6 := nb_f hb6
        refine Ex.skip ?_
        refine Ex.regSeq (ExL.pures 3 rfl ?_)
        refine ExL.nil ?_
        refine Ex.ret ?_
        refine RetQ.mk () rfl (.tmp rfl (.tmp rfl .nil)) (t2 (vI (by first | (rw [con_2 (by assumption)]; first | done | rfl) | (rw [con_6 (by assumption) (by assumption)]; first | done | rfl) | (rw [con_0 (by assumption) (by assumption)]; first | done | rfl) | (rw [con_0' (by assumption) (cov_of (by assumption))]; first | done | rfl) | (exfalso; simp_all; done))) (vI (by first | (rw [con_2 (by assumption)]; first | done | rfl) | (rw [con_6 (by assumption) (by assumption)]; first | done | rfl) | (rw [con_0 (by assumption) (by assumption)]; first | done | rfl) | (rw [con_0' (by assumption) (cov_of (by assumption))]; first | done | rfl) | (exfalso; simp_all; done)))) [] (rfl) rfl (trivial)
theorem e_46 : Enters Try.prog 46 := Enters.of Try.func46 rfl
theorem c_iDriftOn (s : List VP) (hvs : validTot s = true) (As : Option Addr) (cs : Nat) (hls : s.length ≤ maxLen) (t : List VP) (hvt : validTot t = true) (At : Option Addr) (ct : Nat) (hlt : t.length ≤ maxLen) (day : Int) : Ret Try.prog 46 [.slice As s.length cs, .slice At t.length ct, .int .i64 day] (fun w => Rd w As (s.flatMap encP) ∧ Rd w At (t.flatMap encP)) (fun x : Unit => .tuple #[.int .i64 (driV s t day).1, .int .i64 (driV s t day).2]) (fun x => []) (fun x => True) := by
  refine Ret.of e_46 Try.func46 rfl Try.ntmps46 rfl rfl (fun w hpre => ?_)
  have hs := hpre.1.base
  have ht := hpre.2.base
  have hm0 : maxLen = 9223372036854775807 := rfl
  have hb1 := con_bd (tot hvs) day
  have hb2 := con_bd (tot hvt) day
  refine Ex.regSeq (ExL.pures 2 rfl ?_)
  refine ExL.nil ?_
  refine Ex.seq ?_
  refine Ex.regSeq (ExL.pures 1 rfl ?_)
  refine ExL.op rfl (op_ret rfl rfl rfl (c_ValidTotals t _ _ (by omega)) (Reads.get (Reads.old ht)) rfl rfl (fun x1 hx1 => ?_))
  refine ExL.pures 1 rfl ?_
  refine ExL.nil ?_
  refine Ex.cond rfl (fun hb2 => ?_) (fun hb2 => ?_)
  · replace hb2 := nb_t hb2
    refine Ex.regSeq (ExL.pures 2 rfl ?_)
    refine ExL.nil ?_
    refine Ex.ret ?_
    refine RetQ.mk () rfl (.tmp rfl (.tmp rfl .nil)) (t2 (vI (by first | (rw [dri_1 (by omega)]; first | done | rfl) | (rw [dri_2 (by omega) (by omega)]; first | done | rfl) | (rw [dri_0 (by omega) (by omega)]; first | done | rfl) | (exfalso; simp_all; done))) (vI (by first | (rw [dri_1 (by omega)]; first | done | rfl) | (rw [dri_2 (by omega) (by omega)]; first | done | rfl) | (rw [dri_0 (by omega) (by omega)]; first | done | rfl) | (exfalso; simp_all; done)))) [] (rfl) rfl (trivial)
  · replace hb2 := nb_f hb2
    refine Ex.skip ?_
    refine Ex.regSeq (ExL.pures 2 rfl ?_)
    refine ExL.op rfl (op_ret rfl rfl rfl (c_iCountOn s (by assumption) _ _ (by omega) day) (Reads.get (Reads.old hs)) rfl rfl (fun x3 hx3 => ?_))
    refine ExL.pures 5 rfl ?_
    refine ExL.nil ?_
    refine Ex.seq ?_
    refine Ex.regSeq (ExL.pures 1 rfl ?_)
    refine ExL.neq rfl rfl rfl rfl rfl rfl (fun h4 => ?_) (fun h4 => ?_)
    · refine ExL.nil ?_
      refine Ex.cond_t rfl ?_
      refine Ex.regSeq (ExL.pures 3 rfl ?_)
      refine ExL.nil ?_
      refine Ex.ret ?_
      refine RetQ.mk () rfl (.tmp rfl (.tmp rfl .nil)) (t2 (vI (by first | (rw [dri_1 (by omega)]; first | done | rfl) | (rw [dri_2 (by omega) (by omega)]; first | done | rfl) | (rw [dri_0 (by omega) (by omega)]; first | done | rfl) | (exfalso; simp_all; done))) (vI (by first | (rw [dri_1 (by omega)]; first | done | rfl) | (rw [dri_2 (by omega) (by omega)]; first | done | rfl) | (rw [dri_0 (by omega) (by omega)]; first | done | rfl) | (exfalso; simp_all; done)))) [] (rfl) rfl (trivial)
    · refine ExL.nil ?_
      refine Ex.cond_f rfl ?_
      refine Ex.skip ?_
      refine Ex.regSeq (ExL.pures 2 rfl ?_)
      refine ExL.op rfl (op_ret rfl rfl rfl (c_iCountOn t (by assumption) _ _ (by omega) day) (Reads.get (Reads.old ht)) rfl rfl (fun x5 hx5 => ?_))
      refine ExL.pures 5 rfl ?_
      refine ExL.nil ?_
      refine Ex.seq ?_
      refine Ex.regSeq (ExL.pures 1 rfl ?_)
      refine ExL.neq rfl rfl rfl rfl rfl rfl (fun h6 => ?_) (fun h6 => ?_)
      · refine ExL.nil ?_
        refine Ex.cond_t rfl ?_
        refine Ex.regSeq (ExL.pures 3 rfl ?_)
        refine ExL.nil ?_
        refine Ex.ret ?_
        refine RetQ.mk () rfl (.tmp rfl (.tmp rfl .nil)) (t2 (vI (by first | (rw [dri_1 (by omega)]; first | done | rfl) | (rw [dri_2 (by omega) (by omega)]; first | done | rfl) | (rw [dri_0 (by omega) (by omega)]; first | done | rfl) | (exfalso; simp_all; done))) (vI (by first | (rw [dri_1 (by omega)]; first | done | rfl) | (rw [dri_2 (by omega) (by omega)]; first | done | rfl) | (rw [dri_0 (by omega) (by omega)]; first | done | rfl) | (exfalso; simp_all; done)))) [] (rfl) rfl (trivial)
      · refine ExL.nil ?_
        refine Ex.cond_f rfl ?_
        refine Ex.skip ?_
        refine Ex.regSeq (ExL.pures 2 rfl ?_)
        refine ExL.free (by first | exact fr_sub64 rfl rfl rfl (by omega) | exact fr_sub rfl rfl rfl) rfl rfl rfl ?_
        refine ExL.pures 2 rfl ?_
        refine ExL.nil ?_
        refine Ex.ret ?_
        refine RetQ.mk () rfl (.tmp rfl (.tmp rfl .nil)) (t2 (vI (by first | (rw [dri_1 (by omega)]; first | done | rfl) | (rw [dri_2 (by omega) (by omega)]; first | done | rfl) | (rw [dri_0 (by omega) (by omega)]; first | done | rfl) | (exfalso; simp_all; done))) (vI (by first | (rw [dri_1 (by omega)]; first | done | rfl) | (rw [dri_2 (by omega) (by omega)]; first | done | rfl) | (rw [dri_0 (by omega) (by omega)]; first | done | rfl) | (exfalso; simp_all; done)))) [] (rfl) rfl (trivial)
theorem e_47 : Enters Try.prog 47 := Enters.of Try.func47 rfl
theorem c_sDriftOn (s : List VP) (hvs : validTot s = true) (As : Option Addr) (cs : Nat) (hls : s.length ≤ maxLen) (t : List VP) (hvt : validTot t = true) (At : Option Addr) (ct : Nat) (hlt : t.length ≤ maxLen) (day : Int) : Ret Try.prog 47 [.slice As s.length cs, .slice At t.length ct, .int .i64 day] (fun w => Rd w As (s.flatMap encP) ∧ Rd w At (t.flatMap encP)) (fun x : Unit => .tuple #[.int .i64 (driV s t day).1, .int .i64 (driV s t day).2]) (fun x => []) (fun x => True) := by
  refine Ret.of e_47 Try.func47 rfl Try.ntmps47 rfl rfl (fun w hpre => ?_)
  have hs := hpre.1.base
  have ht := hpre.2.base
  have hm0 : maxLen = 9223372036854775807 := rfl
  have hb1 := con_bd (tot hvs) day
  have hb2 := con_bd (tot hvt) day
  refine Ex.regSeq (ExL.pures 2 rfl ?_)
  refine ExL.nil ?_
  refine Ex.seq ?_
  refine Ex.regSeq (ExL.pures 1 rfl ?_)
  refine ExL.op rfl (op_ret rfl rfl rfl (c_l06Totals s _ _ (by omega)) (Reads.get (Reads.old hs)) rfl rfl (fun x1 hx1 => ?_))
  refine ExL.pures 2 rfl ?_
  refine ExL.bool (d := 15) rfl (fun hb2 => ?_) (fun hb2 => ?_)
  · replace hb2 := nb_t hb2
    refine ExL.pures 4 rfl ?_
    refine ExL.nil ?_
    refine Ex.cond_t rfl ?_
    refine Ex.regSeq (ExL.pures 2 rfl ?_)
    refine ExL.nil ?_
    refine Ex.ret ?_
    refine RetQ.mk () rfl (.tmp rfl (.tmp rfl .nil)) (t2 (vI (by first | (rw [dri_1 (by omega)]; first | done | rfl) | (rw [dri_2 (by omega) (by omega)]; first | done | rfl) | (rw [dri_0 (by omega) (by omega)]; first | done | rfl) | (exfalso; simp_all; done))) (vI (by first | (rw [dri_1 (by omega)]; first | done | rfl) | (rw [dri_2 (by omega) (by omega)]; first | done | rfl) | (rw [dri_0 (by omega) (by omega)]; first | done | rfl) | (exfalso; simp_all; done)))) [] (rfl) rfl (trivial)
  · replace hb2 := nb_f hb2
    refine ExL.pures 1 rfl ?_
    refine ExL.op rfl (op_ret rfl rfl rfl (c_l06Totals t _ _ (by omega)) (Reads.get (Reads.old ht)) rfl rfl (fun x3 hx3 => ?_))
    refine ExL.pures 2 rfl ?_
    refine ExL.nil ?_
    refine Ex.cond rfl (fun hb4 => ?_) (fun hb4 => ?_)
    · replace hb4 := nb_t hb4
      refine Ex.regSeq (ExL.pures 2 rfl ?_)
      refine ExL.nil ?_
      refine Ex.ret ?_
      refine RetQ.mk () rfl (.tmp rfl (.tmp rfl .nil)) (t2 (vI (by first | (rw [dri_1 (by omega)]; first | done | rfl) | (rw [dri_2 (by omega) (by omega)]; first | done | rfl) | (rw [dri_0 (by omega) (by omega)]; first | done | rfl) | (exfalso; simp_all; done))) (vI (by first | (rw [dri_1 (by omega)]; first | done | rfl) | (rw [dri_2 (by omega) (by omega)]; first | done | rfl) | (rw [dri_0 (by omega) (by omega)]; first | done | rfl) | (exfalso; simp_all; done)))) [] (rfl) rfl (trivial)
    · replace hb4 := nb_f hb4
      refine Ex.skip ?_
      refine Ex.regSeq (ExL.pures 2 rfl ?_)
      refine ExL.op rfl (op_ret rfl rfl rfl (c_sCountOn s (by assumption) _ _ (by omega) day) (Reads.get (Reads.old hs)) rfl rfl (fun x5 hx5 => ?_))
      refine ExL.pures 5 rfl ?_
      refine ExL.nil ?_
      refine Ex.seq ?_
      refine Ex.regSeq (ExL.pures 1 rfl ?_)
      refine ExL.neq rfl rfl rfl rfl rfl rfl (fun h6 => ?_) (fun h6 => ?_)
      · refine ExL.nil ?_
        refine Ex.cond_t rfl ?_
        refine Ex.regSeq (ExL.pures 3 rfl ?_)
        refine ExL.nil ?_
        refine Ex.ret ?_
        refine RetQ.mk () rfl (.tmp rfl (.tmp rfl .nil)) (t2 (vI (by first | (rw [dri_1 (by omega)]; first | done | rfl) | (rw [dri_2 (by omega) (by omega)]; first | done | rfl) | (rw [dri_0 (by omega) (by omega)]; first | done | rfl) | (exfalso; simp_all; done))) (vI (by first | (rw [dri_1 (by omega)]; first | done | rfl) | (rw [dri_2 (by omega) (by omega)]; first | done | rfl) | (rw [dri_0 (by omega) (by omega)]; first | done | rfl) | (exfalso; simp_all; done)))) [] (rfl) rfl (trivial)
      · refine ExL.nil ?_
        refine Ex.cond_f rfl ?_
        refine Ex.skip ?_
        refine Ex.regSeq (ExL.pures 2 rfl ?_)
        refine ExL.op rfl (op_ret rfl rfl rfl (c_sCountOn t (by assumption) _ _ (by omega) day) (Reads.get (Reads.old ht)) rfl rfl (fun x7 hx7 => ?_))
        refine ExL.pures 5 rfl ?_
        refine ExL.nil ?_
        refine Ex.seq ?_
        refine Ex.regSeq (ExL.pures 1 rfl ?_)
        refine ExL.neq rfl rfl rfl rfl rfl rfl (fun h8 => ?_) (fun h8 => ?_)
        · refine ExL.nil ?_
          refine Ex.cond_t rfl ?_
          refine Ex.regSeq (ExL.pures 3 rfl ?_)
          refine ExL.nil ?_
          refine Ex.ret ?_
          refine RetQ.mk () rfl (.tmp rfl (.tmp rfl .nil)) (t2 (vI (by first | (rw [dri_1 (by omega)]; first | done | rfl) | (rw [dri_2 (by omega) (by omega)]; first | done | rfl) | (rw [dri_0 (by omega) (by omega)]; first | done | rfl) | (exfalso; simp_all; done))) (vI (by first | (rw [dri_1 (by omega)]; first | done | rfl) | (rw [dri_2 (by omega) (by omega)]; first | done | rfl) | (rw [dri_0 (by omega) (by omega)]; first | done | rfl) | (exfalso; simp_all; done)))) [] (rfl) rfl (trivial)
        · refine ExL.nil ?_
          refine Ex.cond_f rfl ?_
          refine Ex.skip ?_
          refine Ex.regSeq (ExL.pures 2 rfl ?_)
          refine ExL.free (by first | exact fr_sub64 rfl rfl rfl (by omega) | exact fr_sub rfl rfl rfl) rfl rfl rfl ?_
          refine ExL.pures 2 rfl ?_
          refine ExL.nil ?_
          refine Ex.ret ?_
          refine RetQ.mk () rfl (.tmp rfl (.tmp rfl .nil)) (t2 (vI (by first | (rw [dri_1 (by omega)]; first | done | rfl) | (rw [dri_2 (by omega) (by omega)]; first | done | rfl) | (rw [dri_0 (by omega) (by omega)]; first | done | rfl) | (exfalso; simp_all; done))) (vI (by first | (rw [dri_1 (by omega)]; first | done | rfl) | (rw [dri_2 (by omega) (by omega)]; first | done | rfl) | (rw [dri_0 (by omega) (by omega)]; first | done | rfl) | (exfalso; simp_all; done)))) [] (rfl) rfl (trivial)
end Go.Proofs.Ytepahnikcojepaa
