/- What these functions of the program hand back, each proved by walking its operations. -/
import Derived.Test.YtplljnddhkleaaaProg
import Derived.Test.YtplljnddhkleaaaFw
import Derived.Test.YtplljnddhkleaaaGPC
set_option linter.unusedVariables false
set_option linter.unusedSimpArgs false
set_option maxRecDepth 4000
namespace Go.Proofs.Ytplljnddhkleaaa
open Go Go.Sx Go.RowKit Go.W Go.Proofs
attribute [local irreducible] Ex ExL ExD Op1 Free RetQ MutQ Reads CellO SegO LoadsAs
theorem e_26 : Enters Try.prog 26 := Enters.of Try.func26 rfl
theorem c_iCountIn (s : List Int) (hu : Nums 255 s) (As : Option Addr) (cs : Nat) (hls : s.length ≤ maxLen) (p : VPh) (hp : OkPh p) (lo hi : Int) : Ret Try.prog 26 [.slice As s.length cs, .agg (encPh p).toArray, .int .i64 lo, .int .i64 hi] (fun w => Rd w As (s.flatMap (eI .u8))) (fun x : Unit => .tuple #[.int .i64 (cinV s p lo hi).1, .int .i64 (cinV s p lo hi).2]) (fun x => []) (fun x => True) := by
  refine Ret.of e_26 Try.func26 rfl Try.ntmps26 rfl rfl (fun w hpre => ?_)
  have hs := hpre.base
  have hm0 : maxLen = 9223372036854775807 := rfl
  refine Ex.regSeq (ExL.pures 0 rfl ?_)
  refine ExL.op rfl (op_box rfl rfl rfl rfl rfl (fun b1 => ?_))
  refine ExL.pures 2 rfl ?_
  refine ExL.nil ?_
  refine Ex.seq ?_
  refine Ex.block ?_
  refine Ex.regSeq (ExL.pures 1 rfl ?_)
  refine ExL.free (fr_loadN rfl rfl rfl rfl rfl (SegO.whole (i := 0) rfl)) rfl rfl rfl ?_
  refine ExL.op rfl (op_ret rfl rfl rfl (c_iValidPhoto s (by assumption) _ _ (by omega) p hp) (Reads.get (Reads.old hs)) rfl rfl (fun x2 hx2 => ?_))
  refine ExL.pures 2 rfl ?_
  refine ExL.nil ?_
  refine Ex.cond rfl (fun hb3 => ?_) (fun hb3 => ?_)
  · replace hb3 := nb_t hb3
    refine Ex.regSeq (ExL.pures 2 rfl ?_)
    refine ExL.nil ?_
    refine Ex.ret ?_
    refine RetQ.mk () rfl (.tmp rfl (.tmp rfl .nil)) (t2 (vI (by first | (rw [ci_1 (by assumption)]; first | done | rfl) | (rw [ci_2 (by assumption) (by omega)]; first | done | rfl) | (rw [ci_0 (by assumption) (by omega) (by omega)]; first | done | rfl) | (rw [ci_y (by assumption) (by omega) (by omega) (by assumption)]; first | done | rfl) | (rw [ci_n (by assumption) (by omega) (by omega) (by assumption)]; first | done | rfl))) (vI (by first | (rw [ci_1 (by assumption)]; first | done | rfl) | (rw [ci_2 (by assumption) (by omega)]; first | done | rfl) | (rw [ci_0 (by assumption) (by omega) (by omega)]; first | done | rfl) | (rw [ci_y (by assumption) (by omega) (by omega) (by assumption)]; first | done | rfl) | (rw [ci_n (by assumption) (by omega) (by omega) (by assumption)]; first | done | rfl)))) [] (rfl) rfl (trivial)
  · replace hb3 := nb_f hb3
    have hz0 := size_bd hu s.length
    rw [List.take_length] at hz0
    refine Ex.regSeq (ExL.pures 2 rfl ?_)
    refine ExL.op rfl (op_ret rfl rfl rfl (c_hasValue s (by assumption) _ _ (by omega) _) (Reads.get (Reads.old hs)) rfl rfl (fun x4 hx4 => ?_))
    refine ExL.pures 2 rfl ?_
    refine ExL.bool (d := 21) rfl (fun hb5 => ?_) (fun hb5 => ?_)
    · replace hb5 := nd_t hb5
      refine ExL.pures 6 rfl ?_
      refine ExL.nil ?_
      refine Ex.cond_t rfl ?_
      refine Ex.regSeq (ExL.pures 2 rfl ?_)
      refine ExL.nil ?_
      refine Ex.ret ?_
      refine RetQ.mk () rfl (.tmp rfl (.tmp rfl .nil)) (t2 (vI (by first | (rw [ci_1 (by assumption)]; first | done | rfl) | (rw [ci_2 (by assumption) (by omega)]; first | done | rfl) | (rw [ci_0 (by assumption) (by omega) (by omega)]; first | done | rfl) | (rw [ci_y (by assumption) (by omega) (by omega) (by assumption)]; first | done | rfl) | (rw [ci_n (by assumption) (by omega) (by omega) (by assumption)]; first | done | rfl))) (vI (by first | (rw [ci_1 (by assumption)]; first | done | rfl) | (rw [ci_2 (by assumption) (by omega)]; first | done | rfl) | (rw [ci_0 (by assumption) (by omega) (by omega)]; first | done | rfl) | (rw [ci_y (by assumption) (by omega) (by omega) (by assumption)]; first | done | rfl) | (rw [ci_n (by assumption) (by omega) (by omega) (by assumption)]; first | done | rfl)))) [] (rfl) rfl (trivial)
    · replace hb5 := nd_f hb5
      refine ExL.pures 2 rfl ?_
      refine ExL.op rfl (op_ret rfl rfl rfl (c_hasValue s (by assumption) _ _ (by omega) _) (Reads.get (Reads.old hs)) rfl rfl (fun x6 hx6 => ?_))
      refine ExL.pures 3 rfl ?_
      refine ExL.nil ?_
      refine Ex.cond rfl (fun hb7 => ?_) (fun hb7 => ?_)
      · replace hb7 := nd_t hb7
        refine Ex.regSeq (ExL.pures 2 rfl ?_)
        refine ExL.nil ?_
        refine Ex.ret ?_
        refine RetQ.mk () rfl (.tmp rfl (.tmp rfl .nil)) (t2 (vI (by first | (rw [ci_1 (by assumption)]; first | done | rfl) | (rw [ci_2 (by assumption) (by omega)]; first | done | rfl) | (rw [ci_0 (by assumption) (by omega) (by omega)]; first | done | rfl) | (rw [ci_y (by assumption) (by omega) (by omega) (by assumption)]; first | done | rfl) | (rw [ci_n (by assumption) (by omega) (by omega) (by assumption)]; first | done | rfl))) (vI (by first | (rw [ci_1 (by assumption)]; first | done | rfl) | (rw [ci_2 (by assumption) (by omega)]; first | done | rfl) | (rw [ci_0 (by assumption) (by omega) (by omega)]; first | done | rfl) | (rw [ci_y (by assumption) (by omega) (by omega) (by assumption)]; first | done | rfl) | (rw [ci_n (by assumption) (by omega) (by omega) (by assumption)]; first | done | rfl)))) [] (rfl) rfl (trivial)
      · replace hb7 := nd_f hb7
        refine Ex.regSeq (ExL.pures 2 rfl ?_)
        refine ExL.gtr rfl rfl rfl rfl rfl rfl (fun h8 => ?_) (fun h8 => ?_)
        · refine ExL.pures 1 rfl ?_
          refine ExL.nil ?_
          refine Ex.cond_t rfl ?_
          refine Ex.regSeq (ExL.pures 2 rfl ?_)
          refine ExL.nil ?_
          refine Ex.ret ?_
          refine RetQ.mk () rfl (.tmp rfl (.tmp rfl .nil)) (t2 (vI (by first | (rw [ci_1 (by assumption)]; first | done | rfl) | (rw [ci_2 (by assumption) (by omega)]; first | done | rfl) | (rw [ci_0 (by assumption) (by omega) (by omega)]; first | done | rfl) | (rw [ci_y (by assumption) (by omega) (by omega) (by assumption)]; first | done | rfl) | (rw [ci_n (by assumption) (by omega) (by omega) (by assumption)]; first | done | rfl))) (vI (by first | (rw [ci_1 (by assumption)]; first | done | rfl) | (rw [ci_2 (by assumption) (by omega)]; first | done | rfl) | (rw [ci_0 (by assumption) (by omega) (by omega)]; first | done | rfl) | (rw [ci_y (by assumption) (by omega) (by omega) (by assumption)]; first | done | rfl) | (rw [ci_n (by assumption) (by omega) (by omega) (by assumption)]; first | done | rfl)))) [] (rfl) rfl (trivial)
        · refine ExL.pures 1 rfl ?_
          refine ExL.nil ?_
          refine Ex.cond_f rfl ?_
          refine Ex.skip ?_
          obtain ⟨hv, hS, hP⟩ := vph hp (by assumption)
          have h8 := hS.len8
          have hz := hS.size_
          have hle := hS.le
          have hps := hS.pos
          have hnlo := digs_num (v := lo) hS.bases
          have hdlo := digs_valid (v := lo) hS
          have helo : (dig (digs s lo)).l = digs s lo := dig_l (digs_len s lo)
          rw [← helo] at hnlo hdlo
          have hblo := bel_bd hP hS (digOk h8 hnlo hdlo) s.length 0 (Nat.le_refl _)
          have hnhi := digs_num (v := hi) hS.bases
          have hdhi := digs_valid (v := hi) hS
          have hehi : (dig (digs s hi)).l = digs s hi := dig_l (digs_len s hi)
          rw [← hehi] at hnhi hdhi
          have hbhi := bel_bd hP hS (digOk h8 hnhi hdhi) s.length 0 (Nat.le_refl _)
          refine Ex.drawSeqM rfl ?_
          refine ExD.take (i := 0) rfl (by kernel_rfl) (pureVal_ok rfl) ((List.Sublist.refl _)) rfl rfl rfl ?_
          refine ExD.take (i := 1) rfl (by kernel_rfl) (fr_loadN rfl rfl rfl rfl rfl (SegO.whole (i := 0) rfl)) ((List.Sublist.refl _)) rfl rfl rfl ?_
          refine ExD.take (i := 2) rfl (by kernel_rfl) (pureVal_ok rfl) ((List.Sublist.refl _)) rfl rfl rfl ?_
          refine ExD.take (i := 3) rfl (by kernel_rfl) (pureVal_ok rfl) ((List.Sublist.refl _)) rfl rfl rfl ?_
          refine ExD.take (i := 6) rfl (by kernel_rfl) (pureVal_ok rfl) ((List.Sublist.refl _)) rfl rfl rfl ?_
          refine ExD.take (i := 7) rfl (by kernel_rfl) (fr_loadN rfl rfl rfl rfl rfl (SegO.whole (i := 0) rfl)) ((List.Sublist.refl _)) rfl rfl rfl ?_
          refine ExD.take (i := 8) rfl (by kernel_rfl) (pureVal_ok rfl) ((List.Sublist.refl _)) rfl rfl rfl ?_
          refine ExD.take (i := 9) rfl (by kernel_rfl) (pureVal_ok rfl) ((List.Sublist.refl _)) rfl rfl rfl ?_
          refine ExD.op (i := 4) rfl (by kernel_rfl) rfl (op_ret rfl rfl rfl (c_digits s (by first | assumption | simp_all) _ _ _ (by omega)) (Reads.get (Reads.old hs)) rfl rfl (fun x9 hx9 => ⟨(List.Sublist.refl _), ?_⟩))
          refine ExD.op (i := 5) rfl (by kernel_rfl) rfl (op_ret rfl rfl rfl (c_countIn s (by first | assumption | simp_all) _ _ p hp (dig (digs s hi)) (by assumption) (by first | assumption | simp_all) (by assumption)) (Reads.get (Reads.old hs)) rfl rfl (fun x10 hx10 => ⟨(List.Sublist.refl _), ?_⟩))
          refine ExD.op (i := 10) rfl (by kernel_rfl) rfl (op_ret rfl rfl rfl (c_digits s (by first | assumption | simp_all) _ _ _ (by omega)) (Reads.get (Reads.old hs)) rfl rfl (fun x11 hx11 => ⟨(List.Sublist.refl _), ?_⟩))
          refine ExD.op (i := 11) rfl (by kernel_rfl) rfl (op_ret rfl rfl rfl (c_countIn s (by first | assumption | simp_all) _ _ p hp (dig (digs s lo)) (by assumption) (by first | assumption | simp_all) (by assumption)) (Reads.get (Reads.old hs)) rfl rfl (fun x12 hx12 => ⟨(List.Sublist.refl _), ?_⟩))
          refine ExD.take (i := 12) rfl (by kernel_rfl) (by first | exact fr_sub64 rfl rfl rfl (by omega) | exact fr_sub rfl rfl rfl) ((List.Sublist.refl _)) rfl rfl rfl ?_
          refine ExD.take (i := 13) rfl (by kernel_rfl) (pureVal_ok rfl) ((List.Sublist.refl _)) rfl rfl rfl ?_
          refine ExD.done (by kernel_rfl) ?_
          refine Ex.seq ?_
          refine Ex.drawSeqM rfl ?_
          refine ExD.take (i := 0) rfl (by kernel_rfl) (pureVal_ok rfl) ((List.Sublist.refl _)) rfl rfl rfl ?_
          refine ExD.take (i := 1) rfl (by kernel_rfl) (fr_loadN rfl rfl rfl rfl rfl (SegO.whole (i := 0) rfl)) ((List.Sublist.refl _)) rfl rfl rfl ?_
          refine ExD.take (i := 2) rfl (by kernel_rfl) (pureVal_ok rfl) ((List.Sublist.refl _)) rfl rfl rfl ?_
          refine ExD.take (i := 3) rfl (by kernel_rfl) (pureVal_ok rfl) ((List.Sublist.refl _)) rfl rfl rfl ?_
          refine ExD.op (i := 4) rfl (by kernel_rfl) rfl (op_ret rfl rfl rfl (c_digits s (by first | assumption | simp_all) _ _ _ (by omega)) (Reads.get (Reads.old hs)) rfl rfl (fun x13 hx13 => ⟨(List.Sublist.refl _), ?_⟩))
          refine ExD.op (i := 5) rfl (by kernel_rfl) rfl (op_ret rfl rfl rfl (c_showsP s (by first | assumption | simp_all) _ _ p hp (dig (digs s hi)) (by assumption) (by first | assumption | simp_all)) (Reads.get (Reads.old hs)) rfl rfl (fun x14 hx14 => ⟨(List.Sublist.refl _), ?_⟩))
          refine ExD.done (by kernel_rfl) ?_
          refine Ex.cond rfl (fun hb15 => ?_) (fun hb15 => ?_)
          · refine Ex.region (ExL.pures 1 rfl ?_)
            refine ExL.free (by first | exact fr_add64 rfl rfl rfl (by omega) | exact fr_add rfl rfl rfl) rfl rfl rfl ?_
            refine ExL.pures 1 rfl ?_
            refine ExL.nil ?_
            refine Ex.regSeq (ExL.pures 3 rfl ?_)
            refine ExL.nil ?_
            refine Ex.ret ?_
            refine RetQ.mk () rfl (.tmp rfl (.tmp rfl .nil)) (t2 (vI (by first | (rw [ci_1 (by assumption)]; first | done | rfl) | (rw [ci_2 (by assumption) (by omega)]; first | done | rfl) | (rw [ci_0 (by assumption) (by omega) (by omega)]; first | done | rfl) | (rw [ci_y (by assumption) (by omega) (by omega) (by assumption)]; first | done | rfl) | (rw [ci_n (by assumption) (by omega) (by omega) (by assumption)]; first | done | rfl))) (vI (by first | (rw [ci_1 (by assumption)]; first | done | rfl) | (rw [ci_2 (by assumption) (by omega)]; first | done | rfl) | (rw [ci_0 (by assumption) (by omega) (by omega)]; first | done | rfl) | (rw [ci_y (by assumption) (by omega) (by omega) (by assumption)]; first | done | rfl) | (rw [ci_n (by assumption) (by omega) (by omega) (by assumption)]; first | done | rfl)))) [] (rfl) rfl (trivial)
          · refine Ex.skip ?_
            refine Ex.regSeq (ExL.pures 3 rfl ?_)
            refine ExL.nil ?_
            refine Ex.ret ?_
            refine RetQ.mk () rfl (.tmp rfl (.tmp rfl .nil)) (t2 (vI (by first | (rw [ci_1 (by assumption)]; first | done | rfl) | (rw [ci_2 (by assumption) (by omega)]; first | done | rfl) | (rw [ci_0 (by assumption) (by omega) (by omega)]; first | done | rfl) | (rw [ci_y (by assumption) (by omega) (by omega) (by assumption)]; first | done | rfl) | (rw [ci_n (by assumption) (by omega) (by omega) (by assumption)]; first | done | rfl))) (vI (by first | (rw [ci_1 (by assumption)]; first | done | rfl) | (rw [ci_2 (by assumption) (by omega)]; first | done | rfl) | (rw [ci_0 (by assumption) (by omega) (by omega)]; first | done | rfl) | (rw [ci_y (by assumption) (by omega) (by omega) (by assumption)]; first | done | rfl) | (rw [ci_n (by assumption) (by omega) (by omega) (by assumption)]; first | done | rfl)))) [] (rfl) rfl (trivial)
theorem e_25 : Enters Try.prog 25 := Enters.of Try.func25 rfl
theorem c_sCountIn (s : List Int) (hu : Nums 255 s) (As : Option Addr) (cs : Nat) (hls : s.length ≤ maxLen) (p : VPh) (hp : OkPh p) (lo hi : Int) : Ret Try.prog 25 [.slice As s.length cs, .agg (encPh p).toArray, .int .i64 lo, .int .i64 hi] (fun w => Rd w As (s.flatMap (eI .u8))) (fun x : Unit => .tuple #[.int .i64 (cinV s p lo hi).1, .int .i64 (cinV s p lo hi).2]) (fun x => []) (fun x => True) := by
  refine Ret.of e_25 Try.func25 rfl Try.ntmps25 rfl rfl (fun w hpre => ?_)
  have hs := hpre.base
  have hm0 : maxLen = 9223372036854775807 := rfl
  refine Ex.regSeq (ExL.pures 0 rfl ?_)
  refine ExL.op rfl (op_box rfl rfl rfl rfl rfl (fun b1 => ?_))
  refine ExL.pures 2 rfl ?_
  refine ExL.nil ?_
  refine Ex.seq ?_
  refine Ex.regSeq (ExL.pures 1 rfl ?_)
  refine ExL.free (fr_loadN rfl rfl rfl rfl rfl (SegO.whole (i := 0) rfl)) rfl rfl rfl ?_
  refine ExL.op rfl (op_ret rfl rfl rfl (c_sValidPhoto s (by assumption) _ _ (by omega) p hp) (Reads.get (Reads.old hs)) rfl rfl (fun x2 hx2 => ?_))
  refine ExL.pures 1 rfl ?_
  refine ExL.nil ?_
  refine Ex.cond rfl (fun hb3 => ?_) (fun hb3 => ?_)
  · replace hb3 := nb_t hb3
    refine Ex.regSeq (ExL.pures 2 rfl ?_)
    refine ExL.nil ?_
    refine Ex.ret ?_
    refine RetQ.mk () rfl (.tmp rfl (.tmp rfl .nil)) (t2 (vI (by first | (rw [ci_1 (by assumption)]; first | done | rfl) | (rw [ci_2 (by assumption) (by omega)]; first | done | rfl) | (rw [ci_0 (by assumption) (by omega) (by omega)]; first | done | rfl) | (rw [ci_y (by assumption) (by omega) (by omega) (by assumption)]; first | done | rfl) | (rw [ci_n (by assumption) (by omega) (by omega) (by assumption)]; first | done | rfl))) (vI (by first | (rw [ci_1 (by assumption)]; first | done | rfl) | (rw [ci_2 (by assumption) (by omega)]; first | done | rfl) | (rw [ci_0 (by assumption) (by omega) (by omega)]; first | done | rfl) | (rw [ci_y (by assumption) (by omega) (by omega) (by assumption)]; first | done | rfl) | (rw [ci_n (by assumption) (by omega) (by omega) (by assumption)]; first | done | rfl)))) [] (rfl) rfl (trivial)
  · replace hb3 := nb_f hb3
    refine Ex.skip ?_
    refine Ex.seq ?_
    have hz0 := size_bd hu s.length
    rw [List.take_length] at hz0
    refine Ex.regSeq (ExL.pures 2 rfl ?_)
    refine ExL.op rfl (op_ret rfl rfl rfl (c_l01Size _ (by assumption) _ _ (by first | assumption | omega | (unfold maxLen; omega))) (Reads.get (Reads.old hs)) rfl rfl (fun x4 hx4 => ?_))
    refine ExL.free (by first | exact fr_sub64 rfl rfl rfl (by omega) | exact fr_sub rfl rfl rfl) rfl rfl rfl ?_
    refine ExL.op rfl (op_ret rfl rfl rfl (c_l00In _ _ _) (fun _ _ => trivial) rfl rfl (fun x5 hx5 => ?_))
    refine ExL.pures 2 rfl ?_
    refine ExL.bool (d := 22) rfl (fun hb6 => ?_) (fun hb6 => ?_)
    · replace hb6 := nd_t hb6
      refine ExL.pures 7 rfl ?_
      refine ExL.nil ?_
      refine Ex.cond_t rfl ?_
      refine Ex.regSeq (ExL.pures 2 rfl ?_)
      refine ExL.nil ?_
      refine Ex.ret ?_
      refine RetQ.mk () rfl (.tmp rfl (.tmp rfl .nil)) (t2 (vI (by first | (rw [ci_1 (by assumption)]; first | done | rfl) | (rw [ci_2 (by assumption) (by omega)]; first | done | rfl) | (rw [ci_0 (by assumption) (by omega) (by omega)]; first | done | rfl) | (rw [ci_y (by assumption) (by omega) (by omega) (by assumption)]; first | done | rfl) | (rw [ci_n (by assumption) (by omega) (by omega) (by assumption)]; first | done | rfl))) (vI (by first | (rw [ci_1 (by assumption)]; first | done | rfl) | (rw [ci_2 (by assumption) (by omega)]; first | done | rfl) | (rw [ci_0 (by assumption) (by omega) (by omega)]; first | done | rfl) | (rw [ci_y (by assumption) (by omega) (by omega) (by assumption)]; first | done | rfl) | (rw [ci_n (by assumption) (by omega) (by omega) (by assumption)]; first | done | rfl)))) [] (rfl) rfl (trivial)
    · replace hb6 := nd_f hb6
      refine ExL.pures 2 rfl ?_
      refine ExL.op rfl (op_ret rfl rfl rfl (c_l01Size _ (by assumption) _ _ (by first | assumption | omega | (unfold maxLen; omega))) (Reads.get (Reads.old hs)) rfl rfl (fun x7 hx7 => ?_))
      refine ExL.free (by first | exact fr_sub64 rfl rfl rfl (by omega) | exact fr_sub rfl rfl rfl) rfl rfl rfl ?_
      refine ExL.op rfl (op_ret rfl rfl rfl (c_l00In _ _ _) (fun _ _ => trivial) rfl rfl (fun x8 hx8 => ?_))
      refine ExL.pures 2 rfl ?_
      refine ExL.nil ?_
      refine Ex.cond rfl (fun hb9 => ?_) (fun hb9 => ?_)
      · replace hb9 := nd_t hb9
        refine Ex.regSeq (ExL.pures 2 rfl ?_)
        refine ExL.nil ?_
        refine Ex.ret ?_
        refine RetQ.mk () rfl (.tmp rfl (.tmp rfl .nil)) (t2 (vI (by first | (rw [ci_1 (by assumption)]; first | done | rfl) | (rw [ci_2 (by assumption) (by omega)]; first | done | rfl) | (rw [ci_0 (by assumption) (by omega) (by omega)]; first | done | rfl) | (rw [ci_y (by assumption) (by omega) (by omega) (by assumption)]; first | done | rfl) | (rw [ci_n (by assumption) (by omega) (by omega) (by assumption)]; first | done | rfl))) (vI (by first | (rw [ci_1 (by assumption)]; first | done | rfl) | (rw [ci_2 (by assumption) (by omega)]; first | done | rfl) | (rw [ci_0 (by assumption) (by omega) (by omega)]; first | done | rfl) | (rw [ci_y (by assumption) (by omega) (by omega) (by assumption)]; first | done | rfl) | (rw [ci_n (by assumption) (by omega) (by omega) (by assumption)]; first | done | rfl)))) [] (rfl) rfl (trivial)
      · replace hb9 := nd_f hb9
        refine Ex.skip ?_
        refine Ex.seq ?_
        refine Ex.regSeq (ExL.pures 2 rfl ?_)
        refine ExL.gtr rfl rfl rfl rfl rfl rfl (fun h10 => ?_) (fun h10 => ?_)
        · refine ExL.nil ?_
          refine Ex.cond_t rfl ?_
          refine Ex.regSeq (ExL.pures 2 rfl ?_)
          refine ExL.nil ?_
          refine Ex.ret ?_
          refine RetQ.mk () rfl (.tmp rfl (.tmp rfl .nil)) (t2 (vI (by first | (rw [ci_1 (by assumption)]; first | done | rfl) | (rw [ci_2 (by assumption) (by omega)]; first | done | rfl) | (rw [ci_0 (by assumption) (by omega) (by omega)]; first | done | rfl) | (rw [ci_y (by assumption) (by omega) (by omega) (by assumption)]; first | done | rfl) | (rw [ci_n (by assumption) (by omega) (by omega) (by assumption)]; first | done | rfl))) (vI (by first | (rw [ci_1 (by assumption)]; first | done | rfl) | (rw [ci_2 (by assumption) (by omega)]; first | done | rfl) | (rw [ci_0 (by assumption) (by omega) (by omega)]; first | done | rfl) | (rw [ci_y (by assumption) (by omega) (by omega) (by assumption)]; first | done | rfl) | (rw [ci_n (by assumption) (by omega) (by omega) (by assumption)]; first | done | rfl)))) [] (rfl) rfl (trivial)
        · refine ExL.nil ?_
          refine Ex.cond_f rfl ?_
          refine Ex.skip ?_
          obtain ⟨hv, hS, hP⟩ := vph hp (by assumption)
          have h8 := hS.len8
          have hz := hS.size_
          have hle := hS.le
          have hps := hS.pos
          have hnlo := digs_num (v := lo) hS.bases
          have hdlo := digs_valid (v := lo) hS
          have helo : (dig (digs s lo)).l = digs s lo := dig_l (digs_len s lo)
          rw [← helo] at hnlo hdlo
          have hblo := bel_bd hP hS (digOk h8 hnlo hdlo) s.length 0 (Nat.le_refl _)
          have hnhi := digs_num (v := hi) hS.bases
          have hdhi := digs_valid (v := hi) hS
          have hehi : (dig (digs s hi)).l = digs s hi := dig_l (digs_len s hi)
          rw [← hehi] at hnhi hdhi
          have hbhi := bel_bd hP hS (digOk h8 hnhi hdhi) s.length 0 (Nat.le_refl _)
          refine Ex.regSeq (ExL.pures 2 rfl ?_)
          refine ExL.op rfl (op_ret rfl rfl rfl (c_l01Of s (by first | assumption | simp_all) _ _ _ (by omega)) (Reads.get (Reads.old hs)) rfl rfl (fun x11 hx11 => ?_))
          refine ExL.op rfl (op_alloc rfl rfl rfl rfl rfl (fun b12 => ?_))
          refine ExL.op rfl (op_storeC (i := 0) rfl rfl rfl rfl rfl rfl rfl rfl rfl rfl ?_)
          refine ExL.nil ?_
          refine Ex.regSeq (ExL.pures 1 rfl ?_)
          refine ExL.free (fr_loadN rfl rfl rfl rfl rfl (SegO.whole (i := 0) rfl)) rfl rfl rfl ?_
          refine ExL.op rfl (op_ret rfl rfl rfl (c_l05Below s (by first | assumption | simp_all) _ _ p hp _ _ (dig (digs s hi)) (by assumption) (by first | assumption | simp_all) (by assumption)) (fun w hw => ⟨Reads.get (Reads.old hs) w hw, Reads.get (Reads.blk (i := 1) rfl) w hw⟩) rfl rfl (fun x13 hx13 => ?_))
          refine ExL.pures 3 rfl ?_
          refine ExL.op rfl (op_ret rfl rfl rfl (c_l01Of s (by first | assumption | simp_all) _ _ _ (by omega)) (Reads.get (Reads.old hs)) rfl rfl (fun x14 hx14 => ?_))
          refine ExL.op rfl (op_ret rfl rfl rfl (c_l05Below s (by first | assumption | simp_all) _ _ p hp _ _ (dig (digs s lo)) (by assumption) (by first | assumption | simp_all) (by assumption)) (fun w hw => ⟨Reads.get (Reads.old hs) w hw, Reads.get (Reads.blk (i := 1) rfl) w hw⟩) rfl rfl (fun x15 hx15 => ?_))
          refine ExL.free (by first | exact fr_sub64 rfl rfl rfl (by omega) | exact fr_sub rfl rfl rfl) rfl rfl rfl ?_
          refine ExL.pures 1 rfl ?_
          refine ExL.nil ?_
          refine Ex.seq ?_
          refine Ex.regSeq (ExL.pures 1 rfl ?_)
          refine ExL.free (fr_loadN rfl rfl rfl rfl rfl (SegO.whole (i := 0) rfl)) rfl rfl rfl ?_
          refine ExL.op rfl (op_ret rfl rfl rfl (c_l05Shows s (by first | assumption | simp_all) _ _ p hp _ _ (dig (digs s hi)) (by assumption) (by first | assumption | simp_all)) (fun w hw => ⟨Reads.get (Reads.old hs) w hw, Reads.get (Reads.blk (i := 1) rfl) w hw⟩) rfl rfl (fun x16 hx16 => ?_))
          refine ExL.nil ?_
          refine Ex.cond rfl (fun hb17 => ?_) (fun hb17 => ?_)
          · refine Ex.region (ExL.pures 1 rfl ?_)
            refine ExL.free (by first | exact fr_add64 rfl rfl rfl (by omega) | exact fr_add rfl rfl rfl) rfl rfl rfl ?_
            refine ExL.pures 1 rfl ?_
            refine ExL.nil ?_
            refine Ex.regSeq (ExL.pures 3 rfl ?_)
            refine ExL.nil ?_
            refine Ex.ret ?_
            refine RetQ.mk () rfl (.tmp rfl (.tmp rfl .nil)) (t2 (vI (by first | (rw [ci_1 (by assumption)]; first | done | rfl) | (rw [ci_2 (by assumption) (by omega)]; first | done | rfl) | (rw [ci_0 (by assumption) (by omega) (by omega)]; first | done | rfl) | (rw [ci_y (by assumption) (by omega) (by omega) (by assumption)]; first | done | rfl) | (rw [ci_n (by assumption) (by omega) (by omega) (by assumption)]; first | done | rfl))) (vI (by first | (rw [ci_1 (by assumption)]; first | done | rfl) | (rw [ci_2 (by assumption) (by omega)]; first | done | rfl) | (rw [ci_0 (by assumption) (by omega) (by omega)]; first | done | rfl) | (rw [ci_y (by assumption) (by omega) (by omega) (by assumption)]; first | done | rfl) | (rw [ci_n (by assumption) (by omega) (by omega) (by assumption)]; first | done | rfl)))) [] (rfl) rfl (trivial)
          · refine Ex.skip ?_
            refine Ex.regSeq (ExL.pures 3 rfl ?_)
            refine ExL.nil ?_
            refine Ex.ret ?_
            refine RetQ.mk () rfl (.tmp rfl (.tmp rfl .nil)) (t2 (vI (by first | (rw [ci_1 (by assumption)]; first | done | rfl) | (rw [ci_2 (by assumption) (by omega)]; first | done | rfl) | (rw [ci_0 (by assumption) (by omega) (by omega)]; first | done | rfl) | (rw [ci_y (by assumption) (by omega) (by omega) (by assumption)]; first | done | rfl) | (rw [ci_n (by assumption) (by omega) (by omega) (by assumption)]; first | done | rfl))) (vI (by first | (rw [ci_1 (by assumption)]; first | done | rfl) | (rw [ci_2 (by assumption) (by omega)]; first | done | rfl) | (rw [ci_0 (by assumption) (by omega) (by omega)]; first | done | rfl) | (rw [ci_y (by assumption) (by omega) (by omega) (by assumption)]; first | done | rfl) | (rw [ci_n (by assumption) (by omega) (by omega) (by assumption)]; first | done | rfl)))) [] (rfl) rfl (trivial)
end Go.Proofs.Ytplljnddhkleaaa
