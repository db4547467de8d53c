/- What these functions of the program hand back, each proved by walking its operations. -/
import Derived.Test.YtjopackngkfdhaaProg
import Derived.Test.YtjopackngkfdhaaFw
import Derived.Test.YtjopackngkfdhaaGZ
set_option linter.unusedVariables false
set_option linter.unusedSimpArgs false
set_option maxRecDepth 4000
namespace Go.Proofs.Ytjopackngkfdhaa
open Go Go.Sx Go.RowKit Go.W Go.Proofs
attribute [local irreducible] Ex ExL ExD Op1 Free RetQ MutQ Reads CellO SegO LoadsAs
theorem e_67 : Enters Try.prog 67 := Enters.of Try.func67 rfl
theorem c_iDoAct (d : VDev) (hk : OkDev d) (Ad : Option Addr) (cd : Nat) (hAd : Ad = none → cd = 0) (hdl : d.stack.length ≤ 1048576) (a : VAct) (hoa : OkAct a) : Ret Try.prog 67 [.agg (encV Ad cd d).toArray, .agg (encA a).toArray] (fun w => Rd w Ad (d.stack.flatMap (eI .u8))) (fun x : Option Addr × Nat => .tuple #[.agg (encV x.1 x.2 (doActV d a).1).toArray, .int .i64 (doActV d a).2.1, .int .i64 (doActV d a).2.2]) (fun x => [.row (.slice x.1 (doActV d a).1.stack.length x.2) 5 1 (doActV d a).1.stack.length ((doActV d a).1.stack.flatMap (eI .u8))]) (fun x => True) := by
  refine Ret.of e_67 Try.func67 rfl Try.ntmps67 rfl rfl (fun w hpre => ?_)
  have hd := hpre.base
  have hk2 := hk
  obtain ⟨hl, hu, ha, hpp, htt⟩ := hk2
  have hm0 : maxLen = 9223372036854775807 := rfl
  refine Ex.regSeq (ExL.pures 0 rfl ?_)
  refine ExL.op rfl (op_box rfl rfl rfl rfl rfl (fun b1 => ?_))
  refine ExL.op rfl (op_box rfl rfl rfl rfl rfl (fun b2 => ?_))
  refine ExL.op rfl (op_alloc rfl rfl rfl rfl rfl (fun b3 => ?_))
  refine ExL.pures 2 rfl ?_
  refine ExL.nil ?_
  refine Ex.seq ?_
  refine Ex.regSeq (ExL.pures 0 rfl ?_)
  refine ExL.free (fr_loadN rfl rfl rfl rfl rfl (SegO.whole (i := 2) rfl)) rfl rfl rfl ?_
  refine ExL.op rfl (op_ret rfl rfl rfl (c_iValidDevice d (by assumption) _ _) (Reads.get (Reads.old hd)) rfl rfl (fun x4 hx4 => ?_))
  refine ExL.pures 2 rfl ?_
  refine ExL.bool (d := 13) rfl (fun hb5 => ?_) (fun hb5 => ?_)
  · replace hb5 := nb_t hb5
    refine ExL.pures 4 rfl ?_
    refine ExL.nil ?_
    refine Ex.cond_t rfl ?_
    refine Ex.regSeq (ExL.pures 0 rfl ?_)
    refine ExL.free (fr_build rfl rfl rfl rfl) rfl rfl rfl ?_
    refine ExL.op rfl (op_storeC (i := 0) rfl rfl rfl rfl rfl rfl rfl rfl rfl rfl ?_)
    refine ExL.pures 2 rfl ?_
    refine ExL.nil ?_
    refine Ex.nilRow 5 1 ?_
    refine Ex.ret ?_
    refine RetQ.mk (none, 0) rfl (.cell rfl (.many rfl rfl rfl (SegO.whole (i := 1) rfl)) (.tmp rfl (.tmp rfl .nil))) (t3 (by first | (rw [da_no ⟨by assumption, by assumption⟩ (by assumption)]; first | done | rfl) | (rw [da_ok ⟨by assumption, by assumption⟩ (by first | assumption | exact not_not_intro (by assumption))]; first | done | rfl) | (rw [da_ok ⟨by assumption, by assumption⟩ (by first | assumption | exact not_not_intro (by assumption)), (by first | assumption | omega : (doV d a).2.2 = 0)]; first | done | rfl) | (rw [da_bad (by simp_all)]; first | done | rfl)) (by first | (rw [da_no ⟨by assumption, by assumption⟩ (by assumption)]; first | done | rfl) | (rw [da_ok ⟨by assumption, by assumption⟩ (by first | assumption | exact not_not_intro (by assumption))]; first | done | rfl) | (rw [da_ok ⟨by assumption, by assumption⟩ (by first | assumption | exact not_not_intro (by assumption)), (by first | assumption | omega : (doV d a).2.2 = 0)]; first | done | rfl) | (rw [da_bad (by simp_all)]; first | done | rfl)) (by first | (rw [da_no ⟨by assumption, by assumption⟩ (by assumption)]; first | done | rfl) | (rw [da_ok ⟨by assumption, by assumption⟩ (by first | assumption | exact not_not_intro (by assumption))]; first | done | rfl) | (rw [da_ok ⟨by assumption, by assumption⟩ (by first | assumption | exact not_not_intro (by assumption)), (by first | assumption | omega : (doV d a).2.2 = 0)]; first | done | rfl) | (rw [da_bad (by simp_all)]; first | done | rfl))) [0] (by first | (rw [da_no ⟨by assumption, by assumption⟩ (by assumption)]; first | done | rfl) | (rw [da_ok ⟨by assumption, by assumption⟩ (by first | assumption | exact not_not_intro (by assumption))]; first | done | rfl) | (rw [da_ok ⟨by assumption, by assumption⟩ (by first | assumption | exact not_not_intro (by assumption)), (by first | assumption | omega : (doV d a).2.2 = 0)]; first | done | rfl) | (rw [da_bad (by simp_all)]; first | done | rfl)) rfl (trivial)
  · replace hb5 := nb_f hb5
    refine ExL.free (fr_loadN rfl rfl rfl rfl rfl (SegO.whole (i := 1) rfl)) rfl rfl rfl ?_
    refine ExL.op rfl (op_ret rfl rfl rfl (c_ValidAct _) (fun _ _ => trivial) rfl rfl (fun x6 hx6 => ?_))
    refine ExL.pures 2 rfl ?_
    refine ExL.nil ?_
    refine Ex.cond rfl (fun hb7 => ?_) (fun hb7 => ?_)
    · replace hb7 := nb_t hb7
      refine Ex.regSeq (ExL.pures 0 rfl ?_)
      refine ExL.free (fr_build rfl rfl rfl rfl) rfl rfl rfl ?_
      refine ExL.op rfl (op_storeC (i := 0) rfl rfl rfl rfl rfl rfl rfl rfl rfl rfl ?_)
      refine ExL.pures 2 rfl ?_
      refine ExL.nil ?_
      refine Ex.nilRow 5 1 ?_
      refine Ex.ret ?_
      refine RetQ.mk (none, 0) rfl (.cell rfl (.many rfl rfl rfl (SegO.whole (i := 1) rfl)) (.tmp rfl (.tmp rfl .nil))) (t3 (by first | (rw [da_no ⟨by assumption, by assumption⟩ (by assumption)]; first | done | rfl) | (rw [da_ok ⟨by assumption, by assumption⟩ (by first | assumption | exact not_not_intro (by assumption))]; first | done | rfl) | (rw [da_ok ⟨by assumption, by assumption⟩ (by first | assumption | exact not_not_intro (by assumption)), (by first | assumption | omega : (doV d a).2.2 = 0)]; first | done | rfl) | (rw [da_bad (by simp_all)]; first | done | rfl)) (by first | (rw [da_no ⟨by assumption, by assumption⟩ (by assumption)]; first | done | rfl) | (rw [da_ok ⟨by assumption, by assumption⟩ (by first | assumption | exact not_not_intro (by assumption))]; first | done | rfl) | (rw [da_ok ⟨by assumption, by assumption⟩ (by first | assumption | exact not_not_intro (by assumption)), (by first | assumption | omega : (doV d a).2.2 = 0)]; first | done | rfl) | (rw [da_bad (by simp_all)]; first | done | rfl)) (by first | (rw [da_no ⟨by assumption, by assumption⟩ (by assumption)]; first | done | rfl) | (rw [da_ok ⟨by assumption, by assumption⟩ (by first | assumption | exact not_not_intro (by assumption))]; first | done | rfl) | (rw [da_ok ⟨by assumption, by assumption⟩ (by first | assumption | exact not_not_intro (by assumption)), (by first | assumption | omega : (doV d a).2.2 = 0)]; first | done | rfl) | (rw [da_bad (by simp_all)]; first | done | rfl))) [0] (by first | (rw [da_no ⟨by assumption, by assumption⟩ (by assumption)]; first | done | rfl) | (rw [da_ok ⟨by assumption, by assumption⟩ (by first | assumption | exact not_not_intro (by assumption))]; first | done | rfl) | (rw [da_ok ⟨by assumption, by assumption⟩ (by first | assumption | exact not_not_intro (by assumption)), (by first | assumption | omega : (doV d a).2.2 = 0)]; first | done | rfl) | (rw [da_bad (by simp_all)]; first | done | rfl)) rfl (trivial)
    · replace hb7 := nb_f hb7
      refine Ex.skip ?_
      refine Ex.regSeq (ExL.pures 0 rfl ?_)
      refine ExL.free (fr_loadN rfl rfl rfl rfl rfl (SegO.whole (i := 2) rfl)) rfl rfl rfl ?_
      refine ExL.op rfl (op_ret rfl rfl rfl (c_cloneDevice d _ _ (by omega)) (Reads.get (Reads.old hd)) rfl rfl (fun x8 hx8 => ?_))
      refine ExL.op rfl (op_alloc rfl rfl rfl rfl rfl (fun b9 => ?_))
      refine ExL.op rfl (op_storeC (i := 0) rfl rfl rfl rfl rfl rfl rfl rfl rfl rfl ?_)
      refine ExL.nil ?_
      refine Ex.regSeq (ExL.pures 0 rfl ?_)
      refine ExL.free (fr_loadN rfl rfl rfl rfl rfl (SegO.whole (i := 3) rfl)) rfl rfl rfl ?_
      refine ExL.op rfl (op_mut rfl rfl rfl (c_do d (by assumption) (by assumption) _ _ _ a (by first | assumption | simp_all)) (perm_lt (i := 0) (j := 1) rfl rfl rfl) (trivial) rfl rfl (fun x10 hx10 => ?_))
      refine ExL.pures 5 rfl ?_
      refine ExL.nil ?_
      refine Ex.seq ?_
      refine Ex.regSeq (ExL.pures 1 rfl ?_)
      refine ExL.neq rfl rfl rfl rfl rfl rfl (fun h11 => ?_) (fun h11 => ?_)
      · refine ExL.nil ?_
        refine Ex.cond_t rfl ?_
        refine Ex.regSeq (ExL.pures 0 rfl ?_)
        refine ExL.free (fr_build rfl rfl rfl rfl) rfl rfl rfl ?_
        refine ExL.pures 1 rfl ?_
        refine ExL.op rfl (op_storeC (i := 2) rfl rfl rfl rfl rfl rfl rfl rfl rfl rfl ?_)
        refine ExL.pures 2 rfl ?_
        refine ExL.nil ?_
        refine Ex.nilRow 5 1 ?_
        refine Ex.ret ?_
        refine RetQ.mk (none, 0) rfl (.cell rfl (.many rfl rfl rfl (SegO.whole (i := 3) rfl)) (.tmp rfl (.tmp rfl .nil))) (t3 (by first | (rw [da_no ⟨by assumption, by assumption⟩ (by assumption)]; first | done | rfl) | (rw [da_ok ⟨by assumption, by assumption⟩ (by first | assumption | exact not_not_intro (by assumption))]; first | done | rfl) | (rw [da_ok ⟨by assumption, by assumption⟩ (by first | assumption | exact not_not_intro (by assumption)), (by first | assumption | omega : (doV d a).2.2 = 0)]; first | done | rfl) | (rw [da_bad (by simp_all)]; first | done | rfl)) (by first | (rw [da_no ⟨by assumption, by assumption⟩ (by assumption)]; first | done | rfl) | (rw [da_ok ⟨by assumption, by assumption⟩ (by first | assumption | exact not_not_intro (by assumption))]; first | done | rfl) | (rw [da_ok ⟨by assumption, by assumption⟩ (by first | assumption | exact not_not_intro (by assumption)), (by first | assumption | omega : (doV d a).2.2 = 0)]; first | done | rfl) | (rw [da_bad (by simp_all)]; first | done | rfl)) (by first | (rw [da_no ⟨by assumption, by assumption⟩ (by assumption)]; first | done | rfl) | (rw [da_ok ⟨by assumption, by assumption⟩ (by first | assumption | exact not_not_intro (by assumption))]; first | done | rfl) | (rw [da_ok ⟨by assumption, by assumption⟩ (by first | assumption | exact not_not_intro (by assumption)), (by first | assumption | omega : (doV d a).2.2 = 0)]; first | done | rfl) | (rw [da_bad (by simp_all)]; first | done | rfl))) [0] (by first | (rw [da_no ⟨by assumption, by assumption⟩ (by assumption)]; first | done | rfl) | (rw [da_ok ⟨by assumption, by assumption⟩ (by first | assumption | exact not_not_intro (by assumption))]; first | done | rfl) | (rw [da_ok ⟨by assumption, by assumption⟩ (by first | assumption | exact not_not_intro (by assumption)), (by first | assumption | omega : (doV d a).2.2 = 0)]; first | done | rfl) | (rw [da_bad (by simp_all)]; first | done | rfl)) rfl (trivial)
      · refine ExL.nil ?_
        refine Ex.cond_f rfl ?_
        refine Ex.skip ?_
        refine Ex.regSeq (ExL.pures 0 rfl ?_)
        refine ExL.free (fr_loadN rfl rfl rfl rfl rfl (SegO.whole (i := 0) rfl)) rfl rfl rfl ?_
        refine ExL.pures 1 rfl ?_
        refine ExL.op rfl (op_storeC (i := 2) rfl rfl rfl rfl rfl rfl rfl rfl rfl rfl ?_)
        refine ExL.pures 2 rfl ?_
        refine ExL.nil ?_
        refine Ex.ret ?_
        refine RetQ.mk (x8.1, x8.2) rfl (.cell rfl (.many rfl rfl rfl (SegO.whole (i := 2) rfl)) (.tmp rfl (.tmp rfl .nil))) (t3 (by first | (rw [da_no ⟨by assumption, by assumption⟩ (by assumption)]; first | done | rfl) | (rw [da_ok ⟨by assumption, by assumption⟩ (by first | assumption | exact not_not_intro (by assumption))]; first | done | rfl) | (rw [da_ok ⟨by assumption, by assumption⟩ (by first | assumption | exact not_not_intro (by assumption)), do_stack]; first | done | rfl) | (rw [da_bad (by simp_all)]; first | done | rfl)) (by first | (rw [da_no ⟨by assumption, by assumption⟩ (by assumption)]; first | done | rfl) | (rw [da_ok ⟨by assumption, by assumption⟩ (by first | assumption | exact not_not_intro (by assumption))]; first | done | rfl) | (rw [da_ok ⟨by assumption, by assumption⟩ (by first | assumption | exact not_not_intro (by assumption)), (by first | assumption | omega : (doV d a).2.2 = 0)]; first | done | rfl) | (rw [da_bad (by simp_all)]; first | done | rfl)) (by first | (rw [da_no ⟨by assumption, by assumption⟩ (by assumption)]; first | done | rfl) | (rw [da_ok ⟨by assumption, by assumption⟩ (by first | assumption | exact not_not_intro (by assumption))]; first | done | rfl) | (rw [da_ok ⟨by assumption, by assumption⟩ (by first | assumption | exact not_not_intro (by assumption)), (by first | assumption | omega : (doV d a).2.2 = 0)]; first | done | rfl) | (rw [da_bad (by simp_all)]; first | done | rfl))) [1] (by first | (rw [da_no ⟨by assumption, by assumption⟩ (by assumption)]; first | done | rfl) | (rw [da_ok ⟨by assumption, by assumption⟩ (by first | assumption | exact not_not_intro (by assumption))]; first | done | rfl) | (rw [da_ok ⟨by assumption, by assumption⟩ (by first | assumption | exact not_not_intro (by assumption)), do_stack]; first | done | rfl) | (rw [da_bad (by simp_all)]; first | done | rfl)) rfl (trivial)
theorem e_66 : Enters Try.prog 66 := Enters.of Try.func66 rfl
theorem c_sDoAct (d : VDev) (hk : OkDev d) (Ad : Option Addr) (cd : Nat) (hAd : Ad = none → cd = 0) (hdl : d.stack.length ≤ 1048576) (a : VAct) (hoa : OkAct a) : Ret Try.prog 66 [.agg (encV Ad cd d).toArray, .agg (encA a).toArray] (fun w => Rd w Ad (d.stack.flatMap (eI .u8))) (fun x : Option Addr × Nat => .tuple #[.agg (encV x.1 x.2 (doActV d a).1).toArray, .int .i64 (doActV d a).2.1, .int .i64 (doActV d a).2.2]) (fun x => [.row (.slice x.1 (doActV d a).1.stack.length x.2) 5 1 (doActV d a).1.stack.length ((doActV d a).1.stack.flatMap (eI .u8))]) (fun x => True) := by
  refine Ret.of e_66 Try.func66 rfl Try.ntmps66 rfl rfl (fun w hpre => ?_)
  have hd := hpre.base
  have hk2 := hk
  obtain ⟨hl, hu, ha, hpp, htt⟩ := hk2
  have hm0 : maxLen = 9223372036854775807 := rfl
  refine Ex.regSeq (ExL.pures 0 rfl ?_)
  refine ExL.op rfl (op_box rfl rfl rfl rfl rfl (fun b1 => ?_))
  refine ExL.op rfl (op_box rfl rfl rfl rfl rfl (fun b2 => ?_))
  refine ExL.op rfl (op_alloc rfl rfl rfl rfl rfl (fun b3 => ?_))
  refine ExL.pures 2 rfl ?_
  refine ExL.nil ?_
  refine Ex.seq ?_
  refine Ex.regSeq (ExL.pures 0 rfl ?_)
  refine ExL.op rfl (op_ret rfl rfl rfl (c_l07Ok d (by assumption) _ _ _) (fun w hw => ⟨Reads.get (Reads.blk (i := 2) rfl) w hw, Reads.get (Reads.old hd) w hw⟩) rfl rfl (fun x4 hx4 => ?_))
  refine ExL.pures 2 rfl ?_
  refine ExL.bool (d := 12) rfl (fun hb5 => ?_) (fun hb5 => ?_)
  · replace hb5 := nb_t hb5
    refine ExL.pures 4 rfl ?_
    refine ExL.nil ?_
    refine Ex.cond_t rfl ?_
    refine Ex.regSeq (ExL.pures 0 rfl ?_)
    refine ExL.free (fr_build rfl rfl rfl rfl) rfl rfl rfl ?_
    refine ExL.op rfl (op_storeC (i := 0) rfl rfl rfl rfl rfl rfl rfl rfl rfl rfl ?_)
    refine ExL.pures 2 rfl ?_
    refine ExL.nil ?_
    refine Ex.nilRow 5 1 ?_
    refine Ex.ret ?_
    refine RetQ.mk (none, 0) rfl (.cell rfl (.many rfl rfl rfl (SegO.whole (i := 1) rfl)) (.tmp rfl (.tmp rfl .nil))) (t3 (by first | (rw [da_no ⟨by assumption, by assumption⟩ (by assumption)]; first | done | rfl) | (rw [da_ok ⟨by assumption, by assumption⟩ (by first | assumption | exact not_not_intro (by assumption))]; first | done | rfl) | (rw [da_ok ⟨by assumption, by assumption⟩ (by first | assumption | exact not_not_intro (by assumption)), (by first | assumption | omega : (doV d a).2.2 = 0)]; first | done | rfl) | (rw [da_bad (by simp_all)]; first | done | rfl)) (by first | (rw [da_no ⟨by assumption, by assumption⟩ (by assumption)]; first | done | rfl) | (rw [da_ok ⟨by assumption, by assumption⟩ (by first | assumption | exact not_not_intro (by assumption))]; first | done | rfl) | (rw [da_ok ⟨by assumption, by assumption⟩ (by first | assumption | exact not_not_intro (by assumption)), (by first | assumption | omega : (doV d a).2.2 = 0)]; first | done | rfl) | (rw [da_bad (by simp_all)]; first | done | rfl)) (by first | (rw [da_no ⟨by assumption, by assumption⟩ (by assumption)]; first | done | rfl) | (rw [da_ok ⟨by assumption, by assumption⟩ (by first | assumption | exact not_not_intro (by assumption))]; first | done | rfl) | (rw [da_ok ⟨by assumption, by assumption⟩ (by first | assumption | exact not_not_intro (by assumption)), (by first | assumption | omega : (doV d a).2.2 = 0)]; first | done | rfl) | (rw [da_bad (by simp_all)]; first | done | rfl))) [0] (by first | (rw [da_no ⟨by assumption, by assumption⟩ (by assumption)]; first | done | rfl) | (rw [da_ok ⟨by assumption, by assumption⟩ (by first | assumption | exact not_not_intro (by assumption))]; first | done | rfl) | (rw [da_ok ⟨by assumption, by assumption⟩ (by first | assumption | exact not_not_intro (by assumption)), (by first | assumption | omega : (doV d a).2.2 = 0)]; first | done | rfl) | (rw [da_bad (by simp_all)]; first | done | rfl)) rfl (trivial)
  · replace hb5 := nb_f hb5
    refine ExL.free (fr_loadN rfl rfl rfl rfl rfl (SegO.whole (i := 1) rfl)) rfl rfl rfl ?_
    refine ExL.op rfl (op_ret rfl rfl rfl (c_l07Act _) (fun _ _ => trivial) rfl rfl (fun x6 hx6 => ?_))
    refine ExL.pures 2 rfl ?_
    refine ExL.nil ?_
    refine Ex.cond rfl (fun hb7 => ?_) (fun hb7 => ?_)
    · replace hb7 := nb_t hb7
      refine Ex.regSeq (ExL.pures 0 rfl ?_)
      refine ExL.free (fr_build rfl rfl rfl rfl) rfl rfl rfl ?_
      refine ExL.op rfl (op_storeC (i := 0) rfl rfl rfl rfl rfl rfl rfl rfl rfl rfl ?_)
      refine ExL.pures 2 rfl ?_
      refine ExL.nil ?_
      refine Ex.nilRow 5 1 ?_
      refine Ex.ret ?_
      refine RetQ.mk (none, 0) rfl (.cell rfl (.many rfl rfl rfl (SegO.whole (i := 1) rfl)) (.tmp rfl (.tmp rfl .nil))) (t3 (by first | (rw [da_no ⟨by assumption, by assumption⟩ (by assumption)]; first | done | rfl) | (rw [da_ok ⟨by assumption, by assumption⟩ (by first | assumption | exact not_not_intro (by assumption))]; first | done | rfl) | (rw [da_ok ⟨by assumption, by assumption⟩ (by first | assumption | exact not_not_intro (by assumption)), (by first | assumption | omega : (doV d a).2.2 = 0)]; first | done | rfl) | (rw [da_bad (by simp_all)]; first | done | rfl)) (by first | (rw [da_no ⟨by assumption, by assumption⟩ (by assumption)]; first | done | rfl) | (rw [da_ok ⟨by assumption, by assumption⟩ (by first | assumption | exact not_not_intro (by assumption))]; first | done | rfl) | (rw [da_ok ⟨by assumption, by assumption⟩ (by first | assumption | exact not_not_intro (by assumption)), (by first | assumption | omega : (doV d a).2.2 = 0)]; first | done | rfl) | (rw [da_bad (by simp_all)]; first | done | rfl)) (by first | (rw [da_no ⟨by assumption, by assumption⟩ (by assumption)]; first | done | rfl) | (rw [da_ok ⟨by assumption, by assumption⟩ (by first | assumption | exact not_not_intro (by assumption))]; first | done | rfl) | (rw [da_ok ⟨by assumption, by assumption⟩ (by first | assumption | exact not_not_intro (by assumption)), (by first | assumption | omega : (doV d a).2.2 = 0)]; first | done | rfl) | (rw [da_bad (by simp_all)]; first | done | rfl))) [0] (by first | (rw [da_no ⟨by assumption, by assumption⟩ (by assumption)]; first | done | rfl) | (rw [da_ok ⟨by assumption, by assumption⟩ (by first | assumption | exact not_not_intro (by assumption))]; first | done | rfl) | (rw [da_ok ⟨by assumption, by assumption⟩ (by first | assumption | exact not_not_intro (by assumption)), (by first | assumption | omega : (doV d a).2.2 = 0)]; first | done | rfl) | (rw [da_bad (by simp_all)]; first | done | rfl)) rfl (trivial)
    · replace hb7 := nb_f hb7
      refine Ex.skip ?_
      refine Ex.regSeq (ExL.pures 0 rfl ?_)
      refine ExL.op rfl (op_ret rfl rfl rfl (c_l07Copy d _ _ _ (by first | assumption | exact (fun e => nomatch e) | (intro e; simp_all)) (by omega)) (fun w hw => ⟨Reads.get (Reads.blk (i := 2) rfl) w hw, Reads.get (Reads.old hd) w hw⟩) rfl rfl (fun x8 hx8 => ?_))
      refine ExL.op rfl (op_alloc rfl rfl rfl rfl rfl (fun b9 => ?_))
      refine ExL.op rfl (op_storeC (i := 0) rfl rfl rfl rfl rfl rfl rfl rfl rfl rfl ?_)
      refine ExL.nil ?_
      refine Ex.regSeq (ExL.pures 0 rfl ?_)
      refine ExL.free (fr_loadN rfl rfl rfl rfl rfl (SegO.whole (i := 3) rfl)) rfl rfl rfl ?_
      refine ExL.op rfl (op_mut rfl rfl rfl (c_l07Do d (by assumption) (by assumption) _ _ _ a (by first | assumption | simp_all)) (perm_lt (i := 0) (j := 1) rfl rfl rfl) (trivial) rfl rfl (fun x10 hx10 => ?_))
      refine ExL.pures 5 rfl ?_
      refine ExL.nil ?_
      refine Ex.seq ?_
      refine Ex.regSeq (ExL.pures 1 rfl ?_)
      refine ExL.neq rfl rfl rfl rfl rfl rfl (fun h11 => ?_) (fun h11 => ?_)
      · refine ExL.nil ?_
        refine Ex.cond_t rfl ?_
        refine Ex.regSeq (ExL.pures 0 rfl ?_)
        refine ExL.free (fr_build rfl rfl rfl rfl) rfl rfl rfl ?_
        refine ExL.pures 1 rfl ?_
        refine ExL.op rfl (op_storeC (i := 2) rfl rfl rfl rfl rfl rfl rfl rfl rfl rfl ?_)
        refine ExL.pures 2 rfl ?_
        refine ExL.nil ?_
        refine Ex.nilRow 5 1 ?_
        refine Ex.ret ?_
        refine RetQ.mk (none, 0) rfl (.cell rfl (.many rfl rfl rfl (SegO.whole (i := 3) rfl)) (.tmp rfl (.tmp rfl .nil))) (t3 (by first | (rw [da_no ⟨by assumption, by assumption⟩ (by assumption)]; first | done | rfl) | (rw [da_ok ⟨by assumption, by assumption⟩ (by first | assumption | exact not_not_intro (by assumption))]; first | done | rfl) | (rw [da_ok ⟨by assumption, by assumption⟩ (by first | assumption | exact not_not_intro (by assumption)), (by first | assumption | omega : (doV d a).2.2 = 0)]; first | done | rfl) | (rw [da_bad (by simp_all)]; first | done | rfl)) (by first | (rw [da_no ⟨by assumption, by assumption⟩ (by assumption)]; first | done | rfl) | (rw [da_ok ⟨by assumption, by assumption⟩ (by first | assumption | exact not_not_intro (by assumption))]; first | done | rfl) | (rw [da_ok ⟨by assumption, by assumption⟩ (by first | assumption | exact not_not_intro (by assumption)), (by first | assumption | omega : (doV d a).2.2 = 0)]; first | done | rfl) | (rw [da_bad (by simp_all)]; first | done | rfl)) (by first | (rw [da_no ⟨by assumption, by assumption⟩ (by assumption)]; first | done | rfl) | (rw [da_ok ⟨by assumption, by assumption⟩ (by first | assumption | exact not_not_intro (by assumption))]; first | done | rfl) | (rw [da_ok ⟨by assumption, by assumption⟩ (by first | assumption | exact not_not_intro (by assumption)), (by first | assumption | omega : (doV d a).2.2 = 0)]; first | done | rfl) | (rw [da_bad (by simp_all)]; first | done | rfl))) [0] (by first | (rw [da_no ⟨by assumption, by assumption⟩ (by assumption)]; first | done | rfl) | (rw [da_ok ⟨by assumption, by assumption⟩ (by first | assumption | exact not_not_intro (by assumption))]; first | done | rfl) | (rw [da_ok ⟨by assumption, by assumption⟩ (by first | assumption | exact not_not_intro (by assumption)), (by first | assumption | omega : (doV d a).2.2 = 0)]; first | done | rfl) | (rw [da_bad (by simp_all)]; first | done | rfl)) rfl (trivial)
      · refine ExL.nil ?_
        refine Ex.cond_f rfl ?_
        refine Ex.skip ?_
        refine Ex.regSeq (ExL.pures 0 rfl ?_)
        refine ExL.free (fr_loadN rfl rfl rfl rfl rfl (SegO.whole (i := 0) rfl)) rfl rfl rfl ?_
        refine ExL.pures 1 rfl ?_
        refine ExL.op rfl (op_storeC (i := 2) rfl rfl rfl rfl rfl rfl rfl rfl rfl rfl ?_)
        refine ExL.pures 2 rfl ?_
        refine ExL.nil ?_
        refine Ex.ret ?_
        refine RetQ.mk (x8.1, x8.2) rfl (.cell rfl (.many rfl rfl rfl (SegO.whole (i := 2) rfl)) (.tmp rfl (.tmp rfl .nil))) (t3 (by first | (rw [da_no ⟨by assumption, by assumption⟩ (by assumption)]; first | done | rfl) | (rw [da_ok ⟨by assumption, by assumption⟩ (by first | assumption | exact not_not_intro (by assumption))]; first | done | rfl) | (rw [da_ok ⟨by assumption, by assumption⟩ (by first | assumption | exact not_not_intro (by assumption)), do_stack]; first | done | rfl) | (rw [da_bad (by simp_all)]; first | done | rfl)) (by first | (rw [da_no ⟨by assumption, by assumption⟩ (by assumption)]; first | done | rfl) | (rw [da_ok ⟨by assumption, by assumption⟩ (by first | assumption | exact not_not_intro (by assumption))]; first | done | rfl) | (rw [da_ok ⟨by assumption, by assumption⟩ (by first | assumption | exact not_not_intro (by assumption)), (by first | assumption | omega : (doV d a).2.2 = 0)]; first | done | rfl) | (rw [da_bad (by simp_all)]; first | done | rfl)) (by first | (rw [da_no ⟨by assumption, by assumption⟩ (by assumption)]; first | done | rfl) | (rw [da_ok ⟨by assumption, by assumption⟩ (by first | assumption | exact not_not_intro (by assumption))]; first | done | rfl) | (rw [da_ok ⟨by assumption, by assumption⟩ (by first | assumption | exact not_not_intro (by assumption)), (by first | assumption | omega : (doV d a).2.2 = 0)]; first | done | rfl) | (rw [da_bad (by simp_all)]; first | done | rfl))) [1] (by first | (rw [da_no ⟨by assumption, by assumption⟩ (by assumption)]; first | done | rfl) | (rw [da_ok ⟨by assumption, by assumption⟩ (by first | assumption | exact not_not_intro (by assumption))]; first | done | rfl) | (rw [da_ok ⟨by assumption, by assumption⟩ (by first | assumption | exact not_not_intro (by assumption)), do_stack]; first | done | rfl) | (rw [da_bad (by simp_all)]; first | done | rfl)) rfl (trivial)
end Go.Proofs.Ytjopackngkfdhaa
