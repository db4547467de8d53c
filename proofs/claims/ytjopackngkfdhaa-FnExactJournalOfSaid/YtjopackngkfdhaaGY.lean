/- What these functions of the program hand back, each proved by walking its operations. -/
import Derived.Test.YtjopackngkfdhaaProg
import Derived.Test.YtjopackngkfdhaaFw
import Derived.Test.YtjopackngkfdhaaGE
import Derived.Test.YtjopackngkfdhaaGD
set_option linter.unusedVariables false
set_option linter.unusedSimpArgs false
set_option maxRecDepth 4000
namespace Go.Proofs.Ytjopackngkfdhaa
open Go Go.Sx Go.RowKit Go.W Go.Proofs
attribute [local irreducible] Ex ExL ExD Op1 Free RetQ MutQ Reads CellO SegO LoadsAs
theorem e_121 : Enters Try.prog 121 := Enters.of Try.func121 rfl
theorem c_until (d : VDev) (hk : OkDev d) (hv : validDev d = true) (Ad : Option Addr) (cd : Nat) (b : Nat) (st : Int) (hst : st = 1 ∨ st = -1) : Ret Try.prog 121 [.pointer (some ⟨b, 0, none⟩), .int .i64 st] (fun w => Rd w (some ⟨b, 0, none⟩) (encV Ad cd d) ∧ Rd w Ad (d.stack.flatMap (eI .u8))) (fun x : Unit => .int .i64 (untilV d st)) (fun x => []) (fun x => True) := by
  refine Ret.of e_121 Try.func121 rfl Try.ntmps121 rfl rfl (fun w hpre => ?_)
  have hp := hpre.1.base
  have hd := hpre.2.base
  obtain ⟨hl, hu, ha, hpp, htt⟩ := hk
  have hO := devOk ha hv
  have hvs : validStack d.stack = true := by unfold validDev at hv; rw [decide_eq_true_iff] at hv; exact hv.1
  have hvd := hO.vd
  have hm0 : maxLen = 9223372036854775807 := rfl
  have hz := sizeS hO
  have hle := hO.stk.le
  have hps := hO.stk.pos
  have hlt : 0 ≤ val d.stack d.shows.l ∧ val d.stack d.shows.l < prod d.stack := hO.v_lt
  have hpr := hO.preset
  have htk := hO.tick
  have hm1 : -1000000000001 ≤ st * (d.preset - val d.stack d.shows.l) ∧ st * (d.preset - val d.stack d.shows.l) ≤ 1000000000001 := by rcases hst with rfl | rfl <;> omega
  have hs2 := size_two hO.stk
  refine Ex.regSeq (ExL.pures 1 rfl ?_)
  refine ExL.nil ?_
  refine Ex.drawSeqM rfl ?_
  refine ExD.take (i := 0) rfl (by kernel_rfl) (pureVal_ok rfl) ((List.Sublist.refl _)) rfl rfl rfl ?_
  refine ExD.take (i := 1) rfl (by kernel_rfl) (pureVal_ok rfl) ((List.Sublist.refl _)) rfl rfl rfl ?_
  refine ExD.take (i := 2) rfl (by kernel_rfl) (pureVal_ok rfl) ((List.Sublist.refl _)) rfl rfl rfl ?_
  refine ExD.take (i := 3) rfl (by kernel_rfl) (pureVal_ok rfl) ((List.Sublist.refl _)) rfl rfl rfl ?_
  refine ExD.take (i := 4) rfl (by kernel_rfl) (fr_load rfl rfl rfl rfl (CellO.at 9 (Reads.old hp) rfl)) ((List.Sublist.refl _)) rfl rfl rfl ?_
  refine ExD.take (i := 5) rfl (by kernel_rfl) (pureVal_ok rfl) ((List.Sublist.refl _)) rfl rfl rfl ?_
  refine ExD.take (i := 6) rfl (by kernel_rfl) (pureVal_ok rfl) ((List.Sublist.refl _)) rfl rfl rfl ?_
  refine ExD.take (i := 7) rfl (by kernel_rfl) (pureVal_ok rfl) ((List.Sublist.refl _)) rfl rfl rfl ?_
  refine ExD.take (i := 8) rfl (by kernel_rfl) (fr_load rfl rfl rfl rfl (CellO.at 0 (Reads.old hp) rfl)) ((List.Sublist.refl _)) rfl rfl rfl ?_
  refine ExD.take (i := 9) rfl (by kernel_rfl) (pureVal_ok rfl) ((List.Sublist.refl _)) rfl rfl rfl ?_
  refine ExD.take (i := 10) rfl (by kernel_rfl) (pureVal_ok rfl) ((List.Sublist.refl _)) rfl rfl rfl ?_
  refine ExD.take (i := 11) rfl (by kernel_rfl) (pureVal_ok rfl) ((List.Sublist.refl _)) rfl rfl rfl ?_
  refine ExD.take (i := 12) rfl (by kernel_rfl) (fr_loadN rfl rfl rfl rfl rfl (SegO.at 1 8 (Reads.old hp) rfl)) ((List.Sublist.refl _)) rfl rfl rfl ?_
  refine ExD.take (i := 16) rfl (by kernel_rfl) (pureVal_ok rfl) ((List.Sublist.refl _)) rfl rfl rfl ?_
  refine ExD.take (i := 17) rfl (by kernel_rfl) (pureVal_ok rfl) ((List.Sublist.refl _)) rfl rfl rfl ?_
  refine ExD.take (i := 18) rfl (by kernel_rfl) (pureVal_ok rfl) ((List.Sublist.refl _)) rfl rfl rfl ?_
  refine ExD.take (i := 19) rfl (by kernel_rfl) (fr_load rfl rfl rfl rfl (CellO.at 0 (Reads.old hp) rfl)) ((List.Sublist.refl _)) rfl rfl rfl ?_
  refine ExD.op (i := 13) rfl (by kernel_rfl) rfl (op_ret rfl rfl rfl (c_value d.stack (by first | assumption | simp_all) _ _ d.shows (by assumption) (by first | assumption | simp_all)) (Reads.get (Reads.old hd)) rfl rfl (fun x1 hx1 => ⟨(List.Sublist.refl _), ?_⟩))
  refine ExD.take (i := 14) rfl (by kernel_rfl) (by first | exact fr_sub64 rfl rfl rfl (by omega) | exact fr_sub rfl rfl rfl) ((List.Sublist.refl _)) rfl rfl rfl ?_
  refine ExD.take (i := 15) rfl (by kernel_rfl) (by first | exact fr_mul64 rfl rfl rfl (by omega) | exact fr_mul rfl rfl rfl) ((List.Sublist.refl _)) rfl rfl rfl ?_
  refine ExD.op (i := 20) rfl (by kernel_rfl) rfl (op_ret rfl rfl rfl (c_size _ (by assumption) _ _ (by first | assumption | omega | (unfold maxLen; omega))) (Reads.get (Reads.old hd)) rfl rfl (fun x2 hx2 => ⟨(List.Sublist.refl _), ?_⟩))
  refine ExD.op (i := 21) rfl (by kernel_rfl) rfl (op_ret rfl rfl rfl (c_wrapped _ _ (by omega) (by omega)) (fun _ _ => trivial) rfl rfl (fun x3 hx3 => ⟨(List.Sublist.refl _), ?_⟩))
  refine ExD.take (i := 22) rfl (by kernel_rfl) (pureVal_ok rfl) ((List.Sublist.refl _)) rfl rfl rfl ?_
  refine ExD.take (i := 23) rfl (by kernel_rfl) (pureVal_ok rfl) ((List.Sublist.refl _)) rfl rfl rfl ?_
  refine ExD.take (i := 24) rfl (by kernel_rfl) (pureVal_ok rfl) ((List.Sublist.refl _)) rfl rfl rfl ?_
  refine ExD.take (i := 25) rfl (by kernel_rfl) (pureVal_ok rfl) ((List.Sublist.refl _)) rfl rfl rfl ?_
  refine ExD.take (i := 26) rfl (by kernel_rfl) (pureVal_ok rfl) ((List.Sublist.refl _)) rfl rfl rfl ?_
  refine ExD.done (by kernel_rfl) ?_
  refine Ex.seq ?_
  refine Ex.regSeq (ExL.pures 1 rfl ?_)
  refine ExL.eql rfl rfl rfl rfl rfl rfl (fun h4 => ?_) (fun h4 => ?_)
  · refine ExL.nil ?_
    refine Ex.cond_t rfl ?_
    refine Ex.regSeq (ExL.pures 3 rfl ?_)
    refine ExL.free (fr_load rfl rfl rfl rfl (CellO.at 0 (Reads.old hp) rfl)) rfl rfl rfl ?_
    refine ExL.op rfl (op_ret rfl rfl rfl (c_size _ (by assumption) _ _ (by first | assumption | omega | (unfold maxLen; omega))) (Reads.get (Reads.old hd)) rfl rfl (fun x5 hx5 => ?_))
    refine ExL.pures 1 rfl ?_
    refine ExL.nil ?_
    refine Ex.ret ?_
    refine RetQ.mk () rfl (.tmp rfl .nil) (tI (by unfold untilV until1 VDev.v; rw [← hz]; first | rw [if_pos (by assumption)] | rw [if_neg (by assumption)])) [] (rfl) rfl (trivial)
  · refine ExL.nil ?_
    refine Ex.cond_f rfl ?_
    refine Ex.skip ?_
    refine Ex.regSeq (ExL.pures 2 rfl ?_)
    refine ExL.nil ?_
    refine Ex.ret ?_
    refine RetQ.mk () rfl (.tmp rfl .nil) (tI (by unfold untilV until1 VDev.v; rw [← hz]; first | rw [if_pos (by assumption)] | rw [if_neg (by assumption)])) [] (rfl) rfl (trivial)
theorem e_120 : Enters Try.prog 120 := Enters.of Try.func120 rfl
theorem c_l07Until (d : VDev) (hk : OkDev d) (hv : validDev d = true) (Ad : Option Addr) (cd : Nat) (b : Nat) (back : Bool) : Ret Try.prog 120 [.pointer (some ⟨b, 0, none⟩), .bool back] (fun w => Rd w (some ⟨b, 0, none⟩) (encV Ad cd d) ∧ Rd w Ad (d.stack.flatMap (eI .u8))) (fun x : Unit => .int .i64 (if d.preset < 0 then -1 else untilV d (bif back then -1 else 1))) (fun x => []) (fun x => True) := by
  refine Ret.of e_120 Try.func120 rfl Try.ntmps120 rfl rfl (fun w hpre => ?_)
  have hp := hpre.1.base
  have hd := hpre.2.base
  obtain ⟨hl, hu, ha, hpp, htt⟩ := hk
  have hO := devOk ha hv
  have hvs : validStack d.stack = true := by unfold validDev at hv; rw [decide_eq_true_iff] at hv; exact hv.1
  have hvd := hO.vd
  have hm0 : maxLen = 9223372036854775807 := rfl
  have hz := sizeS hO
  have hle := hO.stk.le
  have hps := hO.stk.pos
  have hlt : 0 ≤ val d.stack d.shows.l ∧ val d.stack d.shows.l < prod d.stack := hO.v_lt
  have hpr := hO.preset
  have htk := hO.tick
  have hs2 := size_two hO.stk
  refine Ex.regSeq (ExL.pures 1 rfl ?_)
  refine ExL.nil ?_
  refine Ex.seq ?_
  refine Ex.regSeq (ExL.pures 3 rfl ?_)
  refine ExL.free (fr_load rfl rfl rfl rfl (CellO.at 9 (Reads.old hp) rfl)) rfl rfl rfl ?_
  refine ExL.lss rfl rfl rfl rfl rfl rfl (fun h1 => ?_) (fun h1 => ?_)
  · refine ExL.nil ?_
    refine Ex.cond_t rfl ?_
    refine Ex.regSeq (ExL.pures 1 rfl ?_)
    refine ExL.nil ?_
    refine Ex.ret ?_
    refine RetQ.mk () rfl (.tmp rfl .nil) (tI (by first | rw [if_pos (by assumption)] | (rw [if_neg (by assumption)]; subst_vars; (first | rw [un_t] | rw [un_f]); first | (rw [until_small (by omega) (by omega) (by omega)]; omega) | rw [until_big (by omega) (by omega) (by omega)]))) [] (rfl) rfl (trivial)
  · refine ExL.nil ?_
    refine Ex.cond_f rfl ?_
    refine Ex.skip ?_
    refine Ex.drawSeqM rfl ?_
    refine ExD.take (i := 0) rfl (by kernel_rfl) (pureVal_ok rfl) ((List.Sublist.refl _)) rfl rfl rfl ?_
    refine ExD.take (i := 1) rfl (by kernel_rfl) (pureVal_ok rfl) ((List.Sublist.refl _)) rfl rfl rfl ?_
    refine ExD.take (i := 2) rfl (by kernel_rfl) (pureVal_ok rfl) ((List.Sublist.refl _)) rfl rfl rfl ?_
    refine ExD.take (i := 3) rfl (by kernel_rfl) (fr_load rfl rfl rfl rfl (CellO.at 9 (Reads.old hp) rfl)) ((List.Sublist.refl _)) rfl rfl rfl ?_
    refine ExD.take (i := 4) rfl (by kernel_rfl) (pureVal_ok rfl) ((List.Sublist.refl _)) rfl rfl rfl ?_
    refine ExD.take (i := 5) rfl (by kernel_rfl) (pureVal_ok rfl) ((List.Sublist.refl _)) rfl rfl rfl ?_
    refine ExD.take (i := 6) rfl (by kernel_rfl) (pureVal_ok rfl) ((List.Sublist.refl _)) rfl rfl rfl ?_
    refine ExD.take (i := 7) rfl (by kernel_rfl) (fr_load rfl rfl rfl rfl (CellO.at 0 (Reads.old hp) rfl)) ((List.Sublist.refl _)) rfl rfl rfl ?_
    refine ExD.take (i := 8) rfl (by kernel_rfl) (pureVal_ok rfl) ((List.Sublist.refl _)) rfl rfl rfl ?_
    refine ExD.take (i := 9) rfl (by kernel_rfl) (pureVal_ok rfl) ((List.Sublist.refl _)) rfl rfl rfl ?_
    refine ExD.take (i := 10) rfl (by kernel_rfl) (pureVal_ok rfl) ((List.Sublist.refl _)) rfl rfl rfl ?_
    refine ExD.take (i := 11) rfl (by kernel_rfl) (fr_loadN rfl rfl rfl rfl rfl (SegO.at 1 8 (Reads.old hp) rfl)) ((List.Sublist.refl _)) rfl rfl rfl ?_
    refine ExD.op (i := 12) rfl (by kernel_rfl) rfl (op_ret rfl rfl rfl (c_l01Value d.stack (by first | assumption | simp_all) _ _ d.shows (by assumption) (by first | assumption | simp_all)) (Reads.get (Reads.old hd)) rfl rfl (fun x2 hx2 => ⟨(List.Sublist.refl _), ?_⟩))
    refine ExD.take (i := 13) rfl (by kernel_rfl) (by first | exact fr_sub64 rfl rfl rfl (by omega) | exact fr_sub rfl rfl rfl) ((List.Sublist.refl _)) rfl rfl rfl ?_
    refine ExD.take (i := 14) rfl (by kernel_rfl) (pureVal_ok rfl) ((List.Sublist.refl _)) rfl rfl rfl ?_
    refine ExD.done (by kernel_rfl) ?_
    refine Ex.seq ?_
    refine Ex.regSeq (ExL.pures 1 rfl ?_)
    refine ExL.nil ?_
    refine Ex.cond rfl (fun hb3 => ?_) (fun hb3 => ?_)
    · refine Ex.region (ExL.pures 1 rfl ?_)
      refine ExL.free (by first | exact fr_neg64 rfl rfl (by omega) | exact fr_neg rfl rfl) rfl rfl rfl ?_
      refine ExL.pures 1 rfl ?_
      refine ExL.nil ?_
      refine Ex.seq ?_
      refine Ex.regSeq (ExL.pures 1 rfl ?_)
      refine ExL.leq rfl rfl rfl rfl rfl rfl (fun h4 => ?_) (fun h4 => ?_)
      · refine ExL.nil ?_
        refine Ex.cond_t rfl ?_
        refine Ex.region (ExL.pures 4 rfl ?_)
        refine ExL.free (fr_load rfl rfl rfl rfl (CellO.at 0 (Reads.old hp) rfl)) rfl rfl rfl ?_
        refine ExL.op rfl (op_ret rfl rfl rfl (c_l01Size _ (by assumption) _ _ (by first | assumption | omega | (unfold maxLen; omega))) (Reads.get (Reads.old hd)) rfl rfl (fun x5 hx5 => ?_))
        refine ExL.free (by first | exact fr_add64 rfl rfl rfl (by omega) | exact fr_add rfl rfl rfl) rfl rfl rfl ?_
        refine ExL.pures 1 rfl ?_
        refine ExL.nil ?_
        refine Ex.regSeq (ExL.pures 2 rfl ?_)
        refine ExL.nil ?_
        refine Ex.ret ?_
        refine RetQ.mk () rfl (.tmp rfl .nil) (tI (by first | rw [if_pos (by assumption)] | (rw [if_neg (by assumption)]; subst_vars; (first | rw [un_t] | rw [un_f]); first | (rw [until_small (by omega) (by omega) (by omega)]; omega) | rw [until_big (by omega) (by omega) (by omega)]))) [] (rfl) rfl (trivial)
      · refine ExL.nil ?_
        refine Ex.cond_f rfl ?_
        refine Ex.skip ?_
        refine Ex.regSeq (ExL.pures 2 rfl ?_)
        refine ExL.nil ?_
        refine Ex.ret ?_
        refine RetQ.mk () rfl (.tmp rfl .nil) (tI (by first | rw [if_pos (by assumption)] | (rw [if_neg (by assumption)]; subst_vars; (first | rw [un_t] | rw [un_f]); first | (rw [until_small (by omega) (by omega) (by omega)]; omega) | rw [until_big (by omega) (by omega) (by omega)]))) [] (rfl) rfl (trivial)
    · refine Ex.skip ?_
      refine Ex.seq ?_
      refine Ex.regSeq (ExL.pures 1 rfl ?_)
      refine ExL.leq rfl rfl rfl rfl rfl rfl (fun h6 => ?_) (fun h6 => ?_)
      · refine ExL.nil ?_
        refine Ex.cond_t rfl ?_
        refine Ex.region (ExL.pures 4 rfl ?_)
        refine ExL.free (fr_load rfl rfl rfl rfl (CellO.at 0 (Reads.old hp) rfl)) rfl rfl rfl ?_
        refine ExL.op rfl (op_ret rfl rfl rfl (c_l01Size _ (by assumption) _ _ (by first | assumption | omega | (unfold maxLen; omega))) (Reads.get (Reads.old hd)) rfl rfl (fun x7 hx7 => ?_))
        refine ExL.free (by first | exact fr_add64 rfl rfl rfl (by omega) | exact fr_add rfl rfl rfl) rfl rfl rfl ?_
        refine ExL.pures 1 rfl ?_
        refine ExL.nil ?_
        refine Ex.regSeq (ExL.pures 2 rfl ?_)
        refine ExL.nil ?_
        refine Ex.ret ?_
        refine RetQ.mk () rfl (.tmp rfl .nil) (tI (by first | rw [if_pos (by assumption)] | (rw [if_neg (by assumption)]; subst_vars; (first | rw [un_t] | rw [un_f]); first | (rw [until_small (by omega) (by omega) (by omega)]; omega) | rw [until_big (by omega) (by omega) (by omega)]))) [] (rfl) rfl (trivial)
      · refine ExL.nil ?_
        refine Ex.cond_f rfl ?_
        refine Ex.skip ?_
        refine Ex.regSeq (ExL.pures 2 rfl ?_)
        refine ExL.nil ?_
        refine Ex.ret ?_
        refine RetQ.mk () rfl (.tmp rfl .nil) (tI (by first | rw [if_pos (by assumption)] | (rw [if_neg (by assumption)]; subst_vars; (first | rw [un_t] | rw [un_f]); first | (rw [until_small (by omega) (by omega) (by omega)]; omega) | rw [until_big (by omega) (by omega) (by omega)]))) [] (rfl) rfl (trivial)
theorem c_lu_f (d : VDev) (hk : OkDev d) (hv : validDev d = true) (Ad : Option Addr) (cd : Nat) (b : Nat) : Ret Try.prog 120 [.pointer (some ⟨b, 0, none⟩), .bool false] (fun w => Rd w (some ⟨b, 0, none⟩) (encV Ad cd d) ∧ Rd w Ad (d.stack.flatMap (eI .u8))) (fun x : Unit => .int .i64 (untilW d (1))) (fun x => []) (fun x => True) := c_l07Until d hk hv Ad cd b false
theorem c_lu_t (d : VDev) (hk : OkDev d) (hv : validDev d = true) (Ad : Option Addr) (cd : Nat) (b : Nat) : Ret Try.prog 120 [.pointer (some ⟨b, 0, none⟩), .bool true] (fun w => Rd w (some ⟨b, 0, none⟩) (encV Ad cd d) ∧ Rd w Ad (d.stack.flatMap (eI .u8))) (fun x : Unit => .int .i64 (untilW d (-1))) (fun x => []) (fun x => True) := c_l07Until d hk hv Ad cd b true
theorem e_57 : Enters Try.prog 57 := Enters.of Try.func57 rfl
theorem c_iPulsesUntilStop (d : VDev) (hk : OkDev d) (Ad : Option Addr) (cd : Nat) : Ret Try.prog 57 [.agg (encV Ad cd d).toArray] (fun w => Rd w Ad (d.stack.flatMap (eI .u8))) (fun x : Unit => .tuple #[.int .i64 (pulsesV d).1, .int .i64 (pulsesV d).2]) (fun x => []) (fun x => True) := by
  refine Ret.of e_57 Try.func57 rfl Try.ntmps57 rfl rfl (fun w hpre => ?_)
  have hd := hpre.base
  have hk2 := hk
  obtain ⟨hl, hu, ha, hpp, htt⟩ := hk2
  have hm0 : maxLen = 9223372036854775807 := rfl
  refine Ex.regSeq (ExL.pures 0 rfl ?_)
  refine ExL.op rfl (op_box rfl rfl rfl rfl rfl (fun b1 => ?_))
  refine ExL.pures 2 rfl ?_
  refine ExL.nil ?_
  refine Ex.seq ?_
  refine Ex.block ?_
  refine Ex.regSeq (ExL.pures 0 rfl ?_)
  refine ExL.free (fr_loadN rfl rfl rfl rfl rfl (SegO.whole (i := 0) rfl)) rfl rfl rfl ?_
  refine ExL.op rfl (op_ret rfl rfl rfl (c_iValidDevice d (by assumption) _ _) (Reads.get (Reads.old hd)) rfl rfl (fun x2 hx2 => ?_))
  refine ExL.pures 2 rfl ?_
  refine ExL.nil ?_
  refine Ex.cond rfl (fun hb3 => ?_) (fun hb3 => ?_)
  · replace hb3 := nb_t hb3
    refine Ex.regSeq (ExL.pures 2 rfl ?_)
    refine ExL.nil ?_
    refine Ex.ret ?_
    refine RetQ.mk () rfl (.tmp rfl (.tmp rfl .nil)) (t2 (vI (by first | (rw [uw_pos (d := d) (st := 1) (by omega), pu_on (by assumption) (by omega) (by assumption)]) | rw [pu_bad (by assumption)] | rw [pu_neg ha (by assumption) (by omega)] | rw [pu_stop (by assumption) (by omega) (by assumption)] | rw [pu_on (by assumption) (by omega) (by assumption)])) (vI (by first | (rw [uw_pos (d := d) (st := 1) (by omega), pu_on (by assumption) (by omega) (by assumption)]) | rw [pu_bad (by assumption)] | rw [pu_neg ha (by assumption) (by omega)] | rw [pu_stop (by assumption) (by omega) (by assumption)] | rw [pu_on (by assumption) (by omega) (by assumption)]))) [] (rfl) rfl (trivial)
  · replace hb3 := nb_f hb3
    refine Ex.regSeq (ExL.pures 1 rfl ?_)
    refine ExL.free (fr_load rfl rfl rfl rfl (CellO.blk (i := 0) rfl rfl)) rfl rfl rfl ?_
    refine ExL.eql rfl rfl rfl rfl rfl rfl (fun h4 => ?_) (fun h4 => ?_)
    · refine ExL.pures 1 rfl ?_
      refine ExL.nil ?_
      refine Ex.cond_t rfl ?_
      refine Ex.regSeq (ExL.pures 2 rfl ?_)
      refine ExL.nil ?_
      refine Ex.ret ?_
      refine RetQ.mk () rfl (.tmp rfl (.tmp rfl .nil)) (t2 (vI (by first | (rw [uw_pos (d := d) (st := 1) (by omega), pu_on (by assumption) (by omega) (by assumption)]) | rw [pu_bad (by assumption)] | rw [pu_neg ha (by assumption) (by omega)] | rw [pu_stop (by assumption) (by omega) (by assumption)] | rw [pu_on (by assumption) (by omega) (by assumption)])) (vI (by first | (rw [uw_pos (d := d) (st := 1) (by omega), pu_on (by assumption) (by omega) (by assumption)]) | rw [pu_bad (by assumption)] | rw [pu_neg ha (by assumption) (by omega)] | rw [pu_stop (by assumption) (by omega) (by assumption)] | rw [pu_on (by assumption) (by omega) (by assumption)]))) [] (rfl) rfl (trivial)
    · refine ExL.pures 1 rfl ?_
      refine ExL.nil ?_
      refine Ex.cond_f rfl ?_
      refine Ex.regSeq (ExL.pures 1 rfl ?_)
      refine ExL.free (fr_load rfl rfl rfl rfl (CellO.blk (i := 0) rfl rfl)) rfl rfl rfl ?_
      refine ExL.pures 1 rfl ?_
      refine ExL.nil ?_
      refine Ex.cond rfl (fun hb5 => ?_) (fun hb5 => ?_)
      · refine Ex.regSeq (ExL.pures 2 rfl ?_)
        refine ExL.nil ?_
        refine Ex.ret ?_
        refine RetQ.mk () rfl (.tmp rfl (.tmp rfl .nil)) (t2 (vI (by first | (rw [uw_pos (d := d) (st := 1) (by omega), pu_on (by assumption) (by omega) (by assumption)]) | rw [pu_bad (by assumption)] | rw [pu_neg ha (by assumption) (by omega)] | rw [pu_stop (by assumption) (by omega) (by assumption)] | rw [pu_on (by assumption) (by omega) (by assumption)])) (vI (by first | (rw [uw_pos (d := d) (st := 1) (by omega), pu_on (by assumption) (by omega) (by assumption)]) | rw [pu_bad (by assumption)] | rw [pu_neg ha (by assumption) (by omega)] | rw [pu_stop (by assumption) (by omega) (by assumption)] | rw [pu_on (by assumption) (by omega) (by assumption)]))) [] (rfl) rfl (trivial)
      · refine Ex.skip ?_
        refine Ex.regSeq (ExL.pures 0 rfl ?_)
        refine ExL.op rfl (op_ret rfl rfl rfl (c_until d (by first | assumption | exact ⟨by assumption, by assumption, by assumption, by assumption, by assumption⟩) (by assumption) _ _ _ (1) (by first | assumption | decide | omega)) (fun w hw => ⟨Reads.get (Reads.blk (i := 0) rfl) w hw, Reads.get (Reads.old hd) w hw⟩) rfl rfl (fun x6 hx6 => ?_))
        refine ExL.pures 2 rfl ?_
        refine ExL.nil ?_
        refine Ex.ret ?_
        refine RetQ.mk () rfl (.tmp rfl (.tmp rfl .nil)) (t2 (vI (by first | (rw [uw_pos (d := d) (st := 1) (by omega), pu_on (by assumption) (by omega) (by assumption)]) | rw [pu_bad (by assumption)] | rw [pu_neg ha (by assumption) (by omega)] | rw [pu_stop (by assumption) (by omega) (by assumption)] | rw [pu_on (by assumption) (by omega) (by assumption)])) (vI (by first | (rw [uw_pos (d := d) (st := 1) (by omega), pu_on (by assumption) (by omega) (by assumption)]) | rw [pu_bad (by assumption)] | rw [pu_neg ha (by assumption) (by omega)] | rw [pu_stop (by assumption) (by omega) (by assumption)] | rw [pu_on (by assumption) (by omega) (by assumption)]))) [] (rfl) rfl (trivial)
theorem e_56 : Enters Try.prog 56 := Enters.of Try.func56 rfl
theorem c_sPulsesUntilStop (d : VDev) (hk : OkDev d) (Ad : Option Addr) (cd : Nat) : Ret Try.prog 56 [.agg (encV Ad cd d).toArray] (fun w => Rd w Ad (d.stack.flatMap (eI .u8))) (fun x : Unit => .tuple #[.int .i64 (pulsesV d).1, .int .i64 (pulsesV d).2]) (fun x => []) (fun x => True) := by
  refine Ret.of e_56 Try.func56 rfl Try.ntmps56 rfl rfl (fun w hpre => ?_)
  have hd := hpre.base
  have hk2 := hk
  obtain ⟨hl, hu, ha, hpp, htt⟩ := hk2
  have hm0 : maxLen = 9223372036854775807 := rfl
  refine Ex.regSeq (ExL.pures 0 rfl ?_)
  refine ExL.op rfl (op_box rfl rfl rfl rfl rfl (fun b1 => ?_))
  refine ExL.pures 2 rfl ?_
  refine ExL.nil ?_
  refine Ex.seq ?_
  refine Ex.regSeq (ExL.pures 0 rfl ?_)
  refine ExL.op rfl (op_ret rfl rfl rfl (c_l07Ok d (by assumption) _ _ _) (fun w hw => ⟨Reads.get (Reads.blk (i := 0) rfl) w hw, Reads.get (Reads.old hd) w hw⟩) rfl rfl (fun x2 hx2 => ?_))
  refine ExL.pures 1 rfl ?_
  refine ExL.nil ?_
  refine Ex.cond rfl (fun hb3 => ?_) (fun hb3 => ?_)
  · replace hb3 := nb_t hb3
    refine Ex.regSeq (ExL.pures 2 rfl ?_)
    refine ExL.nil ?_
    refine Ex.ret ?_
    refine RetQ.mk () rfl (.tmp rfl (.tmp rfl .nil)) (t2 (vI (by first | (rw [uw_pos (d := d) (st := 1) (by omega), pu_on (by assumption) (by omega) (by assumption)]) | rw [pu_bad (by assumption)] | rw [pu_neg ha (by assumption) (by omega)] | rw [pu_stop (by assumption) (by omega) (by assumption)] | rw [pu_on (by assumption) (by omega) (by assumption)])) (vI (by first | (rw [uw_pos (d := d) (st := 1) (by omega), pu_on (by assumption) (by omega) (by assumption)]) | rw [pu_bad (by assumption)] | rw [pu_neg ha (by assumption) (by omega)] | rw [pu_stop (by assumption) (by omega) (by assumption)] | rw [pu_on (by assumption) (by omega) (by assumption)]))) [] (rfl) rfl (trivial)
  · replace hb3 := nb_f hb3
    refine Ex.skip ?_
    refine Ex.seq ?_
    refine Ex.regSeq (ExL.pures 1 rfl ?_)
    refine ExL.free (fr_load rfl rfl rfl rfl (CellO.blk (i := 0) rfl rfl)) rfl rfl rfl ?_
    refine ExL.lss rfl rfl rfl rfl rfl rfl (fun h4 => ?_) (fun h4 => ?_)
    · refine ExL.nil ?_
      refine Ex.cond_t rfl ?_
      refine Ex.regSeq (ExL.pures 2 rfl ?_)
      refine ExL.nil ?_
      refine Ex.ret ?_
      refine RetQ.mk () rfl (.tmp rfl (.tmp rfl .nil)) (t2 (vI (by first | (rw [uw_pos (d := d) (st := 1) (by omega), pu_on (by assumption) (by omega) (by assumption)]) | rw [pu_bad (by assumption)] | rw [pu_neg ha (by assumption) (by omega)] | rw [pu_stop (by assumption) (by omega) (by assumption)] | rw [pu_on (by assumption) (by omega) (by assumption)])) (vI (by first | (rw [uw_pos (d := d) (st := 1) (by omega), pu_on (by assumption) (by omega) (by assumption)]) | rw [pu_bad (by assumption)] | rw [pu_neg ha (by assumption) (by omega)] | rw [pu_stop (by assumption) (by omega) (by assumption)] | rw [pu_on (by assumption) (by omega) (by assumption)]))) [] (rfl) rfl (trivial)
    · refine ExL.nil ?_
      refine Ex.cond_f rfl ?_
      refine Ex.skip ?_
      refine Ex.seq ?_
      refine Ex.regSeq (ExL.pures 1 rfl ?_)
      refine ExL.free (fr_load rfl rfl rfl rfl (CellO.blk (i := 0) rfl rfl)) rfl rfl rfl ?_
      refine ExL.nil ?_
      refine Ex.cond rfl (fun hb5 => ?_) (fun hb5 => ?_)
      · refine Ex.regSeq (ExL.pures 2 rfl ?_)
        refine ExL.nil ?_
        refine Ex.ret ?_
        refine RetQ.mk () rfl (.tmp rfl (.tmp rfl .nil)) (t2 (vI (by first | (rw [uw_pos (d := d) (st := 1) (by omega), pu_on (by assumption) (by omega) (by assumption)]) | rw [pu_bad (by assumption)] | rw [pu_neg ha (by assumption) (by omega)] | rw [pu_stop (by assumption) (by omega) (by assumption)] | rw [pu_on (by assumption) (by omega) (by assumption)])) (vI (by first | (rw [uw_pos (d := d) (st := 1) (by omega), pu_on (by assumption) (by omega) (by assumption)]) | rw [pu_bad (by assumption)] | rw [pu_neg ha (by assumption) (by omega)] | rw [pu_stop (by assumption) (by omega) (by assumption)] | rw [pu_on (by assumption) (by omega) (by assumption)]))) [] (rfl) rfl (trivial)
      · refine Ex.skip ?_
        refine Ex.regSeq (ExL.pures 0 rfl ?_)
        refine ExL.op rfl (op_ret rfl rfl rfl (c_lu_f d (by first | assumption | exact ⟨by assumption, by assumption, by assumption, by assumption, by assumption⟩) (by assumption) _ _ _) (fun w hw => ⟨Reads.get (Reads.blk (i := 0) rfl) w hw, Reads.get (Reads.old hd) w hw⟩) rfl rfl (fun x6 hx6 => ?_))
        refine ExL.pures 2 rfl ?_
        refine ExL.nil ?_
        refine Ex.ret ?_
        refine RetQ.mk () rfl (.tmp rfl (.tmp rfl .nil)) (t2 (vI (by first | (rw [uw_pos (d := d) (st := 1) (by omega), pu_on (by assumption) (by omega) (by assumption)]) | rw [pu_bad (by assumption)] | rw [pu_neg ha (by assumption) (by omega)] | rw [pu_stop (by assumption) (by omega) (by assumption)] | rw [pu_on (by assumption) (by omega) (by assumption)])) (vI (by first | (rw [uw_pos (d := d) (st := 1) (by omega), pu_on (by assumption) (by omega) (by assumption)]) | rw [pu_bad (by assumption)] | rw [pu_neg ha (by assumption) (by omega)] | rw [pu_stop (by assumption) (by omega) (by assumption)] | rw [pu_on (by assumption) (by omega) (by assumption)]))) [] (rfl) rfl (trivial)
theorem e_152 : Enters Try.prog 152 := Enters.of Try.func152 rfl
theorem c_pulse (d : VDev) (hk : OkDev d) (hv : validDev d = true) (Ad : Option Addr) (cd : Nat) (b : Nat) (n st : Int) (hn : 0 ≤ n ∧ n ≤ 1000000000000) (hst : st = 1 ∨ st = -1) : Mut Try.prog 152 [.pointer (some ⟨b, 0, none⟩), .int .i64 n, .int .i64 st] [.blk b (encV Ad cd d) 38, .row (.slice Ad d.stack.length cd) 5 1 d.stack.length (d.stack.flatMap (eI .u8))] (fun base w0 F => True) (fun x : Unit => .int .i64 (pulseV d n st).2) (fun x => [.blk b (encV Ad cd (pulseV d n st).1) 38, .row (.slice Ad d.stack.length cd) 5 1 d.stack.length (d.stack.flatMap (eI .u8))]) (fun x => True) := by
  refine Mut.of e_152 Try.func152 rfl Try.ntmps152 rfl rfl (fun base w0 F hfr => ?_)
  have hkk := hk
  obtain ⟨hl, hu, ha, hpp, htt⟩ := hk
  have hO := devOk ha hv
  have hvs : validStack d.stack = true := by unfold validDev at hv; rw [decide_eq_true_iff] at hv; exact hv.1
  have hvd := hO.vd
  have hm0 : maxLen = 9223372036854775807 := rfl
  have hz := sizeS hO
  have hle := hO.stk.le
  have hps := hO.stk.pos
  have hlt : 0 ≤ val d.stack d.shows.l ∧ val d.stack d.shows.l < prod d.stack := hO.v_lt
  have hpr := hO.preset
  have htk := hO.tick
  have hub := until_bd hO st
  have hst1 : st * (n - (n - untilV d st)) = st * untilV d st := by rw [show n - (n - untilV d st) = untilV d st by omega]
  have hst2 : st * (n - 0) = st * n := by rw [Int.sub_zero]
  have hst3 : -1000000000000 ≤ st * untilV d st ∧ st * untilV d st ≤ 1000000000000 := by rcases hst with rfl | rfl <;> omega
  have hst4 : -1000000000000 ≤ st * n ∧ st * n ≤ 1000000000000 := by rcases hst with rfl | rfl <;> omega
  refine Ex.regSeq (ExL.pures 1 rfl ?_)
  refine ExL.nil ?_
  refine Ex.regSeq (ExL.pures 1 rfl ?_)
  refine ExL.nil ?_
  refine Ex.seq ?_
  refine Ex.block ?_
  refine Ex.regSeq (ExL.pures 3 rfl ?_)
  refine ExL.free (fr_load rfl rfl rfl rfl (CellO.blk (i := 0) rfl rfl)) rfl rfl rfl ?_
  refine ExL.pures 1 rfl ?_
  refine ExL.nil ?_
  refine Ex.cond rfl (fun hb1 => ?_) (fun hb1 => ?_)
  · refine Ex.regSeq (ExL.pures 2 rfl ?_)
    refine ExL.nil ?_
    refine Ex.ret ?_
    refine MutQ.mk () rfl (.tmp rfl .nil) (tI (by first | (rw [pv_stop (by assumption)]; first | done | rfl) | (rw [pv_hit (by assumption) ⟨by omega, by omega⟩]; first | done | rfl) | (rw [pv_on (by assumption) (by omega)]; first | done | rfl))) 2 [0, 1] (by first | (rw [pv_stop (by assumption)]; first | done | rfl) | (rw [pv_hit (by assumption) ⟨by omega, by omega⟩, ← hst1]; first | done | rfl) | (rw [pv_on (by assumption) (by omega), ← hst2]; first | done | rfl)) rfl (trivial)
  · refine Ex.regSeq (ExL.pures 3 rfl ?_)
    refine ExL.free (fr_load rfl rfl rfl rfl (CellO.blk (i := 0) rfl rfl)) rfl rfl rfl ?_
    refine ExL.neq rfl rfl rfl rfl rfl rfl (fun h2 => ?_) (fun h2 => ?_)
    · refine ExL.pures 4 rfl ?_
      refine ExL.op rfl (op_ret rfl rfl rfl (c_until d (by first | assumption | exact ⟨by assumption, by assumption, by assumption, by assumption, by assumption⟩) (by assumption) _ _ _ (st) (by first | assumption | decide | omega)) (fun w hw => ⟨Reads.get (Reads.blk (i := 0) rfl) w hw, Reads.get (Reads.row (i := 1) rfl) w hw⟩) rfl rfl (fun x3 hx3 => ?_))
      refine ExL.geq rfl rfl rfl rfl rfl rfl (fun h4 => ?_) (fun h4 => ?_)
      · refine ExL.pures 2 rfl ?_
        refine ExL.nil ?_
        refine Ex.cond_t rfl ?_
        refine Ex.regSeq (ExL.pures 3 rfl ?_)
        refine ExL.op rfl (op_ret rfl rfl rfl (c_until d (by first | assumption | exact ⟨by assumption, by assumption, by assumption, by assumption, by assumption⟩) (by assumption) _ _ _ (st) (by first | assumption | decide | omega)) (fun w hw => ⟨Reads.get (Reads.blk (i := 0) rfl) w hw, Reads.get (Reads.row (i := 1) rfl) w hw⟩) rfl rfl (fun x5 hx5 => ?_))
        refine ExL.free (by first | exact fr_sub64 rfl rfl rfl (by omega) | exact fr_sub rfl rfl rfl) rfl rfl rfl ?_
        refine ExL.pures 1 rfl ?_
        refine ExL.nil ?_
        refine Ex.region (ExL.pures 3 rfl ?_)
        refine ExL.op rfl (op_storeC (i := 0) rfl rfl rfl rfl rfl rfl rfl rfl rfl rfl ?_)
        refine ExL.nil ?_
        refine Ex.drawSeqI [1] rfl rfl ?_
        refine ExD.take (i := 0) rfl (by kernel_rfl) (pureVal_ok rfl) ((List.Sublist.cons _ (List.Sublist.cons_cons _ (List.nil_sublist _)))) rfl rfl rfl ?_
        refine ExD.take (i := 1) rfl (by kernel_rfl) (pureVal_ok rfl) ((List.Sublist.cons _ (List.Sublist.cons_cons _ (List.nil_sublist _)))) rfl rfl rfl ?_
        refine ExD.take (i := 2) rfl (by kernel_rfl) (pureVal_ok rfl) ((List.Sublist.cons _ (List.Sublist.cons_cons _ (List.nil_sublist _)))) rfl rfl rfl ?_
        refine ExD.take (i := 3) rfl (by kernel_rfl) (pureVal_ok rfl) ((List.Sublist.cons _ (List.Sublist.cons_cons _ (List.nil_sublist _)))) rfl rfl rfl ?_
        refine ExD.take (i := 5) rfl (by kernel_rfl) (pureVal_ok rfl) ((List.Sublist.cons _ (List.Sublist.cons_cons _ (List.nil_sublist _)))) rfl rfl rfl ?_
        refine ExD.take (i := 6) rfl (by kernel_rfl) (pureVal_ok rfl) ((List.Sublist.cons _ (List.Sublist.cons_cons _ (List.nil_sublist _)))) rfl rfl rfl ?_
        refine ExD.take (i := 7) rfl (by kernel_rfl) (pureVal_ok rfl) ((List.Sublist.cons _ (List.Sublist.cons_cons _ (List.nil_sublist _)))) rfl rfl rfl ?_
        refine ExD.take (i := 9) rfl (by kernel_rfl) (pureVal_ok rfl) ((List.Sublist.cons _ (List.Sublist.cons_cons _ (List.nil_sublist _)))) rfl rfl rfl ?_
        refine ExD.take (i := 10) rfl (by kernel_rfl) (pureVal_ok rfl) ((List.Sublist.cons _ (List.Sublist.cons_cons _ (List.nil_sublist _)))) rfl rfl rfl ?_
        refine ExD.take (i := 11) rfl (by kernel_rfl) (pureVal_ok rfl) ((List.Sublist.cons _ (List.Sublist.cons_cons _ (List.nil_sublist _)))) rfl rfl rfl ?_
        refine ExD.take (i := 12) rfl (by kernel_rfl) (by first | exact fr_sub64 rfl rfl rfl (by omega) | exact fr_sub rfl rfl rfl) ((List.Sublist.cons _ (List.Sublist.cons_cons _ (List.nil_sublist _)))) rfl rfl rfl ?_
        refine ExD.take (i := 13) rfl (by kernel_rfl) (by first | exact fr_mul64 rfl rfl rfl (by omega) | exact fr_mul rfl rfl rfl) ((List.Sublist.cons _ (List.Sublist.cons_cons _ (List.nil_sublist _)))) rfl rfl rfl ?_
        refine ExD.two (i := 4) (j := 8) rfl rfl (by kernel_rfl) (by kernel_rfl) (by kernel_rfl) rfl (List.Sublist.cons _ (List.Sublist.cons_cons _ (List.nil_sublist _))) rfl rfl rfl rfl rfl rfl rfl rfl rfl (fr_load rfl rfl rfl rfl (CellO.blk (i := 0) rfl rfl)) (fr_loadN rfl rfl rfl rfl rfl (SegO.part (i := 0) 8 rfl)) (fr_load rfl rfl rfl rfl (CellO.blk (i := 0) rfl rfl)) (fr_loadN rfl rfl rfl rfl rfl (SegO.part (i := 0) 8 rfl)) ?_
        refine ExD.op (i := 14) rfl (by kernel_rfl) rfl (op_ret rfl rfl rfl (c_added d.stack (by first | assumption | simp_all) _ _ d.shows (by assumption) (by first | assumption | simp_all) (by assumption) _ (by omega)) (Reads.get (Reads.row (i := 1) rfl)) rfl rfl (fun x6 hx6 => ⟨(List.Sublist.cons _ (List.Sublist.cons_cons _ (List.nil_sublist _))), ?_⟩))
        refine ExD.take (i := 15) rfl (by kernel_rfl) (pureVal_ok rfl) ((List.Sublist.cons _ (List.Sublist.cons_cons _ (List.nil_sublist _)))) rfl rfl rfl ?_
        refine ExD.take (i := 16) rfl (by kernel_rfl) (pureVal_ok rfl) ((List.Sublist.cons _ (List.Sublist.cons_cons _ (List.nil_sublist _)))) rfl rfl rfl ?_
        refine ExD.take (i := 17) rfl (by kernel_rfl) (pureVal_ok rfl) ((List.Sublist.cons _ (List.Sublist.cons_cons _ (List.nil_sublist _)))) rfl rfl rfl ?_
        refine ExD.take (i := 18) rfl (by kernel_rfl) (pureVal_ok rfl) ((List.Sublist.cons _ (List.Sublist.cons_cons _ (List.nil_sublist _)))) rfl rfl rfl ?_
        refine ExD.take (i := 19) rfl (by kernel_rfl) (pureVal_ok rfl) ((List.Sublist.cons _ (List.Sublist.cons_cons _ (List.nil_sublist _)))) rfl rfl rfl ?_
        refine ExD.op (i := 20) rfl (by kernel_rfl) rfl (op_storeC (i := 0) rfl rfl rfl rfl rfl rfl rfl rfl rfl rfl ⟨(List.Sublist.cons _ (List.Sublist.cons_cons _ (List.nil_sublist _))), ?_⟩)
        refine ExD.done (by kernel_rfl) ?_
        refine Ex.regSeq (ExL.pures 2 rfl ?_)
        refine ExL.nil ?_
        refine Ex.ret ?_
        refine MutQ.mk () rfl (.tmp rfl .nil) (tI (by first | (rw [pv_stop (by assumption)]; first | done | rfl) | (rw [pv_hit (by assumption) ⟨by omega, by omega⟩]; first | done | rfl) | (rw [pv_on (by assumption) (by omega)]; first | done | rfl))) 2 [0, 1] (by first | (rw [pv_stop (by assumption)]; first | done | rfl) | (rw [pv_hit (by assumption) ⟨by omega, by omega⟩, ← hst1]; first | done | rfl) | (rw [pv_on (by assumption) (by omega), ← hst2]; first | done | rfl)) rfl (trivial)
      · refine ExL.pures 2 rfl ?_
        refine ExL.nil ?_
        refine Ex.cond_f rfl ?_
        refine Ex.skip ?_
        refine Ex.drawSeqI [1] rfl rfl ?_
        refine ExD.take (i := 0) rfl (by kernel_rfl) (pureVal_ok rfl) ((List.Sublist.cons _ (List.Sublist.cons_cons _ (List.nil_sublist _)))) rfl rfl rfl ?_
        refine ExD.take (i := 1) rfl (by kernel_rfl) (pureVal_ok rfl) ((List.Sublist.cons _ (List.Sublist.cons_cons _ (List.nil_sublist _)))) rfl rfl rfl ?_
        refine ExD.take (i := 2) rfl (by kernel_rfl) (pureVal_ok rfl) ((List.Sublist.cons _ (List.Sublist.cons_cons _ (List.nil_sublist _)))) rfl rfl rfl ?_
        refine ExD.take (i := 3) rfl (by kernel_rfl) (pureVal_ok rfl) ((List.Sublist.cons _ (List.Sublist.cons_cons _ (List.nil_sublist _)))) rfl rfl rfl ?_
        refine ExD.take (i := 5) rfl (by kernel_rfl) (pureVal_ok rfl) ((List.Sublist.cons _ (List.Sublist.cons_cons _ (List.nil_sublist _)))) rfl rfl rfl ?_
        refine ExD.take (i := 6) rfl (by kernel_rfl) (pureVal_ok rfl) ((List.Sublist.cons _ (List.Sublist.cons_cons _ (List.nil_sublist _)))) rfl rfl rfl ?_
        refine ExD.take (i := 7) rfl (by kernel_rfl) (pureVal_ok rfl) ((List.Sublist.cons _ (List.Sublist.cons_cons _ (List.nil_sublist _)))) rfl rfl rfl ?_
        refine ExD.take (i := 9) rfl (by kernel_rfl) (pureVal_ok rfl) ((List.Sublist.cons _ (List.Sublist.cons_cons _ (List.nil_sublist _)))) rfl rfl rfl ?_
        refine ExD.take (i := 10) rfl (by kernel_rfl) (pureVal_ok rfl) ((List.Sublist.cons _ (List.Sublist.cons_cons _ (List.nil_sublist _)))) rfl rfl rfl ?_
        refine ExD.take (i := 11) rfl (by kernel_rfl) (pureVal_ok rfl) ((List.Sublist.cons _ (List.Sublist.cons_cons _ (List.nil_sublist _)))) rfl rfl rfl ?_
        refine ExD.take (i := 12) rfl (by kernel_rfl) (by first | exact fr_sub64 rfl rfl rfl (by omega) | exact fr_sub rfl rfl rfl) ((List.Sublist.cons _ (List.Sublist.cons_cons _ (List.nil_sublist _)))) rfl rfl rfl ?_
        refine ExD.take (i := 13) rfl (by kernel_rfl) (by first | exact fr_mul64 rfl rfl rfl (by omega) | exact fr_mul rfl rfl rfl) ((List.Sublist.cons _ (List.Sublist.cons_cons _ (List.nil_sublist _)))) rfl rfl rfl ?_
        refine ExD.two (i := 4) (j := 8) rfl rfl (by kernel_rfl) (by kernel_rfl) (by kernel_rfl) rfl (List.Sublist.cons _ (List.Sublist.cons_cons _ (List.nil_sublist _))) rfl rfl rfl rfl rfl rfl rfl rfl rfl (fr_load rfl rfl rfl rfl (CellO.blk (i := 0) rfl rfl)) (fr_loadN rfl rfl rfl rfl rfl (SegO.part (i := 0) 8 rfl)) (fr_load rfl rfl rfl rfl (CellO.blk (i := 0) rfl rfl)) (fr_loadN rfl rfl rfl rfl rfl (SegO.part (i := 0) 8 rfl)) ?_
        refine ExD.op (i := 14) rfl (by kernel_rfl) rfl (op_ret rfl rfl rfl (c_added d.stack (by first | assumption | simp_all) _ _ d.shows (by assumption) (by first | assumption | simp_all) (by assumption) _ (by omega)) (Reads.get (Reads.row (i := 1) rfl)) rfl rfl (fun x7 hx7 => ⟨(List.Sublist.cons _ (List.Sublist.cons_cons _ (List.nil_sublist _))), ?_⟩))
        refine ExD.take (i := 15) rfl (by kernel_rfl) (pureVal_ok rfl) ((List.Sublist.cons _ (List.Sublist.cons_cons _ (List.nil_sublist _)))) rfl rfl rfl ?_
        refine ExD.take (i := 16) rfl (by kernel_rfl) (pureVal_ok rfl) ((List.Sublist.cons _ (List.Sublist.cons_cons _ (List.nil_sublist _)))) rfl rfl rfl ?_
        refine ExD.take (i := 17) rfl (by kernel_rfl) (pureVal_ok rfl) ((List.Sublist.cons _ (List.Sublist.cons_cons _ (List.nil_sublist _)))) rfl rfl rfl ?_
        refine ExD.take (i := 18) rfl (by kernel_rfl) (pureVal_ok rfl) ((List.Sublist.cons _ (List.Sublist.cons_cons _ (List.nil_sublist _)))) rfl rfl rfl ?_
        refine ExD.take (i := 19) rfl (by kernel_rfl) (pureVal_ok rfl) ((List.Sublist.cons _ (List.Sublist.cons_cons _ (List.nil_sublist _)))) rfl rfl rfl ?_
        refine ExD.op (i := 20) rfl (by kernel_rfl) rfl (op_storeC (i := 0) rfl rfl rfl rfl rfl rfl rfl rfl rfl rfl ⟨(List.Sublist.cons _ (List.Sublist.cons_cons _ (List.nil_sublist _))), ?_⟩)
        refine ExD.done (by kernel_rfl) ?_
        refine Ex.regSeq (ExL.pures 2 rfl ?_)
        refine ExL.nil ?_
        refine Ex.ret ?_
        refine MutQ.mk () rfl (.tmp rfl .nil) (tI (by first | (rw [pv_stop (by assumption)]; first | done | rfl) | (rw [pv_hit (by assumption) ⟨by omega, by omega⟩]; first | done | rfl) | (rw [pv_on (by assumption) (by omega)]; first | done | rfl))) 2 [0, 1] (by first | (rw [pv_stop (by assumption)]; first | done | rfl) | (rw [pv_hit (by assumption) ⟨by omega, by omega⟩, ← hst1]; first | done | rfl) | (rw [pv_on (by assumption) (by omega), ← hst2]; first | done | rfl)) rfl (trivial)
    · refine ExL.pures 8 rfl ?_
      refine ExL.nil ?_
      refine Ex.cond_f rfl ?_
      refine Ex.skip ?_
      refine Ex.drawSeqI [1] rfl rfl ?_
      refine ExD.take (i := 0) rfl (by kernel_rfl) (pureVal_ok rfl) ((List.Sublist.cons _ (List.Sublist.cons_cons _ (List.nil_sublist _)))) rfl rfl rfl ?_
      refine ExD.take (i := 1) rfl (by kernel_rfl) (pureVal_ok rfl) ((List.Sublist.cons _ (List.Sublist.cons_cons _ (List.nil_sublist _)))) rfl rfl rfl ?_
      refine ExD.take (i := 2) rfl (by kernel_rfl) (pureVal_ok rfl) ((List.Sublist.cons _ (List.Sublist.cons_cons _ (List.nil_sublist _)))) rfl rfl rfl ?_
      refine ExD.take (i := 3) rfl (by kernel_rfl) (pureVal_ok rfl) ((List.Sublist.cons _ (List.Sublist.cons_cons _ (List.nil_sublist _)))) rfl rfl rfl ?_
      refine ExD.take (i := 5) rfl (by kernel_rfl) (pureVal_ok rfl) ((List.Sublist.cons _ (List.Sublist.cons_cons _ (List.nil_sublist _)))) rfl rfl rfl ?_
      refine ExD.take (i := 6) rfl (by kernel_rfl) (pureVal_ok rfl) ((List.Sublist.cons _ (List.Sublist.cons_cons _ (List.nil_sublist _)))) rfl rfl rfl ?_
      refine ExD.take (i := 7) rfl (by kernel_rfl) (pureVal_ok rfl) ((List.Sublist.cons _ (List.Sublist.cons_cons _ (List.nil_sublist _)))) rfl rfl rfl ?_
      refine ExD.take (i := 9) rfl (by kernel_rfl) (pureVal_ok rfl) ((List.Sublist.cons _ (List.Sublist.cons_cons _ (List.nil_sublist _)))) rfl rfl rfl ?_
      refine ExD.take (i := 10) rfl (by kernel_rfl) (pureVal_ok rfl) ((List.Sublist.cons _ (List.Sublist.cons_cons _ (List.nil_sublist _)))) rfl rfl rfl ?_
      refine ExD.take (i := 11) rfl (by kernel_rfl) (pureVal_ok rfl) ((List.Sublist.cons _ (List.Sublist.cons_cons _ (List.nil_sublist _)))) rfl rfl rfl ?_
      refine ExD.take (i := 12) rfl (by kernel_rfl) (by first | exact fr_sub64 rfl rfl rfl (by omega) | exact fr_sub rfl rfl rfl) ((List.Sublist.cons _ (List.Sublist.cons_cons _ (List.nil_sublist _)))) rfl rfl rfl ?_
      refine ExD.take (i := 13) rfl (by kernel_rfl) (by first | exact fr_mul64 rfl rfl rfl (by omega) | exact fr_mul rfl rfl rfl) ((List.Sublist.cons _ (List.Sublist.cons_cons _ (List.nil_sublist _)))) rfl rfl rfl ?_
      refine ExD.two (i := 4) (j := 8) rfl rfl (by kernel_rfl) (by kernel_rfl) (by kernel_rfl) rfl (List.Sublist.cons _ (List.Sublist.cons_cons _ (List.nil_sublist _))) rfl rfl rfl rfl rfl rfl rfl rfl rfl (fr_load rfl rfl rfl rfl (CellO.blk (i := 0) rfl rfl)) (fr_loadN rfl rfl rfl rfl rfl (SegO.part (i := 0) 8 rfl)) (fr_load rfl rfl rfl rfl (CellO.blk (i := 0) rfl rfl)) (fr_loadN rfl rfl rfl rfl rfl (SegO.part (i := 0) 8 rfl)) ?_
      refine ExD.op (i := 14) rfl (by kernel_rfl) rfl (op_ret rfl rfl rfl (c_added d.stack (by first | assumption | simp_all) _ _ d.shows (by assumption) (by first | assumption | simp_all) (by assumption) _ (by omega)) (Reads.get (Reads.row (i := 1) rfl)) rfl rfl (fun x8 hx8 => ⟨(List.Sublist.cons _ (List.Sublist.cons_cons _ (List.nil_sublist _))), ?_⟩))
      refine ExD.take (i := 15) rfl (by kernel_rfl) (pureVal_ok rfl) ((List.Sublist.cons _ (List.Sublist.cons_cons _ (List.nil_sublist _)))) rfl rfl rfl ?_
      refine ExD.take (i := 16) rfl (by kernel_rfl) (pureVal_ok rfl) ((List.Sublist.cons _ (List.Sublist.cons_cons _ (List.nil_sublist _)))) rfl rfl rfl ?_
      refine ExD.take (i := 17) rfl (by kernel_rfl) (pureVal_ok rfl) ((List.Sublist.cons _ (List.Sublist.cons_cons _ (List.nil_sublist _)))) rfl rfl rfl ?_
      refine ExD.take (i := 18) rfl (by kernel_rfl) (pureVal_ok rfl) ((List.Sublist.cons _ (List.Sublist.cons_cons _ (List.nil_sublist _)))) rfl rfl rfl ?_
      refine ExD.take (i := 19) rfl (by kernel_rfl) (pureVal_ok rfl) ((List.Sublist.cons _ (List.Sublist.cons_cons _ (List.nil_sublist _)))) rfl rfl rfl ?_
      refine ExD.op (i := 20) rfl (by kernel_rfl) rfl (op_storeC (i := 0) rfl rfl rfl rfl rfl rfl rfl rfl rfl rfl ⟨(List.Sublist.cons _ (List.Sublist.cons_cons _ (List.nil_sublist _))), ?_⟩)
      refine ExD.done (by kernel_rfl) ?_
      refine Ex.regSeq (ExL.pures 2 rfl ?_)
      refine ExL.nil ?_
      refine Ex.ret ?_
      refine MutQ.mk () rfl (.tmp rfl .nil) (tI (by first | (rw [pv_stop (by assumption)]; first | done | rfl) | (rw [pv_hit (by assumption) ⟨by omega, by omega⟩]; first | done | rfl) | (rw [pv_on (by assumption) (by omega)]; first | done | rfl))) 2 [0, 1] (by first | (rw [pv_stop (by assumption)]; first | done | rfl) | (rw [pv_hit (by assumption) ⟨by omega, by omega⟩, ← hst1]; first | done | rfl) | (rw [pv_on (by assumption) (by omega), ← hst2]; first | done | rfl)) rfl (trivial)
theorem e_151 : Enters Try.prog 151 := Enters.of Try.func151 rfl
theorem c_l07Count_f (d : VDev) (hk : OkDev d) (hv : validDev d = true) (Ad : Option Addr) (cd : Nat) (b : Nat) (n : Int) (hn : 0 ≤ n ∧ n ≤ 1000000000000) : Mut Try.prog 151 [.pointer (some ⟨b, 0, none⟩), .int .i64 n, .bool false] [.blk b (encV Ad cd d) 38, .row (.slice Ad d.stack.length cd) 5 1 d.stack.length (d.stack.flatMap (eI .u8))] (fun base w0 F => True) (fun x : Unit => .int .i64 (pulseV d n (1)).2) (fun x => [.blk b (encV Ad cd (pulseV d n (1)).1) 38, .row (.slice Ad d.stack.length cd) 5 1 d.stack.length (d.stack.flatMap (eI .u8))]) (fun x => True) := by
  refine Mut.of e_151 Try.func151 rfl Try.ntmps151 rfl rfl (fun base w0 F hfr => ?_)
  have hkk := hk
  obtain ⟨hl, hu, ha, hpp, htt⟩ := hk
  have hO := devOk ha hv
  have hvs : validStack d.stack = true := by unfold validDev at hv; rw [decide_eq_true_iff] at hv; exact hv.1
  have hvd := hO.vd
  have hm0 : maxLen = 9223372036854775807 := rfl
  have hz := sizeS hO
  have hle := hO.stk.le
  have hps := hO.stk.pos
  have hlt : 0 ≤ val d.stack d.shows.l ∧ val d.stack d.shows.l < prod d.stack := hO.v_lt
  have hpr := hO.preset
  have htk := hO.tick
  have hub := until_bd hO (1)
  have huw := uw (d := d) (st := 1)
  refine Ex.regSeq (ExL.pures 1 rfl ?_)
  refine ExL.nil ?_
  refine Ex.seq ?_
  refine Ex.regSeq (ExL.pures 3 rfl ?_)
  refine ExL.free (fr_load rfl rfl rfl rfl (CellO.blk (i := 0) rfl rfl)) rfl rfl rfl ?_
  refine ExL.nil ?_
  refine Ex.cond rfl (fun hb1 => ?_) (fun hb1 => ?_)
  · refine Ex.regSeq (ExL.pures 2 rfl ?_)
    refine ExL.nil ?_
    refine Ex.ret ?_
    refine MutQ.mk () rfl (.tmp rfl .nil) (tI (by first | (rw [pv_stop (by assumption)]; first | done | rfl) | (rw [uw_pos (d := d) (st := 1) (by omega), pv_hit (by assumption) ⟨by omega, by omega⟩]; first | done | rfl) | (rw [pv_on (by assumption) (by omega)]; first | done | rfl))) 2 [0, 1] (by first | (rw [pv_stop (by assumption)]; first | done | rfl) | (rw [uw_pos (d := d) (st := 1) (by omega), pv_hit (by assumption) ⟨by omega, by omega⟩, Int.one_mul]; first | done | rfl) | (rw [pv_on (by assumption) (by omega), Int.one_mul]; first | done | rfl)) rfl (trivial)
  · refine Ex.skip ?_
    refine Ex.regSeq (ExL.pures 2 rfl ?_)
    refine ExL.op rfl (op_ret rfl rfl rfl (c_lu_f d (by first | assumption | exact ⟨by assumption, by assumption, by assumption, by assumption, by assumption⟩) (by assumption) _ _ _) (fun w hw => ⟨Reads.get (Reads.blk (i := 0) rfl) w hw, Reads.get (Reads.row (i := 1) rfl) w hw⟩) rfl rfl (fun x2 hx2 => ?_))
    refine ExL.pures 1 rfl ?_
    refine ExL.nil ?_
    refine Ex.regSeq (ExL.pures 1 rfl ?_)
    refine ExL.nil ?_
    refine Ex.seq ?_
    refine Ex.regSeq (ExL.pures 1 rfl ?_)
    refine ExL.geq rfl rfl rfl rfl rfl rfl (fun h3 => ?_) (fun h3 => ?_)
    · refine ExL.pures 3 rfl ?_
      refine ExL.geq rfl rfl rfl rfl rfl rfl (fun h4 => ?_) (fun h4 => ?_)
      · refine ExL.pures 1 rfl ?_
        refine ExL.nil ?_
        refine Ex.cond_t rfl ?_
        refine Ex.regSeq (ExL.pures 2 rfl ?_)
        refine ExL.free (by first | exact fr_sub64 rfl rfl rfl (by omega) | exact fr_sub rfl rfl rfl) rfl rfl rfl ?_
        refine ExL.pures 1 rfl ?_
        refine ExL.nil ?_
        refine Ex.regSeq (ExL.pures 2 rfl ?_)
        refine ExL.nil ?_
        refine Ex.region (ExL.pures 3 rfl ?_)
        refine ExL.op rfl (op_storeC (i := 0) rfl rfl rfl rfl rfl rfl rfl rfl rfl rfl ?_)
        refine ExL.nil ?_
        refine Ex.seq ?_
        refine Ex.regSeq (ExL.pures 1 rfl ?_)
        refine ExL.nil ?_
        refine Ex.cond_f rfl ?_
        refine Ex.skip ?_
        refine Ex.drawSeqI [1] rfl rfl ?_
        refine ExD.take (i := 0) rfl (by kernel_rfl) (pureVal_ok rfl) ((List.Sublist.cons _ (List.Sublist.cons_cons _ (List.nil_sublist _)))) rfl rfl rfl ?_
        refine ExD.take (i := 1) rfl (by kernel_rfl) (pureVal_ok rfl) ((List.Sublist.cons _ (List.Sublist.cons_cons _ (List.nil_sublist _)))) rfl rfl rfl ?_
        refine ExD.take (i := 2) rfl (by kernel_rfl) (pureVal_ok rfl) ((List.Sublist.cons _ (List.Sublist.cons_cons _ (List.nil_sublist _)))) rfl rfl rfl ?_
        refine ExD.take (i := 3) rfl (by kernel_rfl) (pureVal_ok rfl) ((List.Sublist.cons _ (List.Sublist.cons_cons _ (List.nil_sublist _)))) rfl rfl rfl ?_
        refine ExD.take (i := 5) rfl (by kernel_rfl) (pureVal_ok rfl) ((List.Sublist.cons _ (List.Sublist.cons_cons _ (List.nil_sublist _)))) rfl rfl rfl ?_
        refine ExD.take (i := 6) rfl (by kernel_rfl) (pureVal_ok rfl) ((List.Sublist.cons _ (List.Sublist.cons_cons _ (List.nil_sublist _)))) rfl rfl rfl ?_
        refine ExD.take (i := 7) rfl (by kernel_rfl) (pureVal_ok rfl) ((List.Sublist.cons _ (List.Sublist.cons_cons _ (List.nil_sublist _)))) rfl rfl rfl ?_
        refine ExD.take (i := 9) rfl (by kernel_rfl) (pureVal_ok rfl) ((List.Sublist.cons _ (List.Sublist.cons_cons _ (List.nil_sublist _)))) rfl rfl rfl ?_
        refine ExD.two (i := 4) (j := 8) rfl rfl (by kernel_rfl) (by kernel_rfl) (by kernel_rfl) rfl (List.Sublist.cons _ (List.Sublist.cons_cons _ (List.nil_sublist _))) rfl rfl rfl rfl rfl rfl rfl rfl rfl (fr_load rfl rfl rfl rfl (CellO.blk (i := 0) rfl rfl)) (fr_loadN rfl rfl rfl rfl rfl (SegO.part (i := 0) 8 rfl)) (fr_load rfl rfl rfl rfl (CellO.blk (i := 0) rfl rfl)) (fr_loadN rfl rfl rfl rfl rfl (SegO.part (i := 0) 8 rfl)) ?_
        refine ExD.op (i := 10) rfl (by kernel_rfl) rfl (op_ret rfl rfl rfl (c_l01Add d.stack (by first | assumption | simp_all) _ _ d.shows (by assumption) (by first | assumption | simp_all) (by assumption) _ (by omega)) (Reads.get (Reads.row (i := 1) rfl)) rfl rfl (fun x5 hx5 => ⟨(List.Sublist.cons _ (List.Sublist.cons_cons _ (List.nil_sublist _))), ?_⟩))
        refine ExD.take (i := 11) rfl (by kernel_rfl) (pureVal_ok rfl) ((List.Sublist.cons _ (List.Sublist.cons_cons _ (List.nil_sublist _)))) rfl rfl rfl ?_
        refine ExD.take (i := 12) rfl (by kernel_rfl) (pureVal_ok rfl) ((List.Sublist.cons _ (List.Sublist.cons_cons _ (List.nil_sublist _)))) rfl rfl rfl ?_
        refine ExD.take (i := 13) rfl (by kernel_rfl) (pureVal_ok rfl) ((List.Sublist.cons _ (List.Sublist.cons_cons _ (List.nil_sublist _)))) rfl rfl rfl ?_
        refine ExD.take (i := 14) rfl (by kernel_rfl) (pureVal_ok rfl) ((List.Sublist.cons _ (List.Sublist.cons_cons _ (List.nil_sublist _)))) rfl rfl rfl ?_
        refine ExD.take (i := 15) rfl (by kernel_rfl) (pureVal_ok rfl) ((List.Sublist.cons _ (List.Sublist.cons_cons _ (List.nil_sublist _)))) rfl rfl rfl ?_
        refine ExD.op (i := 16) rfl (by kernel_rfl) rfl (op_storeC (i := 0) rfl rfl rfl rfl rfl rfl rfl rfl rfl rfl ⟨(List.Sublist.cons _ (List.Sublist.cons_cons _ (List.nil_sublist _))), ?_⟩)
        refine ExD.done (by kernel_rfl) ?_
        refine Ex.regSeq (ExL.pures 2 rfl ?_)
        refine ExL.nil ?_
        refine Ex.ret ?_
        refine MutQ.mk () rfl (.tmp rfl .nil) (tI (by first | (rw [pv_stop (by assumption)]; first | done | rfl) | (rw [uw_pos (d := d) (st := 1) (by omega), pv_hit (by assumption) ⟨by omega, by omega⟩]; first | done | rfl) | (rw [pv_on (by assumption) (by omega)]; first | done | rfl))) 2 [0, 1] (by first | (rw [pv_stop (by assumption)]; first | done | rfl) | (rw [uw_pos (d := d) (st := 1) (by omega), pv_hit (by assumption) ⟨by omega, by omega⟩, Int.one_mul]; first | done | rfl) | (rw [pv_on (by assumption) (by omega), Int.one_mul]; first | done | rfl)) rfl (trivial)
      · refine ExL.pures 1 rfl ?_
        refine ExL.nil ?_
        refine Ex.cond_f rfl ?_
        refine Ex.skip ?_
        refine Ex.seq ?_
        refine Ex.regSeq (ExL.pures 1 rfl ?_)
        refine ExL.nil ?_
        refine Ex.cond_f rfl ?_
        refine Ex.skip ?_
        refine Ex.drawSeqI [1] rfl rfl ?_
        refine ExD.take (i := 0) rfl (by kernel_rfl) (pureVal_ok rfl) ((List.Sublist.cons _ (List.Sublist.cons_cons _ (List.nil_sublist _)))) rfl rfl rfl ?_
        refine ExD.take (i := 1) rfl (by kernel_rfl) (pureVal_ok rfl) ((List.Sublist.cons _ (List.Sublist.cons_cons _ (List.nil_sublist _)))) rfl rfl rfl ?_
        refine ExD.take (i := 2) rfl (by kernel_rfl) (pureVal_ok rfl) ((List.Sublist.cons _ (List.Sublist.cons_cons _ (List.nil_sublist _)))) rfl rfl rfl ?_
        refine ExD.take (i := 3) rfl (by kernel_rfl) (pureVal_ok rfl) ((List.Sublist.cons _ (List.Sublist.cons_cons _ (List.nil_sublist _)))) rfl rfl rfl ?_
        refine ExD.take (i := 5) rfl (by kernel_rfl) (pureVal_ok rfl) ((List.Sublist.cons _ (List.Sublist.cons_cons _ (List.nil_sublist _)))) rfl rfl rfl ?_
        refine ExD.take (i := 6) rfl (by kernel_rfl) (pureVal_ok rfl) ((List.Sublist.cons _ (List.Sublist.cons_cons _ (List.nil_sublist _)))) rfl rfl rfl ?_
        refine ExD.take (i := 7) rfl (by kernel_rfl) (pureVal_ok rfl) ((List.Sublist.cons _ (List.Sublist.cons_cons _ (List.nil_sublist _)))) rfl rfl rfl ?_
        refine ExD.take (i := 9) rfl (by kernel_rfl) (pureVal_ok rfl) ((List.Sublist.cons _ (List.Sublist.cons_cons _ (List.nil_sublist _)))) rfl rfl rfl ?_
        refine ExD.two (i := 4) (j := 8) rfl rfl (by kernel_rfl) (by kernel_rfl) (by kernel_rfl) rfl (List.Sublist.cons _ (List.Sublist.cons_cons _ (List.nil_sublist _))) rfl rfl rfl rfl rfl rfl rfl rfl rfl (fr_load rfl rfl rfl rfl (CellO.blk (i := 0) rfl rfl)) (fr_loadN rfl rfl rfl rfl rfl (SegO.part (i := 0) 8 rfl)) (fr_load rfl rfl rfl rfl (CellO.blk (i := 0) rfl rfl)) (fr_loadN rfl rfl rfl rfl rfl (SegO.part (i := 0) 8 rfl)) ?_
        refine ExD.op (i := 10) rfl (by kernel_rfl) rfl (op_ret rfl rfl rfl (c_l01Add d.stack (by first | assumption | simp_all) _ _ d.shows (by assumption) (by first | assumption | simp_all) (by assumption) _ (by omega)) (Reads.get (Reads.row (i := 1) rfl)) rfl rfl (fun x6 hx6 => ⟨(List.Sublist.cons _ (List.Sublist.cons_cons _ (List.nil_sublist _))), ?_⟩))
        refine ExD.take (i := 11) rfl (by kernel_rfl) (pureVal_ok rfl) ((List.Sublist.cons _ (List.Sublist.cons_cons _ (List.nil_sublist _)))) rfl rfl rfl ?_
        refine ExD.take (i := 12) rfl (by kernel_rfl) (pureVal_ok rfl) ((List.Sublist.cons _ (List.Sublist.cons_cons _ (List.nil_sublist _)))) rfl rfl rfl ?_
        refine ExD.take (i := 13) rfl (by kernel_rfl) (pureVal_ok rfl) ((List.Sublist.cons _ (List.Sublist.cons_cons _ (List.nil_sublist _)))) rfl rfl rfl ?_
        refine ExD.take (i := 14) rfl (by kernel_rfl) (pureVal_ok rfl) ((List.Sublist.cons _ (List.Sublist.cons_cons _ (List.nil_sublist _)))) rfl rfl rfl ?_
        refine ExD.take (i := 15) rfl (by kernel_rfl) (pureVal_ok rfl) ((List.Sublist.cons _ (List.Sublist.cons_cons _ (List.nil_sublist _)))) rfl rfl rfl ?_
        refine ExD.op (i := 16) rfl (by kernel_rfl) rfl (op_storeC (i := 0) rfl rfl rfl rfl rfl rfl rfl rfl rfl rfl ⟨(List.Sublist.cons _ (List.Sublist.cons_cons _ (List.nil_sublist _))), ?_⟩)
        refine ExD.done (by kernel_rfl) ?_
        refine Ex.regSeq (ExL.pures 2 rfl ?_)
        refine ExL.nil ?_
        refine Ex.ret ?_
        refine MutQ.mk () rfl (.tmp rfl .nil) (tI (by first | (rw [pv_stop (by assumption)]; first | done | rfl) | (rw [uw_pos (d := d) (st := 1) (by omega), pv_hit (by assumption) ⟨by omega, by omega⟩]; first | done | rfl) | (rw [pv_on (by assumption) (by omega)]; first | done | rfl))) 2 [0, 1] (by first | (rw [pv_stop (by assumption)]; first | done | rfl) | (rw [uw_pos (d := d) (st := 1) (by omega), pv_hit (by assumption) ⟨by omega, by omega⟩, Int.one_mul]; first | done | rfl) | (rw [pv_on (by assumption) (by omega), Int.one_mul]; first | done | rfl)) rfl (trivial)
    · refine ExL.pures 5 rfl ?_
      refine ExL.nil ?_
      refine Ex.cond_f rfl ?_
      refine Ex.skip ?_
      refine Ex.seq ?_
      refine Ex.regSeq (ExL.pures 1 rfl ?_)
      refine ExL.nil ?_
      refine Ex.cond_f rfl ?_
      refine Ex.skip ?_
      refine Ex.drawSeqI [1] rfl rfl ?_
      refine ExD.take (i := 0) rfl (by kernel_rfl) (pureVal_ok rfl) ((List.Sublist.cons _ (List.Sublist.cons_cons _ (List.nil_sublist _)))) rfl rfl rfl ?_
      refine ExD.take (i := 1) rfl (by kernel_rfl) (pureVal_ok rfl) ((List.Sublist.cons _ (List.Sublist.cons_cons _ (List.nil_sublist _)))) rfl rfl rfl ?_
      refine ExD.take (i := 2) rfl (by kernel_rfl) (pureVal_ok rfl) ((List.Sublist.cons _ (List.Sublist.cons_cons _ (List.nil_sublist _)))) rfl rfl rfl ?_
      refine ExD.take (i := 3) rfl (by kernel_rfl) (pureVal_ok rfl) ((List.Sublist.cons _ (List.Sublist.cons_cons _ (List.nil_sublist _)))) rfl rfl rfl ?_
      refine ExD.take (i := 5) rfl (by kernel_rfl) (pureVal_ok rfl) ((List.Sublist.cons _ (List.Sublist.cons_cons _ (List.nil_sublist _)))) rfl rfl rfl ?_
      refine ExD.take (i := 6) rfl (by kernel_rfl) (pureVal_ok rfl) ((List.Sublist.cons _ (List.Sublist.cons_cons _ (List.nil_sublist _)))) rfl rfl rfl ?_
      refine ExD.take (i := 7) rfl (by kernel_rfl) (pureVal_ok rfl) ((List.Sublist.cons _ (List.Sublist.cons_cons _ (List.nil_sublist _)))) rfl rfl rfl ?_
      refine ExD.take (i := 9) rfl (by kernel_rfl) (pureVal_ok rfl) ((List.Sublist.cons _ (List.Sublist.cons_cons _ (List.nil_sublist _)))) rfl rfl rfl ?_
      refine ExD.two (i := 4) (j := 8) rfl rfl (by kernel_rfl) (by kernel_rfl) (by kernel_rfl) rfl (List.Sublist.cons _ (List.Sublist.cons_cons _ (List.nil_sublist _))) rfl rfl rfl rfl rfl rfl rfl rfl rfl (fr_load rfl rfl rfl rfl (CellO.blk (i := 0) rfl rfl)) (fr_loadN rfl rfl rfl rfl rfl (SegO.part (i := 0) 8 rfl)) (fr_load rfl rfl rfl rfl (CellO.blk (i := 0) rfl rfl)) (fr_loadN rfl rfl rfl rfl rfl (SegO.part (i := 0) 8 rfl)) ?_
      refine ExD.op (i := 10) rfl (by kernel_rfl) rfl (op_ret rfl rfl rfl (c_l01Add d.stack (by first | assumption | simp_all) _ _ d.shows (by assumption) (by first | assumption | simp_all) (by assumption) _ (by omega)) (Reads.get (Reads.row (i := 1) rfl)) rfl rfl (fun x7 hx7 => ⟨(List.Sublist.cons _ (List.Sublist.cons_cons _ (List.nil_sublist _))), ?_⟩))
      refine ExD.take (i := 11) rfl (by kernel_rfl) (pureVal_ok rfl) ((List.Sublist.cons _ (List.Sublist.cons_cons _ (List.nil_sublist _)))) rfl rfl rfl ?_
      refine ExD.take (i := 12) rfl (by kernel_rfl) (pureVal_ok rfl) ((List.Sublist.cons _ (List.Sublist.cons_cons _ (List.nil_sublist _)))) rfl rfl rfl ?_
      refine ExD.take (i := 13) rfl (by kernel_rfl) (pureVal_ok rfl) ((List.Sublist.cons _ (List.Sublist.cons_cons _ (List.nil_sublist _)))) rfl rfl rfl ?_
      refine ExD.take (i := 14) rfl (by kernel_rfl) (pureVal_ok rfl) ((List.Sublist.cons _ (List.Sublist.cons_cons _ (List.nil_sublist _)))) rfl rfl rfl ?_
      refine ExD.take (i := 15) rfl (by kernel_rfl) (pureVal_ok rfl) ((List.Sublist.cons _ (List.Sublist.cons_cons _ (List.nil_sublist _)))) rfl rfl rfl ?_
      refine ExD.op (i := 16) rfl (by kernel_rfl) rfl (op_storeC (i := 0) rfl rfl rfl rfl rfl rfl rfl rfl rfl rfl ⟨(List.Sublist.cons _ (List.Sublist.cons_cons _ (List.nil_sublist _))), ?_⟩)
      refine ExD.done (by kernel_rfl) ?_
      refine Ex.regSeq (ExL.pures 2 rfl ?_)
      refine ExL.nil ?_
      refine Ex.ret ?_
      refine MutQ.mk () rfl (.tmp rfl .nil) (tI (by first | (rw [pv_stop (by assumption)]; first | done | rfl) | (rw [uw_pos (d := d) (st := 1) (by omega), pv_hit (by assumption) ⟨by omega, by omega⟩]; first | done | rfl) | (rw [pv_on (by assumption) (by omega)]; first | done | rfl))) 2 [0, 1] (by first | (rw [pv_stop (by assumption)]; first | done | rfl) | (rw [uw_pos (d := d) (st := 1) (by omega), pv_hit (by assumption) ⟨by omega, by omega⟩, Int.one_mul]; first | done | rfl) | (rw [pv_on (by assumption) (by omega), Int.one_mul]; first | done | rfl)) rfl (trivial)
theorem c_l07Count_t (d : VDev) (hk : OkDev d) (hv : validDev d = true) (Ad : Option Addr) (cd : Nat) (b : Nat) (n : Int) (hn : 0 ≤ n ∧ n ≤ 1000000000000) : Mut Try.prog 151 [.pointer (some ⟨b, 0, none⟩), .int .i64 n, .bool true] [.blk b (encV Ad cd d) 38, .row (.slice Ad d.stack.length cd) 5 1 d.stack.length (d.stack.flatMap (eI .u8))] (fun base w0 F => True) (fun x : Unit => .int .i64 (pulseV d n (-1)).2) (fun x => [.blk b (encV Ad cd (pulseV d n (-1)).1) 38, .row (.slice Ad d.stack.length cd) 5 1 d.stack.length (d.stack.flatMap (eI .u8))]) (fun x => True) := by
  refine Mut.of e_151 Try.func151 rfl Try.ntmps151 rfl rfl (fun base w0 F hfr => ?_)
  have hkk := hk
  obtain ⟨hl, hu, ha, hpp, htt⟩ := hk
  have hO := devOk ha hv
  have hvs : validStack d.stack = true := by unfold validDev at hv; rw [decide_eq_true_iff] at hv; exact hv.1
  have hvd := hO.vd
  have hm0 : maxLen = 9223372036854775807 := rfl
  have hz := sizeS hO
  have hle := hO.stk.le
  have hps := hO.stk.pos
  have hlt : 0 ≤ val d.stack d.shows.l ∧ val d.stack d.shows.l < prod d.stack := hO.v_lt
  have hpr := hO.preset
  have htk := hO.tick
  have hub := until_bd hO (-1)
  have huw := uw (d := d) (st := -1)
  refine Ex.regSeq (ExL.pures 1 rfl ?_)
  refine ExL.nil ?_
  refine Ex.seq ?_
  refine Ex.regSeq (ExL.pures 3 rfl ?_)
  refine ExL.free (fr_load rfl rfl rfl rfl (CellO.blk (i := 0) rfl rfl)) rfl rfl rfl ?_
  refine ExL.nil ?_
  refine Ex.cond rfl (fun hb1 => ?_) (fun hb1 => ?_)
  · refine Ex.regSeq (ExL.pures 2 rfl ?_)
    refine ExL.nil ?_
    refine Ex.ret ?_
    refine MutQ.mk () rfl (.tmp rfl .nil) (tI (by first | (rw [pv_stop (by assumption)]; first | done | rfl) | (rw [uw_pos (d := d) (st := -1) (by omega), pv_hit (by assumption) ⟨by omega, by omega⟩]; first | done | rfl) | (rw [pv_on (by assumption) (by omega)]; first | done | rfl))) 2 [0, 1] (by first | (rw [pv_stop (by assumption)]; first | done | rfl) | (rw [uw_pos (d := d) (st := -1) (by omega), pv_hit (by assumption) ⟨by omega, by omega⟩, Int.neg_mul, Int.one_mul]; first | done | rfl) | (rw [pv_on (by assumption) (by omega), Int.neg_mul, Int.one_mul]; first | done | rfl)) rfl (trivial)
  · refine Ex.skip ?_
    refine Ex.regSeq (ExL.pures 2 rfl ?_)
    refine ExL.op rfl (op_ret rfl rfl rfl (c_lu_t d (by first | assumption | exact ⟨by assumption, by assumption, by assumption, by assumption, by assumption⟩) (by assumption) _ _ _) (fun w hw => ⟨Reads.get (Reads.blk (i := 0) rfl) w hw, Reads.get (Reads.row (i := 1) rfl) w hw⟩) rfl rfl (fun x2 hx2 => ?_))
    refine ExL.pures 1 rfl ?_
    refine ExL.nil ?_
    refine Ex.regSeq (ExL.pures 1 rfl ?_)
    refine ExL.nil ?_
    refine Ex.seq ?_
    refine Ex.regSeq (ExL.pures 1 rfl ?_)
    refine ExL.geq rfl rfl rfl rfl rfl rfl (fun h3 => ?_) (fun h3 => ?_)
    · refine ExL.pures 3 rfl ?_
      refine ExL.geq rfl rfl rfl rfl rfl rfl (fun h4 => ?_) (fun h4 => ?_)
      · refine ExL.pures 1 rfl ?_
        refine ExL.nil ?_
        refine Ex.cond_t rfl ?_
        refine Ex.regSeq (ExL.pures 2 rfl ?_)
        refine ExL.free (by first | exact fr_sub64 rfl rfl rfl (by omega) | exact fr_sub rfl rfl rfl) rfl rfl rfl ?_
        refine ExL.pures 1 rfl ?_
        refine ExL.nil ?_
        refine Ex.regSeq (ExL.pures 2 rfl ?_)
        refine ExL.nil ?_
        refine Ex.region (ExL.pures 3 rfl ?_)
        refine ExL.op rfl (op_storeC (i := 0) rfl rfl rfl rfl rfl rfl rfl rfl rfl rfl ?_)
        refine ExL.nil ?_
        refine Ex.seq ?_
        refine Ex.regSeq (ExL.pures 1 rfl ?_)
        refine ExL.nil ?_
        refine Ex.cond_t rfl ?_
        refine Ex.region (ExL.pures 1 rfl ?_)
        refine ExL.free (by first | exact fr_neg64 rfl rfl (by omega) | exact fr_neg rfl rfl) rfl rfl rfl ?_
        refine ExL.pures 1 rfl ?_
        refine ExL.nil ?_
        refine Ex.drawSeqI [1] rfl rfl ?_
        refine ExD.take (i := 0) rfl (by kernel_rfl) (pureVal_ok rfl) ((List.Sublist.cons _ (List.Sublist.cons_cons _ (List.nil_sublist _)))) rfl rfl rfl ?_
        refine ExD.take (i := 1) rfl (by kernel_rfl) (pureVal_ok rfl) ((List.Sublist.cons _ (List.Sublist.cons_cons _ (List.nil_sublist _)))) rfl rfl rfl ?_
        refine ExD.take (i := 2) rfl (by kernel_rfl) (pureVal_ok rfl) ((List.Sublist.cons _ (List.Sublist.cons_cons _ (List.nil_sublist _)))) rfl rfl rfl ?_
        refine ExD.take (i := 3) rfl (by kernel_rfl) (pureVal_ok rfl) ((List.Sublist.cons _ (List.Sublist.cons_cons _ (List.nil_sublist _)))) rfl rfl rfl ?_
        refine ExD.take (i := 5) rfl (by kernel_rfl) (pureVal_ok rfl) ((List.Sublist.cons _ (List.Sublist.cons_cons _ (List.nil_sublist _)))) rfl rfl rfl ?_
        refine ExD.take (i := 6) rfl (by kernel_rfl) (pureVal_ok rfl) ((List.Sublist.cons _ (List.Sublist.cons_cons _ (List.nil_sublist _)))) rfl rfl rfl ?_
        refine ExD.take (i := 7) rfl (by kernel_rfl) (pureVal_ok rfl) ((List.Sublist.cons _ (List.Sublist.cons_cons _ (List.nil_sublist _)))) rfl rfl rfl ?_
        refine ExD.take (i := 9) rfl (by kernel_rfl) (pureVal_ok rfl) ((List.Sublist.cons _ (List.Sublist.cons_cons _ (List.nil_sublist _)))) rfl rfl rfl ?_
        refine ExD.two (i := 4) (j := 8) rfl rfl (by kernel_rfl) (by kernel_rfl) (by kernel_rfl) rfl (List.Sublist.cons _ (List.Sublist.cons_cons _ (List.nil_sublist _))) rfl rfl rfl rfl rfl rfl rfl rfl rfl (fr_load rfl rfl rfl rfl (CellO.blk (i := 0) rfl rfl)) (fr_loadN rfl rfl rfl rfl rfl (SegO.part (i := 0) 8 rfl)) (fr_load rfl rfl rfl rfl (CellO.blk (i := 0) rfl rfl)) (fr_loadN rfl rfl rfl rfl rfl (SegO.part (i := 0) 8 rfl)) ?_
        refine ExD.op (i := 10) rfl (by kernel_rfl) rfl (op_ret rfl rfl rfl (c_l01Add d.stack (by first | assumption | simp_all) _ _ d.shows (by assumption) (by first | assumption | simp_all) (by assumption) _ (by omega)) (Reads.get (Reads.row (i := 1) rfl)) rfl rfl (fun x5 hx5 => ⟨(List.Sublist.cons _ (List.Sublist.cons_cons _ (List.nil_sublist _))), ?_⟩))
        refine ExD.take (i := 11) rfl (by kernel_rfl) (pureVal_ok rfl) ((List.Sublist.cons _ (List.Sublist.cons_cons _ (List.nil_sublist _)))) rfl rfl rfl ?_
        refine ExD.take (i := 12) rfl (by kernel_rfl) (pureVal_ok rfl) ((List.Sublist.cons _ (List.Sublist.cons_cons _ (List.nil_sublist _)))) rfl rfl rfl ?_
        refine ExD.take (i := 13) rfl (by kernel_rfl) (pureVal_ok rfl) ((List.Sublist.cons _ (List.Sublist.cons_cons _ (List.nil_sublist _)))) rfl rfl rfl ?_
        refine ExD.take (i := 14) rfl (by kernel_rfl) (pureVal_ok rfl) ((List.Sublist.cons _ (List.Sublist.cons_cons _ (List.nil_sublist _)))) rfl rfl rfl ?_
        refine ExD.take (i := 15) rfl (by kernel_rfl) (pureVal_ok rfl) ((List.Sublist.cons _ (List.Sublist.cons_cons _ (List.nil_sublist _)))) rfl rfl rfl ?_
        refine ExD.op (i := 16) rfl (by kernel_rfl) rfl (op_storeC (i := 0) rfl rfl rfl rfl rfl rfl rfl rfl rfl rfl ⟨(List.Sublist.cons _ (List.Sublist.cons_cons _ (List.nil_sublist _))), ?_⟩)
        refine ExD.done (by kernel_rfl) ?_
        refine Ex.regSeq (ExL.pures 2 rfl ?_)
        refine ExL.nil ?_
        refine Ex.ret ?_
        refine MutQ.mk () rfl (.tmp rfl .nil) (tI (by first | (rw [pv_stop (by assumption)]; first | done | rfl) | (rw [uw_pos (d := d) (st := -1) (by omega), pv_hit (by assumption) ⟨by omega, by omega⟩]; first | done | rfl) | (rw [pv_on (by assumption) (by omega)]; first | done | rfl))) 2 [0, 1] (by first | (rw [pv_stop (by assumption)]; first | done | rfl) | (rw [uw_pos (d := d) (st := -1) (by omega), pv_hit (by assumption) ⟨by omega, by omega⟩, Int.neg_mul, Int.one_mul]; first | done | rfl) | (rw [pv_on (by assumption) (by omega), Int.neg_mul, Int.one_mul]; first | done | rfl)) rfl (trivial)
      · refine ExL.pures 1 rfl ?_
        refine ExL.nil ?_
        refine Ex.cond_f rfl ?_
        refine Ex.skip ?_
        refine Ex.seq ?_
        refine Ex.regSeq (ExL.pures 1 rfl ?_)
        refine ExL.nil ?_
        refine Ex.cond_t rfl ?_
        refine Ex.region (ExL.pures 1 rfl ?_)
        refine ExL.free (by first | exact fr_neg64 rfl rfl (by omega) | exact fr_neg rfl rfl) rfl rfl rfl ?_
        refine ExL.pures 1 rfl ?_
        refine ExL.nil ?_
        refine Ex.drawSeqI [1] rfl rfl ?_
        refine ExD.take (i := 0) rfl (by kernel_rfl) (pureVal_ok rfl) ((List.Sublist.cons _ (List.Sublist.cons_cons _ (List.nil_sublist _)))) rfl rfl rfl ?_
        refine ExD.take (i := 1) rfl (by kernel_rfl) (pureVal_ok rfl) ((List.Sublist.cons _ (List.Sublist.cons_cons _ (List.nil_sublist _)))) rfl rfl rfl ?_
        refine ExD.take (i := 2) rfl (by kernel_rfl) (pureVal_ok rfl) ((List.Sublist.cons _ (List.Sublist.cons_cons _ (List.nil_sublist _)))) rfl rfl rfl ?_
        refine ExD.take (i := 3) rfl (by kernel_rfl) (pureVal_ok rfl) ((List.Sublist.cons _ (List.Sublist.cons_cons _ (List.nil_sublist _)))) rfl rfl rfl ?_
        refine ExD.take (i := 5) rfl (by kernel_rfl) (pureVal_ok rfl) ((List.Sublist.cons _ (List.Sublist.cons_cons _ (List.nil_sublist _)))) rfl rfl rfl ?_
        refine ExD.take (i := 6) rfl (by kernel_rfl) (pureVal_ok rfl) ((List.Sublist.cons _ (List.Sublist.cons_cons _ (List.nil_sublist _)))) rfl rfl rfl ?_
        refine ExD.take (i := 7) rfl (by kernel_rfl) (pureVal_ok rfl) ((List.Sublist.cons _ (List.Sublist.cons_cons _ (List.nil_sublist _)))) rfl rfl rfl ?_
        refine ExD.take (i := 9) rfl (by kernel_rfl) (pureVal_ok rfl) ((List.Sublist.cons _ (List.Sublist.cons_cons _ (List.nil_sublist _)))) rfl rfl rfl ?_
        refine ExD.two (i := 4) (j := 8) rfl rfl (by kernel_rfl) (by kernel_rfl) (by kernel_rfl) rfl (List.Sublist.cons _ (List.Sublist.cons_cons _ (List.nil_sublist _))) rfl rfl rfl rfl rfl rfl rfl rfl rfl (fr_load rfl rfl rfl rfl (CellO.blk (i := 0) rfl rfl)) (fr_loadN rfl rfl rfl rfl rfl (SegO.part (i := 0) 8 rfl)) (fr_load rfl rfl rfl rfl (CellO.blk (i := 0) rfl rfl)) (fr_loadN rfl rfl rfl rfl rfl (SegO.part (i := 0) 8 rfl)) ?_
        refine ExD.op (i := 10) rfl (by kernel_rfl) rfl (op_ret rfl rfl rfl (c_l01Add d.stack (by first | assumption | simp_all) _ _ d.shows (by assumption) (by first | assumption | simp_all) (by assumption) _ (by omega)) (Reads.get (Reads.row (i := 1) rfl)) rfl rfl (fun x6 hx6 => ⟨(List.Sublist.cons _ (List.Sublist.cons_cons _ (List.nil_sublist _))), ?_⟩))
        refine ExD.take (i := 11) rfl (by kernel_rfl) (pureVal_ok rfl) ((List.Sublist.cons _ (List.Sublist.cons_cons _ (List.nil_sublist _)))) rfl rfl rfl ?_
        refine ExD.take (i := 12) rfl (by kernel_rfl) (pureVal_ok rfl) ((List.Sublist.cons _ (List.Sublist.cons_cons _ (List.nil_sublist _)))) rfl rfl rfl ?_
        refine ExD.take (i := 13) rfl (by kernel_rfl) (pureVal_ok rfl) ((List.Sublist.cons _ (List.Sublist.cons_cons _ (List.nil_sublist _)))) rfl rfl rfl ?_
        refine ExD.take (i := 14) rfl (by kernel_rfl) (pureVal_ok rfl) ((List.Sublist.cons _ (List.Sublist.cons_cons _ (List.nil_sublist _)))) rfl rfl rfl ?_
        refine ExD.take (i := 15) rfl (by kernel_rfl) (pureVal_ok rfl) ((List.Sublist.cons _ (List.Sublist.cons_cons _ (List.nil_sublist _)))) rfl rfl rfl ?_
        refine ExD.op (i := 16) rfl (by kernel_rfl) rfl (op_storeC (i := 0) rfl rfl rfl rfl rfl rfl rfl rfl rfl rfl ⟨(List.Sublist.cons _ (List.Sublist.cons_cons _ (List.nil_sublist _))), ?_⟩)
        refine ExD.done (by kernel_rfl) ?_
        refine Ex.regSeq (ExL.pures 2 rfl ?_)
        refine ExL.nil ?_
        refine Ex.ret ?_
        refine MutQ.mk () rfl (.tmp rfl .nil) (tI (by first | (rw [pv_stop (by assumption)]; first | done | rfl) | (rw [uw_pos (d := d) (st := -1) (by omega), pv_hit (by assumption) ⟨by omega, by omega⟩]; first | done | rfl) | (rw [pv_on (by assumption) (by omega)]; first | done | rfl))) 2 [0, 1] (by first | (rw [pv_stop (by assumption)]; first | done | rfl) | (rw [uw_pos (d := d) (st := -1) (by omega), pv_hit (by assumption) ⟨by omega, by omega⟩, Int.neg_mul, Int.one_mul]; first | done | rfl) | (rw [pv_on (by assumption) (by omega), Int.neg_mul, Int.one_mul]; first | done | rfl)) rfl (trivial)
    · refine ExL.pures 5 rfl ?_
      refine ExL.nil ?_
      refine Ex.cond_f rfl ?_
      refine Ex.skip ?_
      refine Ex.seq ?_
      refine Ex.regSeq (ExL.pures 1 rfl ?_)
      refine ExL.nil ?_
      refine Ex.cond_t rfl ?_
      refine Ex.region (ExL.pures 1 rfl ?_)
      refine ExL.free (by first | exact fr_neg64 rfl rfl (by omega) | exact fr_neg rfl rfl) rfl rfl rfl ?_
      refine ExL.pures 1 rfl ?_
      refine ExL.nil ?_
      refine Ex.drawSeqI [1] rfl rfl ?_
      refine ExD.take (i := 0) rfl (by kernel_rfl) (pureVal_ok rfl) ((List.Sublist.cons _ (List.Sublist.cons_cons _ (List.nil_sublist _)))) rfl rfl rfl ?_
      refine ExD.take (i := 1) rfl (by kernel_rfl) (pureVal_ok rfl) ((List.Sublist.cons _ (List.Sublist.cons_cons _ (List.nil_sublist _)))) rfl rfl rfl ?_
      refine ExD.take (i := 2) rfl (by kernel_rfl) (pureVal_ok rfl) ((List.Sublist.cons _ (List.Sublist.cons_cons _ (List.nil_sublist _)))) rfl rfl rfl ?_
      refine ExD.take (i := 3) rfl (by kernel_rfl) (pureVal_ok rfl) ((List.Sublist.cons _ (List.Sublist.cons_cons _ (List.nil_sublist _)))) rfl rfl rfl ?_
      refine ExD.take (i := 5) rfl (by kernel_rfl) (pureVal_ok rfl) ((List.Sublist.cons _ (List.Sublist.cons_cons _ (List.nil_sublist _)))) rfl rfl rfl ?_
      refine ExD.take (i := 6) rfl (by kernel_rfl) (pureVal_ok rfl) ((List.Sublist.cons _ (List.Sublist.cons_cons _ (List.nil_sublist _)))) rfl rfl rfl ?_
      refine ExD.take (i := 7) rfl (by kernel_rfl) (pureVal_ok rfl) ((List.Sublist.cons _ (List.Sublist.cons_cons _ (List.nil_sublist _)))) rfl rfl rfl ?_
      refine ExD.take (i := 9) rfl (by kernel_rfl) (pureVal_ok rfl) ((List.Sublist.cons _ (List.Sublist.cons_cons _ (List.nil_sublist _)))) rfl rfl rfl ?_
      refine ExD.two (i := 4) (j := 8) rfl rfl (by kernel_rfl) (by kernel_rfl) (by kernel_rfl) rfl (List.Sublist.cons _ (List.Sublist.cons_cons _ (List.nil_sublist _))) rfl rfl rfl rfl rfl rfl rfl rfl rfl (fr_load rfl rfl rfl rfl (CellO.blk (i := 0) rfl rfl)) (fr_loadN rfl rfl rfl rfl rfl (SegO.part (i := 0) 8 rfl)) (fr_load rfl rfl rfl rfl (CellO.blk (i := 0) rfl rfl)) (fr_loadN rfl rfl rfl rfl rfl (SegO.part (i := 0) 8 rfl)) ?_
      refine ExD.op (i := 10) rfl (by kernel_rfl) rfl (op_ret rfl rfl rfl (c_l01Add d.stack (by first | assumption | simp_all) _ _ d.shows (by assumption) (by first | assumption | simp_all) (by assumption) _ (by omega)) (Reads.get (Reads.row (i := 1) rfl)) rfl rfl (fun x7 hx7 => ⟨(List.Sublist.cons _ (List.Sublist.cons_cons _ (List.nil_sublist _))), ?_⟩))
      refine ExD.take (i := 11) rfl (by kernel_rfl) (pureVal_ok rfl) ((List.Sublist.cons _ (List.Sublist.cons_cons _ (List.nil_sublist _)))) rfl rfl rfl ?_
      refine ExD.take (i := 12) rfl (by kernel_rfl) (pureVal_ok rfl) ((List.Sublist.cons _ (List.Sublist.cons_cons _ (List.nil_sublist _)))) rfl rfl rfl ?_
      refine ExD.take (i := 13) rfl (by kernel_rfl) (pureVal_ok rfl) ((List.Sublist.cons _ (List.Sublist.cons_cons _ (List.nil_sublist _)))) rfl rfl rfl ?_
      refine ExD.take (i := 14) rfl (by kernel_rfl) (pureVal_ok rfl) ((List.Sublist.cons _ (List.Sublist.cons_cons _ (List.nil_sublist _)))) rfl rfl rfl ?_
      refine ExD.take (i := 15) rfl (by kernel_rfl) (pureVal_ok rfl) ((List.Sublist.cons _ (List.Sublist.cons_cons _ (List.nil_sublist _)))) rfl rfl rfl ?_
      refine ExD.op (i := 16) rfl (by kernel_rfl) rfl (op_storeC (i := 0) rfl rfl rfl rfl rfl rfl rfl rfl rfl rfl ⟨(List.Sublist.cons _ (List.Sublist.cons_cons _ (List.nil_sublist _))), ?_⟩)
      refine ExD.done (by kernel_rfl) ?_
      refine Ex.regSeq (ExL.pures 2 rfl ?_)
      refine ExL.nil ?_
      refine Ex.ret ?_
      refine MutQ.mk () rfl (.tmp rfl .nil) (tI (by first | (rw [pv_stop (by assumption)]; first | done | rfl) | (rw [uw_pos (d := d) (st := -1) (by omega), pv_hit (by assumption) ⟨by omega, by omega⟩]; first | done | rfl) | (rw [pv_on (by assumption) (by omega)]; first | done | rfl))) 2 [0, 1] (by first | (rw [pv_stop (by assumption)]; first | done | rfl) | (rw [uw_pos (d := d) (st := -1) (by omega), pv_hit (by assumption) ⟨by omega, by omega⟩, Int.neg_mul, Int.one_mul]; first | done | rfl) | (rw [pv_on (by assumption) (by omega), Int.neg_mul, Int.one_mul]; first | done | rfl)) rfl (trivial)
theorem e_153 : Enters Try.prog 153 := Enters.of Try.func153 rfl
theorem c_shows (d : VDev) (hv : validStack d.stack = true) (hd0 : validDig d.stack d.shows.l = true) (ha : Nums 255 d.shows.l) (Ad : Option Addr) (cd : Nat) (b : Nat) : Ret Try.prog 153 [.pointer (some ⟨b, 0, none⟩)] (fun w => Rd w (some ⟨b, 0, none⟩) (encV Ad cd d) ∧ Rd w Ad (d.stack.flatMap (eI .u8))) (fun x : Unit => .bool (decide (d.preset = d.v))) (fun x => []) (fun x => True) := by
  refine Ret.of e_153 Try.func153 rfl Try.ntmps153 rfl rfl (fun w hpre => ?_)
  have hp := hpre.1.base
  have hd := hpre.2.base
  refine Ex.regSeq (ExL.pures 1 rfl ?_)
  refine ExL.nil ?_
  refine Ex.drawSeqM rfl ?_
  refine ExD.take (i := 0) rfl (by kernel_rfl) (pureVal_ok rfl) ((List.Sublist.refl _)) rfl rfl rfl ?_
  refine ExD.take (i := 1) rfl (by kernel_rfl) (pureVal_ok rfl) ((List.Sublist.refl _)) rfl rfl rfl ?_
  refine ExD.take (i := 2) rfl (by kernel_rfl) (pureVal_ok rfl) ((List.Sublist.refl _)) rfl rfl rfl ?_
  refine ExD.take (i := 3) rfl (by kernel_rfl) (fr_load rfl rfl rfl rfl (CellO.at 9 (Reads.old hp) rfl)) ((List.Sublist.refl _)) rfl rfl rfl ?_
  refine ExD.take (i := 4) rfl (by kernel_rfl) (pureVal_ok rfl) ((List.Sublist.refl _)) rfl rfl rfl ?_
  refine ExD.take (i := 5) rfl (by kernel_rfl) (pureVal_ok rfl) ((List.Sublist.refl _)) rfl rfl rfl ?_
  refine ExD.take (i := 6) rfl (by kernel_rfl) (pureVal_ok rfl) ((List.Sublist.refl _)) rfl rfl rfl ?_
  refine ExD.take (i := 7) rfl (by kernel_rfl) (fr_load rfl rfl rfl rfl (CellO.at 0 (Reads.old hp) rfl)) ((List.Sublist.refl _)) rfl rfl rfl ?_
  refine ExD.take (i := 8) rfl (by kernel_rfl) (pureVal_ok rfl) ((List.Sublist.refl _)) rfl rfl rfl ?_
  refine ExD.take (i := 9) rfl (by kernel_rfl) (pureVal_ok rfl) ((List.Sublist.refl _)) rfl rfl rfl ?_
  refine ExD.take (i := 10) rfl (by kernel_rfl) (pureVal_ok rfl) ((List.Sublist.refl _)) rfl rfl rfl ?_
  refine ExD.take (i := 11) rfl (by kernel_rfl) (fr_loadN rfl rfl rfl rfl rfl (SegO.at 1 8 (Reads.old hp) rfl)) ((List.Sublist.refl _)) rfl rfl rfl ?_
  refine ExD.op (i := 12) rfl (by kernel_rfl) rfl (op_ret rfl rfl rfl (c_value d.stack (by first | assumption | simp_all) _ _ d.shows (by assumption) (by first | assumption | simp_all)) (Reads.get (Reads.old hd)) rfl rfl (fun x1 hx1 => ⟨(List.Sublist.refl _), ?_⟩))
  refine ExD.take (i := 13) rfl (by kernel_rfl) (fr_eql rfl rfl rfl) ((List.Sublist.refl _)) rfl rfl rfl ?_
  refine ExD.take (i := 14) rfl (by kernel_rfl) (pureVal_ok rfl) ((List.Sublist.refl _)) rfl rfl rfl ?_
  refine ExD.done (by kernel_rfl) ?_
  refine Ex.ret ?_
  refine RetQ.mk () rfl (.tmp rfl .nil) (rfl) [] (rfl) rfl (trivial)
theorem e_129 : Enters Try.prog 129 := Enters.of Try.func129 rfl
theorem c_do (d : VDev) (hk : OkDev d) (hv : validDev d = true) (Ad : Option Addr) (cd : Nat) (b : Nat) (a : VAct) (hact : validAct a = true) : Mut Try.prog 129 [.pointer (some ⟨b, 0, none⟩), .agg (encA a).toArray] [.blk b (encV Ad cd d) 38, .row (.slice Ad d.stack.length cd) 5 1 d.stack.length (d.stack.flatMap (eI .u8))] (fun base w0 F => True) (fun x : Unit => .tuple #[.int .i64 (doV d a).2.1, .int .i64 (doV d a).2.2]) (fun x => [.blk b (encV Ad cd (doV d a).1) 38, .row (.slice Ad d.stack.length cd) 5 1 d.stack.length (d.stack.flatMap (eI .u8))]) (fun x => True) := by
  refine Mut.of e_129 Try.func129 rfl Try.ntmps129 rfl rfl (fun base w0 F hfr => ?_)
  have hkk := hk
  have han := act_n hact
  obtain ⟨hl, hu, ha, hpp, htt⟩ := hk
  have hO := devOk ha hv
  have hvs : validStack d.stack = true := by unfold validDev at hv; rw [decide_eq_true_iff] at hv; exact hv.1
  have hvd := hO.vd
  have hm0 : maxLen = 9223372036854775807 := rfl
  have hz := sizeS hO
  have hle := hO.stk.le
  have hps := hO.stk.pos
  have hlt : 0 ≤ val d.stack d.shows.l ∧ val d.stack d.shows.l < prod d.stack := hO.v_lt
  have hpr := hO.preset
  have htk := hO.tick
  refine Ex.regSeq (ExL.pures 0 rfl ?_)
  refine ExL.op rfl (op_box rfl rfl rfl rfl rfl (fun b1 => ?_))
  refine ExL.pures 2 rfl ?_
  refine ExL.nil ?_
  refine Ex.seq ?_
  refine Ex.regSeq (ExL.pures 1 rfl ?_)
  refine ExL.free (fr_load rfl rfl rfl rfl (CellO.blk (i := 0) rfl rfl)) rfl rfl rfl ?_
  refine ExL.nil ?_
  refine Ex.block ?_
  refine Ex.regSeq (ExL.pures 0 rfl ?_)
  refine ExL.eql rfl rfl rfl rfl rfl rfl (fun h2 => ?_) (fun h2 => ?_)
  · refine ExL.pures 1 rfl ?_
    refine ExL.nil ?_
    refine Ex.cond_t rfl ?_
    refine Ex.regSeq (ExL.pures 2 rfl ?_)
    refine ExL.free (fr_load rfl rfl rfl rfl (CellO.blk (i := 0) rfl rfl)) rfl rfl rfl ?_
    refine ExL.op rfl (op_mut rfl rfl rfl (c_pulse d (by assumption) (by assumption) _ _ _ _ (1) (by omega) (by first | assumption | decide | omega)) (perm_lt (i := 1) (j := 2) rfl rfl rfl) (trivial) rfl rfl (fun x3 hx3 => ?_))
    refine ExL.pures 2 rfl ?_
    refine ExL.nil ?_
    refine Ex.ret ?_
    refine MutQ.mk () rfl (.tmp rfl (.tmp rfl .nil)) (t2 (vI (by first | (rw [do_1 (by assumption)]; first | done | rfl) | (rw [do_2 (by assumption)]; first | done | rfl) | (rw [do_3n (by assumption) (by omega)]; first | done | rfl) | (rw [do_3 (by assumption) (by omega)]; first | done | rfl) | (rw [do_4 (by assumption)]; first | done | rfl) | (rw [do_5n (by assumption) (by omega)]; first | done | rfl) | (rw [do_5 (by assumption) (by omega)]; first | done | rfl) | (rw [do_0 (by assumption) (by assumption) (by assumption) (by assumption) (by assumption)]; first | done | rfl))) (vI (by first | (rw [do_1 (by assumption)]; first | done | rfl) | (rw [do_2 (by assumption)]; first | done | rfl) | (rw [do_3n (by assumption) (by omega)]; first | done | rfl) | (rw [do_3 (by assumption) (by omega)]; first | done | rfl) | (rw [do_4 (by assumption)]; first | done | rfl) | (rw [do_5n (by assumption) (by omega)]; first | done | rfl) | (rw [do_5 (by assumption) (by omega)]; first | done | rfl) | (rw [do_0 (by assumption) (by assumption) (by assumption) (by assumption) (by assumption)]; first | done | rfl)))) 3 [0, 1] (by first | (rw [do_1 (by assumption)]; first | done | rfl) | (rw [do_2 (by assumption)]; first | done | rfl) | (rw [do_3n (by assumption) (by omega)]; first | done | rfl) | (rw [do_3 (by assumption) (by omega)]; first | done | rfl) | (rw [do_4 (by assumption)]; first | done | rfl) | (rw [do_5n (by assumption) (by omega)]; first | done | rfl) | (rw [do_5 (by assumption) (by omega)]; first | done | rfl) | (rw [do_0 (by assumption) (by assumption) (by assumption) (by assumption) (by assumption)]; first | done | rfl)) rfl (trivial)
  · refine ExL.pures 1 rfl ?_
    refine ExL.nil ?_
    refine Ex.cond_f rfl ?_
    refine Ex.regSeq (ExL.pures 0 rfl ?_)
    refine ExL.eql rfl rfl rfl rfl rfl rfl (fun h4 => ?_) (fun h4 => ?_)
    · refine ExL.pures 1 rfl ?_
      refine ExL.nil ?_
      refine Ex.cond_t rfl ?_
      refine Ex.regSeq (ExL.pures 2 rfl ?_)
      refine ExL.free (fr_load rfl rfl rfl rfl (CellO.blk (i := 0) rfl rfl)) rfl rfl rfl ?_
      refine ExL.op rfl (op_mut rfl rfl rfl (c_pulse d (by assumption) (by assumption) _ _ _ _ (-1) (by omega) (by first | assumption | decide | omega)) (perm_lt (i := 1) (j := 2) rfl rfl rfl) (trivial) rfl rfl (fun x5 hx5 => ?_))
      refine ExL.pures 2 rfl ?_
      refine ExL.nil ?_
      refine Ex.ret ?_
      refine MutQ.mk () rfl (.tmp rfl (.tmp rfl .nil)) (t2 (vI (by first | (rw [do_1 (by assumption)]; first | done | rfl) | (rw [do_2 (by assumption)]; first | done | rfl) | (rw [do_3n (by assumption) (by omega)]; first | done | rfl) | (rw [do_3 (by assumption) (by omega)]; first | done | rfl) | (rw [do_4 (by assumption)]; first | done | rfl) | (rw [do_5n (by assumption) (by omega)]; first | done | rfl) | (rw [do_5 (by assumption) (by omega)]; first | done | rfl) | (rw [do_0 (by assumption) (by assumption) (by assumption) (by assumption) (by assumption)]; first | done | rfl))) (vI (by first | (rw [do_1 (by assumption)]; first | done | rfl) | (rw [do_2 (by assumption)]; first | done | rfl) | (rw [do_3n (by assumption) (by omega)]; first | done | rfl) | (rw [do_3 (by assumption) (by omega)]; first | done | rfl) | (rw [do_4 (by assumption)]; first | done | rfl) | (rw [do_5n (by assumption) (by omega)]; first | done | rfl) | (rw [do_5 (by assumption) (by omega)]; first | done | rfl) | (rw [do_0 (by assumption) (by assumption) (by assumption) (by assumption) (by assumption)]; first | done | rfl)))) 3 [0, 1] (by first | (rw [do_1 (by assumption)]; first | done | rfl) | (rw [do_2 (by assumption)]; first | done | rfl) | (rw [do_3n (by assumption) (by omega)]; first | done | rfl) | (rw [do_3 (by assumption) (by omega)]; first | done | rfl) | (rw [do_4 (by assumption)]; first | done | rfl) | (rw [do_5n (by assumption) (by omega)]; first | done | rfl) | (rw [do_5 (by assumption) (by omega)]; first | done | rfl) | (rw [do_0 (by assumption) (by assumption) (by assumption) (by assumption) (by assumption)]; first | done | rfl)) rfl (trivial)
    · refine ExL.pures 1 rfl ?_
      refine ExL.nil ?_
      refine Ex.cond_f rfl ?_
      refine Ex.regSeq (ExL.pures 0 rfl ?_)
      refine ExL.eql rfl rfl rfl rfl rfl rfl (fun h6 => ?_) (fun h6 => ?_)
      · refine ExL.pures 1 rfl ?_
        refine ExL.nil ?_
        refine Ex.cond_t rfl ?_
        refine Ex.seq ?_
        refine Ex.drawSeqM rfl ?_
        refine ExD.take (i := 0) rfl (by kernel_rfl) (pureVal_ok rfl) ((List.Sublist.refl _)) rfl rfl rfl ?_
        refine ExD.take (i := 1) rfl (by kernel_rfl) (fr_load rfl rfl rfl rfl (CellO.blk (i := 0) rfl rfl)) ((List.Sublist.refl _)) rfl rfl rfl ?_
        refine ExD.cmp_neq (i := 2) rfl (by kernel_rfl) rfl rfl rfl ((List.Sublist.refl _)) rfl rfl rfl (fun h7 => ?_) (fun h7 => ?_)
        · refine ExD.take (i := 3) rfl (by kernel_rfl) (pureVal_ok rfl) ((List.Sublist.refl _)) rfl rfl rfl ?_
          refine ExD.take (i := 4) rfl (by kernel_rfl) (pureVal_ok rfl) ((List.Sublist.refl _)) rfl rfl rfl ?_
          refine ExD.take (i := 5) rfl (by kernel_rfl) (pureVal_ok rfl) ((List.Sublist.refl _)) rfl rfl rfl ?_
          refine ExD.take (i := 6) rfl (by kernel_rfl) (pureVal_ok rfl) ((List.Sublist.refl _)) rfl rfl rfl ?_
          refine ExD.take (i := 7) rfl (by kernel_rfl) (fr_load rfl rfl rfl rfl (CellO.blk (i := 1) rfl rfl)) ((List.Sublist.refl _)) rfl rfl rfl ?_
          refine ExD.take (i := 8) rfl (by kernel_rfl) (pureVal_ok rfl) ((List.Sublist.refl _)) rfl rfl rfl ?_
          refine ExD.take (i := 9) rfl (by kernel_rfl) (fr_load rfl rfl rfl rfl (CellO.blk (i := 0) rfl rfl)) ((List.Sublist.refl _)) rfl rfl rfl ?_
          refine ExD.op (i := 10) rfl (by kernel_rfl) rfl (op_ret rfl rfl rfl (c_hasValue d.stack (by assumption) _ _ (by omega) _) (Reads.get (Reads.row (i := 2) rfl)) rfl rfl (fun x8 hx8 => ⟨(List.Sublist.refl _), ?_⟩))
          refine ExD.take (i := 11) rfl (by kernel_rfl) (pureVal_ok rfl) ((List.Sublist.refl _)) rfl rfl rfl ?_
          refine ExD.take (i := 12) rfl (by kernel_rfl) (pureVal_ok rfl) ((List.Sublist.refl _)) rfl rfl rfl ?_
          refine ExD.done (by kernel_rfl) ?_
          refine Ex.cond rfl (fun hb9 => ?_) (fun hb9 => ?_)
          · replace hb9 := nd_t hb9
            refine Ex.regSeq (ExL.pures 2 rfl ?_)
            refine ExL.nil ?_
            refine Ex.ret ?_
            refine MutQ.mk () rfl (.tmp rfl (.tmp rfl .nil)) (t2 (vI (by first | (rw [do_1 (by assumption)]; first | done | rfl) | (rw [do_2 (by assumption)]; first | done | rfl) | (rw [do_3n (by assumption) (by omega)]; first | done | rfl) | (rw [do_3 (by assumption) (by omega)]; first | done | rfl) | (rw [do_4 (by assumption)]; first | done | rfl) | (rw [do_5n (by assumption) (by omega)]; first | done | rfl) | (rw [do_5 (by assumption) (by omega)]; first | done | rfl) | (rw [do_0 (by assumption) (by assumption) (by assumption) (by assumption) (by assumption)]; first | done | rfl))) (vI (by first | (rw [do_1 (by assumption)]; first | done | rfl) | (rw [do_2 (by assumption)]; first | done | rfl) | (rw [do_3n (by assumption) (by omega)]; first | done | rfl) | (rw [do_3 (by assumption) (by omega)]; first | done | rfl) | (rw [do_4 (by assumption)]; first | done | rfl) | (rw [do_5n (by assumption) (by omega)]; first | done | rfl) | (rw [do_5 (by assumption) (by omega)]; first | done | rfl) | (rw [do_0 (by assumption) (by assumption) (by assumption) (by assumption) (by assumption)]; first | done | rfl)))) 3 [1, 2] (by first | (rw [do_1 (by assumption)]; first | done | rfl) | (rw [do_2 (by assumption)]; first | done | rfl) | (rw [do_3n (by assumption) (by omega)]; first | done | rfl) | (rw [do_3 (by assumption) (by omega)]; first | done | rfl) | (rw [do_4 (by assumption)]; first | done | rfl) | (rw [do_5n (by assumption) (by omega)]; first | done | rfl) | (rw [do_5 (by assumption) (by omega)]; first | done | rfl) | (rw [do_0 (by assumption) (by assumption) (by assumption) (by assumption) (by assumption)]; first | done | rfl)) rfl (trivial)
          · replace hb9 := nd_f hb9
            refine Ex.skip ?_
            refine Ex.regSeq (ExL.pures 2 rfl ?_)
            refine ExL.free (fr_load rfl rfl rfl rfl (CellO.blk (i := 0) rfl rfl)) rfl rfl rfl ?_
            refine ExL.pures 2 rfl ?_
            refine ExL.op rfl (op_storeC (i := 1) rfl rfl rfl rfl rfl rfl rfl rfl rfl rfl ?_)
            refine ExL.nil ?_
            refine Ex.region (ExL.pures 2 rfl ?_)
            refine ExL.op rfl (op_ret rfl rfl rfl (c_shows (⟨d.stack, d.shows, a.n, d.stopped, d.tickets⟩ : VDev) (by assumption) (by assumption) (by assumption) _ _ _) (fun w hw => ⟨Reads.get (Reads.blk (i := 1) rfl) w hw, Reads.get (Reads.row (i := 2) rfl) w hw⟩) rfl rfl (fun x10 hx10 => ?_))
            refine ExL.pures 2 rfl ?_
            refine ExL.op rfl (op_storeC (i := 1) rfl rfl rfl rfl rfl rfl rfl rfl rfl rfl ?_)
            refine ExL.nil ?_
            refine Ex.regSeq (ExL.pures 2 rfl ?_)
            refine ExL.nil ?_
            refine Ex.ret ?_
            refine MutQ.mk () rfl (.tmp rfl (.tmp rfl .nil)) (t2 (vI (by first | (rw [do_1 (by assumption)]; first | done | rfl) | (rw [do_2 (by assumption)]; first | done | rfl) | (rw [do_3n (by assumption) (by omega)]; first | done | rfl) | (rw [do_3 (by assumption) (by omega)]; first | done | rfl) | (rw [do_4 (by assumption)]; first | done | rfl) | (rw [do_5n (by assumption) (by omega)]; first | done | rfl) | (rw [do_5 (by assumption) (by omega)]; first | done | rfl) | (rw [do_0 (by assumption) (by assumption) (by assumption) (by assumption) (by assumption)]; first | done | rfl))) (vI (by first | (rw [do_1 (by assumption)]; first | done | rfl) | (rw [do_2 (by assumption)]; first | done | rfl) | (rw [do_3n (by assumption) (by omega)]; first | done | rfl) | (rw [do_3 (by assumption) (by omega)]; first | done | rfl) | (rw [do_4 (by assumption)]; first | done | rfl) | (rw [do_5n (by assumption) (by omega)]; first | done | rfl) | (rw [do_5 (by assumption) (by omega)]; first | done | rfl) | (rw [do_0 (by assumption) (by assumption) (by assumption) (by assumption) (by assumption)]; first | done | rfl)))) 3 [1, 2] (by first | (rw [do_1 (by assumption)]; first | done | rfl) | (rw [do_2 (by assumption)]; first | done | rfl) | (rw [do_3n (by assumption) (by omega)]; first | done | rfl) | (rw [do_3 (by assumption) (by omega)]; first | done | rfl) | (rw [do_4 (by assumption)]; first | done | rfl) | (rw [do_5n (by assumption) (by omega)]; first | done | rfl) | (rw [do_5 (by assumption) (by omega)]; first | done | rfl) | (rw [do_0 (by assumption) (by assumption) (by assumption) (by assumption) (by assumption)]; first | done | rfl)) rfl (trivial)
        · refine ExD.take (i := 3) rfl (by kernel_rfl) (pureVal_ok rfl) ((List.Sublist.refl _)) rfl rfl rfl ?_
          refine ExD.pass (i := 4) rfl (by kernel_rfl) ((List.Sublist.refl _)) rfl rfl rfl ?_
          refine ExD.pass (i := 5) rfl (by kernel_rfl) ((List.Sublist.refl _)) rfl rfl rfl ?_
          refine ExD.pass (i := 6) rfl (by kernel_rfl) ((List.Sublist.refl _)) rfl rfl rfl ?_
          refine ExD.pass (i := 7) rfl (by kernel_rfl) ((List.Sublist.refl _)) rfl rfl rfl ?_
          refine ExD.pass (i := 8) rfl (by kernel_rfl) ((List.Sublist.refl _)) rfl rfl rfl ?_
          refine ExD.pass (i := 9) rfl (by kernel_rfl) ((List.Sublist.refl _)) rfl rfl rfl ?_
          refine ExD.pass (i := 10) rfl (by kernel_rfl) ((List.Sublist.refl _)) rfl rfl rfl ?_
          refine ExD.pass (i := 11) rfl (by kernel_rfl) ((List.Sublist.refl _)) rfl rfl rfl ?_
          refine ExD.take (i := 12) rfl (by kernel_rfl) (pureVal_ok rfl) ((List.Sublist.refl _)) rfl rfl rfl ?_
          refine ExD.done (by kernel_rfl) ?_
          refine Ex.cond_f rfl ?_
          refine Ex.skip ?_
          refine Ex.regSeq (ExL.pures 2 rfl ?_)
          refine ExL.free (fr_load rfl rfl rfl rfl (CellO.blk (i := 0) rfl rfl)) rfl rfl rfl ?_
          refine ExL.pures 2 rfl ?_
          refine ExL.op rfl (op_storeC (i := 1) rfl rfl rfl rfl rfl rfl rfl rfl rfl rfl ?_)
          refine ExL.nil ?_
          refine Ex.region (ExL.pures 2 rfl ?_)
          refine ExL.op rfl (op_ret rfl rfl rfl (c_shows (⟨d.stack, d.shows, a.n, d.stopped, d.tickets⟩ : VDev) (by assumption) (by assumption) (by assumption) _ _ _) (fun w hw => ⟨Reads.get (Reads.blk (i := 1) rfl) w hw, Reads.get (Reads.row (i := 2) rfl) w hw⟩) rfl rfl (fun x11 hx11 => ?_))
          refine ExL.pures 2 rfl ?_
          refine ExL.op rfl (op_storeC (i := 1) rfl rfl rfl rfl rfl rfl rfl rfl rfl rfl ?_)
          refine ExL.nil ?_
          refine Ex.regSeq (ExL.pures 2 rfl ?_)
          refine ExL.nil ?_
          refine Ex.ret ?_
          refine MutQ.mk () rfl (.tmp rfl (.tmp rfl .nil)) (t2 (vI (by first | (rw [do_1 (by assumption)]; first | done | rfl) | (rw [do_2 (by assumption)]; first | done | rfl) | (rw [do_3n (by assumption) (by omega)]; first | done | rfl) | (rw [do_3 (by assumption) (by omega)]; first | done | rfl) | (rw [do_4 (by assumption)]; first | done | rfl) | (rw [do_5n (by assumption) (by omega)]; first | done | rfl) | (rw [do_5 (by assumption) (by omega)]; first | done | rfl) | (rw [do_0 (by assumption) (by assumption) (by assumption) (by assumption) (by assumption)]; first | done | rfl))) (vI (by first | (rw [do_1 (by assumption)]; first | done | rfl) | (rw [do_2 (by assumption)]; first | done | rfl) | (rw [do_3n (by assumption) (by omega)]; first | done | rfl) | (rw [do_3 (by assumption) (by omega)]; first | done | rfl) | (rw [do_4 (by assumption)]; first | done | rfl) | (rw [do_5n (by assumption) (by omega)]; first | done | rfl) | (rw [do_5 (by assumption) (by omega)]; first | done | rfl) | (rw [do_0 (by assumption) (by assumption) (by assumption) (by assumption) (by assumption)]; first | done | rfl)))) 3 [1, 2] (by first | (rw [do_1 (by assumption)]; first | done | rfl) | (rw [do_2 (by assumption)]; first | done | rfl) | (rw [do_3n (by assumption) (by omega)]; first | done | rfl) | (rw [do_3 (by assumption) (by omega)]; first | done | rfl) | (rw [do_4 (by assumption)]; first | done | rfl) | (rw [do_5n (by assumption) (by omega)]; first | done | rfl) | (rw [do_5 (by assumption) (by omega)]; first | done | rfl) | (rw [do_0 (by assumption) (by assumption) (by assumption) (by assumption) (by assumption)]; first | done | rfl)) rfl (trivial)
      · refine ExL.pures 1 rfl ?_
        refine ExL.nil ?_
        refine Ex.cond_f rfl ?_
        refine Ex.regSeq (ExL.pures 0 rfl ?_)
        refine ExL.eql rfl rfl rfl rfl rfl rfl (fun h12 => ?_) (fun h12 => ?_)
        · refine ExL.pures 1 rfl ?_
          refine ExL.nil ?_
          refine Ex.cond_t rfl ?_
          refine Ex.regSeq (ExL.pures 1 rfl ?_)
          refine ExL.free (fr_build rfl rfl rfl rfl) rfl rfl rfl ?_
          refine ExL.pures 2 rfl ?_
          refine ExL.op rfl (op_storeC (i := 1) rfl rfl rfl rfl rfl rfl rfl rfl rfl rfl ?_)
          refine ExL.nil ?_
          refine Ex.region (ExL.pures 4 rfl ?_)
          refine ExL.free (fr_load rfl rfl rfl rfl (CellO.blk (i := 1) rfl rfl)) rfl rfl rfl ?_
          refine ExL.free (fr_eql rfl rfl rfl) rfl rfl rfl ?_
          refine ExL.pures 2 rfl ?_
          refine ExL.op rfl (op_storeC (i := 1) rfl rfl rfl rfl rfl rfl rfl rfl rfl rfl ?_)
          refine ExL.nil ?_
          refine Ex.regSeq (ExL.pures 2 rfl ?_)
          refine ExL.nil ?_
          refine Ex.ret ?_
          refine MutQ.mk () rfl (.tmp rfl (.tmp rfl .nil)) (t2 (vI (by first | (rw [do_1 (by assumption)]; first | done | rfl) | (rw [do_2 (by assumption)]; first | done | rfl) | (rw [do_3n (by assumption) (by omega)]; first | done | rfl) | (rw [do_3 (by assumption) (by omega)]; first | done | rfl) | (rw [do_4 (by assumption)]; first | done | rfl) | (rw [do_5n (by assumption) (by omega)]; first | done | rfl) | (rw [do_5 (by assumption) (by omega)]; first | done | rfl) | (rw [do_0 (by assumption) (by assumption) (by assumption) (by assumption) (by assumption)]; first | done | rfl))) (vI (by first | (rw [do_1 (by assumption)]; first | done | rfl) | (rw [do_2 (by assumption)]; first | done | rfl) | (rw [do_3n (by assumption) (by omega)]; first | done | rfl) | (rw [do_3 (by assumption) (by omega)]; first | done | rfl) | (rw [do_4 (by assumption)]; first | done | rfl) | (rw [do_5n (by assumption) (by omega)]; first | done | rfl) | (rw [do_5 (by assumption) (by omega)]; first | done | rfl) | (rw [do_0 (by assumption) (by assumption) (by assumption) (by assumption) (by assumption)]; first | done | rfl)))) 3 [1, 2] (by first | (rw [do_1 (by assumption)]; first | done | rfl) | (rw [do_2 (by assumption)]; first | done | rfl) | (rw [do_3n (by assumption) (by omega)]; first | done | rfl) | (rw [do_3 (by assumption) (by omega)]; first | done | rfl) | (rw [do_4 (by assumption)]; first | done | rfl) | (rw [do_5n (by assumption) (by omega)]; first | done | rfl) | (rw [do_5 (by assumption) (by omega)]; first | done | rfl) | (rw [do_0 (by assumption) (by assumption) (by assumption) (by assumption) (by assumption)]; first | done | rfl)) rfl (trivial)
        · refine ExL.pures 1 rfl ?_
          refine ExL.nil ?_
          refine Ex.cond_f rfl ?_
          refine Ex.regSeq (ExL.pures 0 rfl ?_)
          refine ExL.eql rfl rfl rfl rfl rfl rfl (fun h13 => ?_) (fun h13 => ?_)
          · refine ExL.pures 1 rfl ?_
            refine ExL.nil ?_
            refine Ex.cond_t rfl ?_
            refine Ex.seq ?_
            refine Ex.regSeq (ExL.pures 3 rfl ?_)
            refine ExL.free (fr_load rfl rfl rfl rfl (CellO.blk (i := 1) rfl rfl)) rfl rfl rfl ?_
            refine ExL.eql rfl rfl rfl rfl rfl rfl (fun h14 => ?_) (fun h14 => ?_)
            · refine ExL.nil ?_
              refine Ex.cond_t rfl ?_
              refine Ex.regSeq (ExL.pures 2 rfl ?_)
              refine ExL.nil ?_
              refine Ex.ret ?_
              refine MutQ.mk () rfl (.tmp rfl (.tmp rfl .nil)) (t2 (vI (by first | (rw [do_1 (by assumption)]; first | done | rfl) | (rw [do_2 (by assumption)]; first | done | rfl) | (rw [do_3n (by assumption) (by omega)]; first | done | rfl) | (rw [do_3 (by assumption) (by omega)]; first | done | rfl) | (rw [do_4 (by assumption)]; first | done | rfl) | (rw [do_5n (by assumption) (by omega)]; first | done | rfl) | (rw [do_5 (by assumption) (by omega)]; first | done | rfl) | (rw [do_0 (by assumption) (by assumption) (by assumption) (by assumption) (by assumption)]; first | done | rfl))) (vI (by first | (rw [do_1 (by assumption)]; first | done | rfl) | (rw [do_2 (by assumption)]; first | done | rfl) | (rw [do_3n (by assumption) (by omega)]; first | done | rfl) | (rw [do_3 (by assumption) (by omega)]; first | done | rfl) | (rw [do_4 (by assumption)]; first | done | rfl) | (rw [do_5n (by assumption) (by omega)]; first | done | rfl) | (rw [do_5 (by assumption) (by omega)]; first | done | rfl) | (rw [do_0 (by assumption) (by assumption) (by assumption) (by assumption) (by assumption)]; first | done | rfl)))) 3 [1, 2] (by first | (rw [do_1 (by assumption)]; first | done | rfl) | (rw [do_2 (by assumption)]; first | done | rfl) | (rw [do_3n (by assumption) (by omega)]; first | done | rfl) | (rw [do_3 (by assumption) (by omega)]; first | done | rfl) | (rw [do_4 (by assumption)]; first | done | rfl) | (rw [do_5n (by assumption) (by omega)]; first | done | rfl) | (rw [do_5 (by assumption) (by omega)]; first | done | rfl) | (rw [do_0 (by assumption) (by assumption) (by assumption) (by assumption) (by assumption)]; first | done | rfl)) rfl (trivial)
            · refine ExL.nil ?_
              refine Ex.cond_f rfl ?_
              refine Ex.skip ?_
              refine Ex.region (ExL.pures 3 rfl ?_)
              refine ExL.free (fr_load rfl rfl rfl rfl (CellO.blk (i := 1) rfl rfl)) rfl rfl rfl ?_
              refine ExL.free (by first | exact fr_add64 rfl rfl rfl (by omega) | exact fr_add rfl rfl rfl) rfl rfl rfl ?_
              refine ExL.pures 2 rfl ?_
              refine ExL.op rfl (op_storeC (i := 1) rfl rfl rfl rfl rfl rfl rfl rfl rfl rfl ?_)
              refine ExL.nil ?_
              refine Ex.regSeq (ExL.pures 2 rfl ?_)
              refine ExL.nil ?_
              refine Ex.ret ?_
              refine MutQ.mk () rfl (.tmp rfl (.tmp rfl .nil)) (t2 (vI (by first | (rw [do_1 (by assumption)]; first | done | rfl) | (rw [do_2 (by assumption)]; first | done | rfl) | (rw [do_3n (by assumption) (by omega)]; first | done | rfl) | (rw [do_3 (by assumption) (by omega)]; first | done | rfl) | (rw [do_4 (by assumption)]; first | done | rfl) | (rw [do_5n (by assumption) (by omega)]; first | done | rfl) | (rw [do_5 (by assumption) (by omega)]; first | done | rfl) | (rw [do_0 (by assumption) (by assumption) (by assumption) (by assumption) (by assumption)]; first | done | rfl))) (vI (by first | (rw [do_1 (by assumption)]; first | done | rfl) | (rw [do_2 (by assumption)]; first | done | rfl) | (rw [do_3n (by assumption) (by omega)]; first | done | rfl) | (rw [do_3 (by assumption) (by omega)]; first | done | rfl) | (rw [do_4 (by assumption)]; first | done | rfl) | (rw [do_5n (by assumption) (by omega)]; first | done | rfl) | (rw [do_5 (by assumption) (by omega)]; first | done | rfl) | (rw [do_0 (by assumption) (by assumption) (by assumption) (by assumption) (by assumption)]; first | done | rfl)))) 3 [1, 2] (by first | (rw [do_1 (by assumption)]; first | done | rfl) | (rw [do_2 (by assumption)]; first | done | rfl) | (rw [do_3n (by assumption) (by omega)]; first | done | rfl) | (rw [do_3 (by assumption) (by omega)]; first | done | rfl) | (rw [do_4 (by assumption)]; first | done | rfl) | (rw [do_5n (by assumption) (by omega)]; first | done | rfl) | (rw [do_5 (by assumption) (by omega)]; first | done | rfl) | (rw [do_0 (by assumption) (by assumption) (by assumption) (by assumption) (by assumption)]; first | done | rfl)) rfl (trivial)
          · refine ExL.pures 1 rfl ?_
            refine ExL.nil ?_
            refine Ex.cond_f rfl ?_
            refine Ex.skip ?_
            refine Ex.regSeq (ExL.pures 2 rfl ?_)
            refine ExL.nil ?_
            refine Ex.ret ?_
            refine MutQ.mk () rfl (.tmp rfl (.tmp rfl .nil)) (t2 (vI (by first | (rw [do_1 (by assumption)]; first | done | rfl) | (rw [do_2 (by assumption)]; first | done | rfl) | (rw [do_3n (by assumption) (by omega)]; first | done | rfl) | (rw [do_3 (by assumption) (by omega)]; first | done | rfl) | (rw [do_4 (by assumption)]; first | done | rfl) | (rw [do_5n (by assumption) (by omega)]; first | done | rfl) | (rw [do_5 (by assumption) (by omega)]; first | done | rfl) | (rw [do_0 (by assumption) (by assumption) (by assumption) (by assumption) (by assumption)]; first | done | rfl))) (vI (by first | (rw [do_1 (by assumption)]; first | done | rfl) | (rw [do_2 (by assumption)]; first | done | rfl) | (rw [do_3n (by assumption) (by omega)]; first | done | rfl) | (rw [do_3 (by assumption) (by omega)]; first | done | rfl) | (rw [do_4 (by assumption)]; first | done | rfl) | (rw [do_5n (by assumption) (by omega)]; first | done | rfl) | (rw [do_5 (by assumption) (by omega)]; first | done | rfl) | (rw [do_0 (by assumption) (by assumption) (by assumption) (by assumption) (by assumption)]; first | done | rfl)))) 3 [1, 2] (by first | (rw [do_1 (by assumption)]; first | done | rfl) | (rw [do_2 (by assumption)]; first | done | rfl) | (rw [do_3n (by assumption) (by omega)]; first | done | rfl) | (rw [do_3 (by assumption) (by omega)]; first | done | rfl) | (rw [do_4 (by assumption)]; first | done | rfl) | (rw [do_5n (by assumption) (by omega)]; first | done | rfl) | (rw [do_5 (by assumption) (by omega)]; first | done | rfl) | (rw [do_0 (by assumption) (by assumption) (by assumption) (by assumption) (by assumption)]; first | done | rfl)) rfl (trivial)
theorem e_127 : Enters Try.prog 127 := Enters.of Try.func127 rfl
theorem c_l07Do (d : VDev) (hk : OkDev d) (hv : validDev d = true) (Ad : Option Addr) (cd : Nat) (b : Nat) (a : VAct) (hact : validAct a = true) : Mut Try.prog 127 [.pointer (some ⟨b, 0, none⟩), .agg (encA a).toArray] [.blk b (encV Ad cd d) 38, .row (.slice Ad d.stack.length cd) 5 1 d.stack.length (d.stack.flatMap (eI .u8))] (fun base w0 F => True) (fun x : Unit => .tuple #[.int .i64 (doV d a).2.1, .int .i64 (doV d a).2.2]) (fun x => [.blk b (encV Ad cd (doV d a).1) 38, .row (.slice Ad d.stack.length cd) 5 1 d.stack.length (d.stack.flatMap (eI .u8))]) (fun x => True) := by
  refine Mut.of e_127 Try.func127 rfl Try.ntmps127 rfl rfl (fun base w0 F hfr => ?_)
  have hkk := hk
  have han := act_n hact
  obtain ⟨hl, hu, ha, hpp, htt⟩ := hk
  have hO := devOk ha hv
  have hvs : validStack d.stack = true := by unfold validDev at hv; rw [decide_eq_true_iff] at hv; exact hv.1
  have hvd := hO.vd
  have hm0 : maxLen = 9223372036854775807 := rfl
  have hz := sizeS hO
  have hle := hO.stk.le
  have hps := hO.stk.pos
  have hlt : 0 ≤ val d.stack d.shows.l ∧ val d.stack d.shows.l < prod d.stack := hO.v_lt
  have hpr := hO.preset
  have htk := hO.tick
  refine Ex.regSeq (ExL.pures 0 rfl ?_)
  refine ExL.op rfl (op_box rfl rfl rfl rfl rfl (fun b1 => ?_))
  refine ExL.pures 2 rfl ?_
  refine ExL.nil ?_
  refine Ex.seq ?_
  refine Ex.regSeq (ExL.pures 1 rfl ?_)
  refine ExL.free (fr_load rfl rfl rfl rfl (CellO.blk (i := 0) rfl rfl)) rfl rfl rfl ?_
  refine ExL.nil ?_
  refine Ex.block ?_
  refine Ex.regSeq (ExL.pures 0 rfl ?_)
  refine ExL.eql rfl rfl rfl rfl rfl rfl (fun h2 => ?_) (fun h2 => ?_)
  · refine ExL.pures 1 rfl ?_
    refine ExL.nil ?_
    refine Ex.cond_t rfl ?_
    refine Ex.regSeq (ExL.pures 2 rfl ?_)
    refine ExL.free (fr_load rfl rfl rfl rfl (CellO.blk (i := 0) rfl rfl)) rfl rfl rfl ?_
    refine ExL.op rfl (op_mut rfl rfl rfl (c_l07Count_f d (by assumption) (by assumption) _ _ _ _ (by omega)) (perm_lt (i := 1) (j := 2) rfl rfl rfl) (trivial) rfl rfl (fun x3 hx3 => ?_))
    refine ExL.pures 2 rfl ?_
    refine ExL.nil ?_
    refine Ex.ret ?_
    refine MutQ.mk () rfl (.tmp rfl (.tmp rfl .nil)) (t2 (vI (by first | (rw [do_1 (by assumption)]; first | done | rfl) | (rw [do_2 (by assumption)]; first | done | rfl) | (rw [do_3n (by assumption) (by omega)]; first | done | rfl) | (rw [do_3 (by assumption) (by omega)]; first | done | rfl) | (rw [do_4 (by assumption)]; first | done | rfl) | (rw [do_5n (by assumption) (by omega)]; first | done | rfl) | (rw [do_5 (by assumption) (by omega)]; first | done | rfl) | (rw [do_0 (by assumption) (by assumption) (by assumption) (by assumption) (by assumption)]; first | done | rfl))) (vI (by first | (rw [do_1 (by assumption)]; first | done | rfl) | (rw [do_2 (by assumption)]; first | done | rfl) | (rw [do_3n (by assumption) (by omega)]; first | done | rfl) | (rw [do_3 (by assumption) (by omega)]; first | done | rfl) | (rw [do_4 (by assumption)]; first | done | rfl) | (rw [do_5n (by assumption) (by omega)]; first | done | rfl) | (rw [do_5 (by assumption) (by omega)]; first | done | rfl) | (rw [do_0 (by assumption) (by assumption) (by assumption) (by assumption) (by assumption)]; first | done | rfl)))) 3 [0, 1] (by first | (rw [do_1 (by assumption)]; first | done | rfl) | (rw [do_2 (by assumption)]; first | done | rfl) | (rw [do_3n (by assumption) (by omega)]; first | done | rfl) | (rw [do_3 (by assumption) (by omega)]; first | done | rfl) | (rw [do_4 (by assumption)]; first | done | rfl) | (rw [do_5n (by assumption) (by omega)]; first | done | rfl) | (rw [do_5 (by assumption) (by omega)]; first | done | rfl) | (rw [do_0 (by assumption) (by assumption) (by assumption) (by assumption) (by assumption)]; first | done | rfl)) rfl (trivial)
  · refine ExL.pures 1 rfl ?_
    refine ExL.nil ?_
    refine Ex.cond_f rfl ?_
    refine Ex.regSeq (ExL.pures 0 rfl ?_)
    refine ExL.eql rfl rfl rfl rfl rfl rfl (fun h4 => ?_) (fun h4 => ?_)
    · refine ExL.pures 1 rfl ?_
      refine ExL.nil ?_
      refine Ex.cond_t rfl ?_
      refine Ex.regSeq (ExL.pures 2 rfl ?_)
      refine ExL.free (fr_load rfl rfl rfl rfl (CellO.blk (i := 0) rfl rfl)) rfl rfl rfl ?_
      refine ExL.op rfl (op_mut rfl rfl rfl (c_l07Count_t d (by assumption) (by assumption) _ _ _ _ (by omega)) (perm_lt (i := 1) (j := 2) rfl rfl rfl) (trivial) rfl rfl (fun x5 hx5 => ?_))
      refine ExL.pures 2 rfl ?_
      refine ExL.nil ?_
      refine Ex.ret ?_
      refine MutQ.mk () rfl (.tmp rfl (.tmp rfl .nil)) (t2 (vI (by first | (rw [do_1 (by assumption)]; first | done | rfl) | (rw [do_2 (by assumption)]; first | done | rfl) | (rw [do_3n (by assumption) (by omega)]; first | done | rfl) | (rw [do_3 (by assumption) (by omega)]; first | done | rfl) | (rw [do_4 (by assumption)]; first | done | rfl) | (rw [do_5n (by assumption) (by omega)]; first | done | rfl) | (rw [do_5 (by assumption) (by omega)]; first | done | rfl) | (rw [do_0 (by assumption) (by assumption) (by assumption) (by assumption) (by assumption)]; first | done | rfl))) (vI (by first | (rw [do_1 (by assumption)]; first | done | rfl) | (rw [do_2 (by assumption)]; first | done | rfl) | (rw [do_3n (by assumption) (by omega)]; first | done | rfl) | (rw [do_3 (by assumption) (by omega)]; first | done | rfl) | (rw [do_4 (by assumption)]; first | done | rfl) | (rw [do_5n (by assumption) (by omega)]; first | done | rfl) | (rw [do_5 (by assumption) (by omega)]; first | done | rfl) | (rw [do_0 (by assumption) (by assumption) (by assumption) (by assumption) (by assumption)]; first | done | rfl)))) 3 [0, 1] (by first | (rw [do_1 (by assumption)]; first | done | rfl) | (rw [do_2 (by assumption)]; first | done | rfl) | (rw [do_3n (by assumption) (by omega)]; first | done | rfl) | (rw [do_3 (by assumption) (by omega)]; first | done | rfl) | (rw [do_4 (by assumption)]; first | done | rfl) | (rw [do_5n (by assumption) (by omega)]; first | done | rfl) | (rw [do_5 (by assumption) (by omega)]; first | done | rfl) | (rw [do_0 (by assumption) (by assumption) (by assumption) (by assumption) (by assumption)]; first | done | rfl)) rfl (trivial)
    · refine ExL.pures 1 rfl ?_
      refine ExL.nil ?_
      refine Ex.cond_f rfl ?_
      refine Ex.regSeq (ExL.pures 0 rfl ?_)
      refine ExL.eql rfl rfl rfl rfl rfl rfl (fun h6 => ?_) (fun h6 => ?_)
      · refine ExL.pures 1 rfl ?_
        refine ExL.nil ?_
        refine Ex.cond_t rfl ?_
        refine Ex.seq ?_
        refine Ex.drawSeqM rfl ?_
        refine ExD.take (i := 0) rfl (by kernel_rfl) (pureVal_ok rfl) ((List.Sublist.refl _)) rfl rfl rfl ?_
        refine ExD.take (i := 1) rfl (by kernel_rfl) (fr_load rfl rfl rfl rfl (CellO.blk (i := 0) rfl rfl)) ((List.Sublist.refl _)) rfl rfl rfl ?_
        refine ExD.take (i := 2) rfl (by kernel_rfl) (pureVal_ok rfl) ((List.Sublist.refl _)) rfl rfl rfl ?_
        refine ExD.take (i := 3) rfl (by kernel_rfl) (pureVal_ok rfl) ((List.Sublist.refl _)) rfl rfl rfl ?_
        refine ExD.take (i := 4) rfl (by kernel_rfl) (pureVal_ok rfl) ((List.Sublist.refl _)) rfl rfl rfl ?_
        refine ExD.take (i := 5) rfl (by kernel_rfl) (fr_load rfl rfl rfl rfl (CellO.blk (i := 1) rfl rfl)) ((List.Sublist.refl _)) rfl rfl rfl ?_
        refine ExD.op (i := 6) rfl (by kernel_rfl) rfl (op_ret rfl rfl rfl (c_l01Size _ (by assumption) _ _ (by first | assumption | omega | (unfold maxLen; omega))) (Reads.get (Reads.row (i := 2) rfl)) rfl rfl (fun x7 hx7 => ⟨(List.Sublist.refl _), ?_⟩))
        refine ExD.cmp_geq (i := 7) rfl (by kernel_rfl) rfl rfl rfl ((List.Sublist.refl _)) rfl rfl rfl (fun h8 => ?_) (fun h8 => ?_)
        · refine ExD.done (by kernel_rfl) ?_
          refine Ex.cond_t rfl ?_
          refine Ex.regSeq (ExL.pures 2 rfl ?_)
          refine ExL.nil ?_
          refine Ex.ret ?_
          refine MutQ.mk () rfl (.tmp rfl (.tmp rfl .nil)) (t2 (vI (by first | (rw [do_1 (by assumption)]; first | done | rfl) | (rw [do_2 (by assumption)]; first | done | rfl) | (rw [do_3n (by assumption) (by omega)]; first | done | rfl) | (rw [do_3 (by assumption) (by omega)]; first | done | rfl) | (rw [do_4 (by assumption)]; first | done | rfl) | (rw [do_5n (by assumption) (by omega)]; first | done | rfl) | (rw [do_5 (by assumption) (by omega)]; first | done | rfl) | (rw [do_0 (by assumption) (by assumption) (by assumption) (by assumption) (by assumption)]; first | done | rfl))) (vI (by first | (rw [do_1 (by assumption)]; first | done | rfl) | (rw [do_2 (by assumption)]; first | done | rfl) | (rw [do_3n (by assumption) (by omega)]; first | done | rfl) | (rw [do_3 (by assumption) (by omega)]; first | done | rfl) | (rw [do_4 (by assumption)]; first | done | rfl) | (rw [do_5n (by assumption) (by omega)]; first | done | rfl) | (rw [do_5 (by assumption) (by omega)]; first | done | rfl) | (rw [do_0 (by assumption) (by assumption) (by assumption) (by assumption) (by assumption)]; first | done | rfl)))) 3 [1, 2] (by first | (rw [do_1 (by assumption)]; first | done | rfl) | (rw [do_2 (by assumption)]; first | done | rfl) | (rw [do_3n (by assumption) (by omega)]; first | done | rfl) | (rw [do_3 (by assumption) (by omega)]; first | done | rfl) | (rw [do_4 (by assumption)]; first | done | rfl) | (rw [do_5n (by assumption) (by omega)]; first | done | rfl) | (rw [do_5 (by assumption) (by omega)]; first | done | rfl) | (rw [do_0 (by assumption) (by assumption) (by assumption) (by assumption) (by assumption)]; first | done | rfl)) rfl (trivial)
        · refine ExD.done (by kernel_rfl) ?_
          refine Ex.cond_f rfl ?_
          refine Ex.skip ?_
          refine Ex.regSeq (ExL.pures 2 rfl ?_)
          refine ExL.free (fr_load rfl rfl rfl rfl (CellO.blk (i := 0) rfl rfl)) rfl rfl rfl ?_
          refine ExL.pures 2 rfl ?_
          refine ExL.op rfl (op_storeC (i := 1) rfl rfl rfl rfl rfl rfl rfl rfl rfl rfl ?_)
          refine ExL.nil ?_
          refine Ex.drawI [0, 2] rfl rfl ?_
          refine ExD.take (i := 0) rfl (by kernel_rfl) (pureVal_ok rfl) ((List.Sublist.cons_cons _ (List.Sublist.cons _ (List.Sublist.cons_cons _ (List.nil_sublist _))))) rfl rfl rfl ?_
          refine ExD.take (i := 1) rfl (by kernel_rfl) (pureVal_ok rfl) ((List.Sublist.cons_cons _ (List.Sublist.cons _ (List.Sublist.cons_cons _ (List.nil_sublist _))))) rfl rfl rfl ?_
          refine ExD.take (i := 2) rfl (by kernel_rfl) (fr_load rfl rfl rfl rfl (CellO.blk (i := 0) rfl rfl)) ((List.Sublist.cons_cons _ (List.Sublist.cons _ (List.Sublist.cons_cons _ (List.nil_sublist _))))) rfl rfl rfl ?_
          refine ExD.take (i := 3) rfl (by kernel_rfl) (pureVal_ok rfl) ((List.Sublist.cons_cons _ (List.Sublist.cons _ (List.Sublist.cons_cons _ (List.nil_sublist _))))) rfl rfl rfl ?_
          refine ExD.take (i := 4) rfl (by kernel_rfl) (pureVal_ok rfl) ((List.Sublist.cons_cons _ (List.Sublist.cons _ (List.Sublist.cons_cons _ (List.nil_sublist _))))) rfl rfl rfl ?_
          refine ExD.take (i := 5) rfl (by kernel_rfl) (pureVal_ok rfl) ((List.Sublist.cons_cons _ (List.Sublist.cons _ (List.Sublist.cons_cons _ (List.nil_sublist _))))) rfl rfl rfl ?_
          refine ExD.take (i := 7) rfl (by kernel_rfl) (pureVal_ok rfl) ((List.Sublist.cons_cons _ (List.Sublist.cons _ (List.Sublist.cons_cons _ (List.nil_sublist _))))) rfl rfl rfl ?_
          refine ExD.take (i := 8) rfl (by kernel_rfl) (pureVal_ok rfl) ((List.Sublist.cons_cons _ (List.Sublist.cons _ (List.Sublist.cons_cons _ (List.nil_sublist _))))) rfl rfl rfl ?_
          refine ExD.take (i := 9) rfl (by kernel_rfl) (pureVal_ok rfl) ((List.Sublist.cons_cons _ (List.Sublist.cons _ (List.Sublist.cons_cons _ (List.nil_sublist _))))) rfl rfl rfl ?_
          refine ExD.two (i := 6) (j := 10) rfl rfl (by kernel_rfl) (by kernel_rfl) (by kernel_rfl) rfl (List.Sublist.cons_cons _ (List.Sublist.cons _ (List.Sublist.cons_cons _ (List.nil_sublist _)))) rfl rfl rfl rfl rfl rfl rfl rfl rfl (fr_load rfl rfl rfl rfl (CellO.blk (i := 1) rfl rfl)) (fr_loadN rfl rfl rfl rfl rfl (SegO.part (i := 1) 8 rfl)) (fr_load rfl rfl rfl rfl (CellO.blk (i := 1) rfl rfl)) (fr_loadN rfl rfl rfl rfl rfl (SegO.part (i := 1) 8 rfl)) ?_
          refine ExD.op (i := 11) rfl (by kernel_rfl) rfl (op_ret rfl rfl rfl (c_l01Value d.stack (by first | assumption | simp_all) _ _ d.shows (by assumption) (by first | assumption | simp_all)) (Reads.get (Reads.row (i := 2) rfl)) rfl rfl (fun x9 hx9 => ⟨(List.Sublist.cons_cons _ (List.Sublist.cons _ (List.Sublist.cons_cons _ (List.nil_sublist _)))), ?_⟩))
          refine ExD.take (i := 12) rfl (by kernel_rfl) (fr_eql rfl rfl rfl) ((List.Sublist.cons_cons _ (List.Sublist.cons _ (List.Sublist.cons_cons _ (List.nil_sublist _))))) rfl rfl rfl ?_
          refine ExD.take (i := 13) rfl (by kernel_rfl) (pureVal_ok rfl) ((List.Sublist.cons_cons _ (List.Sublist.cons _ (List.Sublist.cons_cons _ (List.nil_sublist _))))) rfl rfl rfl ?_
          refine ExD.take (i := 14) rfl (by kernel_rfl) (pureVal_ok rfl) ((List.Sublist.cons_cons _ (List.Sublist.cons _ (List.Sublist.cons_cons _ (List.nil_sublist _))))) rfl rfl rfl ?_
          refine ExD.op (i := 15) rfl (by kernel_rfl) rfl (op_storeC (i := 1) rfl rfl rfl rfl rfl rfl rfl rfl rfl rfl ⟨(List.Sublist.cons_cons _ (List.Sublist.cons _ (List.Sublist.cons_cons _ (List.nil_sublist _)))), ?_⟩)
          refine ExD.done (by kernel_rfl) ?_
          refine Ex.regSeq (ExL.pures 2 rfl ?_)
          refine ExL.nil ?_
          refine Ex.ret ?_
          refine MutQ.mk () rfl (.tmp rfl (.tmp rfl .nil)) (t2 (vI (by first | (rw [do_1 (by assumption)]; first | done | rfl) | (rw [do_2 (by assumption)]; first | done | rfl) | (rw [do_3n (by assumption) (by omega)]; first | done | rfl) | (rw [do_3 (by assumption) (by omega)]; first | done | rfl) | (rw [do_4 (by assumption)]; first | done | rfl) | (rw [do_5n (by assumption) (by omega)]; first | done | rfl) | (rw [do_5 (by assumption) (by omega)]; first | done | rfl) | (rw [do_0 (by assumption) (by assumption) (by assumption) (by assumption) (by assumption)]; first | done | rfl))) (vI (by first | (rw [do_1 (by assumption)]; first | done | rfl) | (rw [do_2 (by assumption)]; first | done | rfl) | (rw [do_3n (by assumption) (by omega)]; first | done | rfl) | (rw [do_3 (by assumption) (by omega)]; first | done | rfl) | (rw [do_4 (by assumption)]; first | done | rfl) | (rw [do_5n (by assumption) (by omega)]; first | done | rfl) | (rw [do_5 (by assumption) (by omega)]; first | done | rfl) | (rw [do_0 (by assumption) (by assumption) (by assumption) (by assumption) (by assumption)]; first | done | rfl)))) 3 [1, 2] (by first | (rw [do_1 (by assumption)]; first | done | rfl) | (rw [do_2 (by assumption)]; first | done | rfl) | (rw [do_3n (by assumption) (by omega)]; first | done | rfl) | (rw [do_3 (by assumption) (by omega)]; first | done | rfl) | (rw [do_4 (by assumption)]; first | done | rfl) | (rw [do_5n (by assumption) (by omega)]; first | done | rfl) | (rw [do_5 (by assumption) (by omega)]; first | done | rfl) | (rw [do_0 (by assumption) (by assumption) (by assumption) (by assumption) (by assumption)]; first | done | rfl)) rfl (trivial)
      · refine ExL.pures 1 rfl ?_
        refine ExL.nil ?_
        refine Ex.cond_f rfl ?_
        refine Ex.regSeq (ExL.pures 0 rfl ?_)
        refine ExL.eql rfl rfl rfl rfl rfl rfl (fun h10 => ?_) (fun h10 => ?_)
        · refine ExL.pures 1 rfl ?_
          refine ExL.nil ?_
          refine Ex.cond_t rfl ?_
          refine Ex.regSeq (ExL.pures 1 rfl ?_)
          refine ExL.free (fr_build rfl rfl rfl rfl) rfl rfl rfl ?_
          refine ExL.pures 2 rfl ?_
          refine ExL.op rfl (op_storeC (i := 1) rfl rfl rfl rfl rfl rfl rfl rfl rfl rfl ?_)
          refine ExL.nil ?_
          refine Ex.region (ExL.pures 4 rfl ?_)
          refine ExL.free (fr_load rfl rfl rfl rfl (CellO.blk (i := 1) rfl rfl)) rfl rfl rfl ?_
          refine ExL.free (fr_eql rfl rfl rfl) rfl rfl rfl ?_
          refine ExL.pures 2 rfl ?_
          refine ExL.op rfl (op_storeC (i := 1) rfl rfl rfl rfl rfl rfl rfl rfl rfl rfl ?_)
          refine ExL.nil ?_
          refine Ex.regSeq (ExL.pures 2 rfl ?_)
          refine ExL.nil ?_
          refine Ex.ret ?_
          refine MutQ.mk () rfl (.tmp rfl (.tmp rfl .nil)) (t2 (vI (by first | (rw [do_1 (by assumption)]; first | done | rfl) | (rw [do_2 (by assumption)]; first | done | rfl) | (rw [do_3n (by assumption) (by omega)]; first | done | rfl) | (rw [do_3 (by assumption) (by omega)]; first | done | rfl) | (rw [do_4 (by assumption)]; first | done | rfl) | (rw [do_5n (by assumption) (by omega)]; first | done | rfl) | (rw [do_5 (by assumption) (by omega)]; first | done | rfl) | (rw [do_0 (by assumption) (by assumption) (by assumption) (by assumption) (by assumption)]; first | done | rfl))) (vI (by first | (rw [do_1 (by assumption)]; first | done | rfl) | (rw [do_2 (by assumption)]; first | done | rfl) | (rw [do_3n (by assumption) (by omega)]; first | done | rfl) | (rw [do_3 (by assumption) (by omega)]; first | done | rfl) | (rw [do_4 (by assumption)]; first | done | rfl) | (rw [do_5n (by assumption) (by omega)]; first | done | rfl) | (rw [do_5 (by assumption) (by omega)]; first | done | rfl) | (rw [do_0 (by assumption) (by assumption) (by assumption) (by assumption) (by assumption)]; first | done | rfl)))) 3 [1, 2] (by first | (rw [do_1 (by assumption)]; first | done | rfl) | (rw [do_2 (by assumption)]; first | done | rfl) | (rw [do_3n (by assumption) (by omega)]; first | done | rfl) | (rw [do_3 (by assumption) (by omega)]; first | done | rfl) | (rw [do_4 (by assumption)]; first | done | rfl) | (rw [do_5n (by assumption) (by omega)]; first | done | rfl) | (rw [do_5 (by assumption) (by omega)]; first | done | rfl) | (rw [do_0 (by assumption) (by assumption) (by assumption) (by assumption) (by assumption)]; first | done | rfl)) rfl (trivial)
        · refine ExL.pures 1 rfl ?_
          refine ExL.nil ?_
          refine Ex.cond_f rfl ?_
          refine Ex.regSeq (ExL.pures 0 rfl ?_)
          refine ExL.eql rfl rfl rfl rfl rfl rfl (fun h11 => ?_) (fun h11 => ?_)
          · refine ExL.pures 1 rfl ?_
            refine ExL.nil ?_
            refine Ex.cond_t rfl ?_
            refine Ex.seq ?_
            refine Ex.regSeq (ExL.pures 3 rfl ?_)
            refine ExL.free (fr_load rfl rfl rfl rfl (CellO.blk (i := 1) rfl rfl)) rfl rfl rfl ?_
            refine ExL.geq rfl rfl rfl rfl rfl rfl (fun h12 => ?_) (fun h12 => ?_)
            · refine ExL.nil ?_
              refine Ex.cond_t rfl ?_
              refine Ex.regSeq (ExL.pures 2 rfl ?_)
              refine ExL.nil ?_
              refine Ex.ret ?_
              refine MutQ.mk () rfl (.tmp rfl (.tmp rfl .nil)) (t2 (vI (by first | (rw [do_1 (by assumption)]; first | done | rfl) | (rw [do_2 (by assumption)]; first | done | rfl) | (rw [do_3n (by assumption) (by omega)]; first | done | rfl) | (rw [do_3 (by assumption) (by omega)]; first | done | rfl) | (rw [do_4 (by assumption)]; first | done | rfl) | (rw [do_5n (by assumption) (by omega)]; first | done | rfl) | (rw [do_5 (by assumption) (by omega)]; first | done | rfl) | (rw [do_0 (by assumption) (by assumption) (by assumption) (by assumption) (by assumption)]; first | done | rfl))) (vI (by first | (rw [do_1 (by assumption)]; first | done | rfl) | (rw [do_2 (by assumption)]; first | done | rfl) | (rw [do_3n (by assumption) (by omega)]; first | done | rfl) | (rw [do_3 (by assumption) (by omega)]; first | done | rfl) | (rw [do_4 (by assumption)]; first | done | rfl) | (rw [do_5n (by assumption) (by omega)]; first | done | rfl) | (rw [do_5 (by assumption) (by omega)]; first | done | rfl) | (rw [do_0 (by assumption) (by assumption) (by assumption) (by assumption) (by assumption)]; first | done | rfl)))) 3 [1, 2] (by first | (rw [do_1 (by assumption)]; first | done | rfl) | (rw [do_2 (by assumption)]; first | done | rfl) | (rw [do_3n (by assumption) (by omega)]; first | done | rfl) | (rw [do_3 (by assumption) (by omega)]; first | done | rfl) | (rw [do_4 (by assumption)]; first | done | rfl) | (rw [do_5n (by assumption) (by omega)]; first | done | rfl) | (rw [do_5 (by assumption) (by omega)]; first | done | rfl) | (rw [do_0 (by assumption) (by assumption) (by assumption) (by assumption) (by assumption)]; first | done | rfl)) rfl (trivial)
            · refine ExL.nil ?_
              refine Ex.cond_f rfl ?_
              refine Ex.skip ?_
              refine Ex.region (ExL.pures 3 rfl ?_)
              refine ExL.free (fr_load rfl rfl rfl rfl (CellO.blk (i := 1) rfl rfl)) rfl rfl rfl ?_
              refine ExL.free (by first | exact fr_add64 rfl rfl rfl (by omega) | exact fr_add rfl rfl rfl) rfl rfl rfl ?_
              refine ExL.pures 2 rfl ?_
              refine ExL.op rfl (op_storeC (i := 1) rfl rfl rfl rfl rfl rfl rfl rfl rfl rfl ?_)
              refine ExL.nil ?_
              refine Ex.regSeq (ExL.pures 2 rfl ?_)
              refine ExL.nil ?_
              refine Ex.ret ?_
              refine MutQ.mk () rfl (.tmp rfl (.tmp rfl .nil)) (t2 (vI (by first | (rw [do_1 (by assumption)]; first | done | rfl) | (rw [do_2 (by assumption)]; first | done | rfl) | (rw [do_3n (by assumption) (by omega)]; first | done | rfl) | (rw [do_3 (by assumption) (by omega)]; first | done | rfl) | (rw [do_4 (by assumption)]; first | done | rfl) | (rw [do_5n (by assumption) (by omega)]; first | done | rfl) | (rw [do_5 (by assumption) (by omega)]; first | done | rfl) | (rw [do_0 (by assumption) (by assumption) (by assumption) (by assumption) (by assumption)]; first | done | rfl))) (vI (by first | (rw [do_1 (by assumption)]; first | done | rfl) | (rw [do_2 (by assumption)]; first | done | rfl) | (rw [do_3n (by assumption) (by omega)]; first | done | rfl) | (rw [do_3 (by assumption) (by omega)]; first | done | rfl) | (rw [do_4 (by assumption)]; first | done | rfl) | (rw [do_5n (by assumption) (by omega)]; first | done | rfl) | (rw [do_5 (by assumption) (by omega)]; first | done | rfl) | (rw [do_0 (by assumption) (by assumption) (by assumption) (by assumption) (by assumption)]; first | done | rfl)))) 3 [1, 2] (by first | (rw [do_1 (by assumption)]; first | done | rfl) | (rw [do_2 (by assumption)]; first | done | rfl) | (rw [do_3n (by assumption) (by omega)]; first | done | rfl) | (rw [do_3 (by assumption) (by omega)]; first | done | rfl) | (rw [do_4 (by assumption)]; first | done | rfl) | (rw [do_5n (by assumption) (by omega)]; first | done | rfl) | (rw [do_5 (by assumption) (by omega)]; first | done | rfl) | (rw [do_0 (by assumption) (by assumption) (by assumption) (by assumption) (by assumption)]; first | done | rfl)) rfl (trivial)
          · refine ExL.pures 1 rfl ?_
            refine ExL.nil ?_
            refine Ex.cond_f rfl ?_
            refine Ex.skip ?_
            refine Ex.regSeq (ExL.pures 2 rfl ?_)
            refine ExL.nil ?_
            refine Ex.ret ?_
            refine MutQ.mk () rfl (.tmp rfl (.tmp rfl .nil)) (t2 (vI (by first | (rw [do_1 (by assumption)]; first | done | rfl) | (rw [do_2 (by assumption)]; first | done | rfl) | (rw [do_3n (by assumption) (by omega)]; first | done | rfl) | (rw [do_3 (by assumption) (by omega)]; first | done | rfl) | (rw [do_4 (by assumption)]; first | done | rfl) | (rw [do_5n (by assumption) (by omega)]; first | done | rfl) | (rw [do_5 (by assumption) (by omega)]; first | done | rfl) | (rw [do_0 (by assumption) (by assumption) (by assumption) (by assumption) (by assumption)]; first | done | rfl))) (vI (by first | (rw [do_1 (by assumption)]; first | done | rfl) | (rw [do_2 (by assumption)]; first | done | rfl) | (rw [do_3n (by assumption) (by omega)]; first | done | rfl) | (rw [do_3 (by assumption) (by omega)]; first | done | rfl) | (rw [do_4 (by assumption)]; first | done | rfl) | (rw [do_5n (by assumption) (by omega)]; first | done | rfl) | (rw [do_5 (by assumption) (by omega)]; first | done | rfl) | (rw [do_0 (by assumption) (by assumption) (by assumption) (by assumption) (by assumption)]; first | done | rfl)))) 3 [1, 2] (by first | (rw [do_1 (by assumption)]; first | done | rfl) | (rw [do_2 (by assumption)]; first | done | rfl) | (rw [do_3n (by assumption) (by omega)]; first | done | rfl) | (rw [do_3 (by assumption) (by omega)]; first | done | rfl) | (rw [do_4 (by assumption)]; first | done | rfl) | (rw [do_5n (by assumption) (by omega)]; first | done | rfl) | (rw [do_5 (by assumption) (by omega)]; first | done | rfl) | (rw [do_0 (by assumption) (by assumption) (by assumption) (by assumption) (by assumption)]; first | done | rfl)) rfl (trivial)
end Go.Proofs.Ytjopackngkfdhaa
