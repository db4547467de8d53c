/- What these functions of the program hand back, each proved by walking its operations. -/
import Derived.Test.YtjopackngkfdhaaProg
import Derived.Test.YtjopackngkfdhaaFw
import Derived.Test.YtjopackngkfdhaaGE
import Derived.Test.YtjopackngkfdhaaGD
set_option linter.unusedVariables false
set_option linter.unusedSimpArgs false
set_option maxRecDepth 4000
namespace Go.Proofs.Ytjopackngkfdhaa
open Go Go.Sx Go.RowKit Go.W Go.Proofs
attribute [local irreducible] Ex ExL ExD Op1 Free RetQ MutQ Reads CellO SegO LoadsAs
theorem e_121 : Enters Try.prog 121 := Enters.of Try.func121 rfl
theorem c_until (d : VDev) (hk : OkDev d) (hv : validDev d = true) (Ad : Option Addr) (cd : Nat) (b : Nat) (st : Int) (hst : st = 1 ∨ st = -1) : Ret Try.prog 121 [.pointer (some ⟨b, 0, none⟩), .int .i64 st] (fun w => Rd w (some ⟨b, 0, none⟩) (encV Ad cd d) ∧ Rd w Ad (d.stack.flatMap (eI .u8))) (fun x : Unit => .int .i64 (untilV d st)) (fun x => []) (fun x => True) := by
  refine Ret.of e_121 Try.func121 rfl Try.ntmps121 rfl rfl (fun w hpre => ?_)
  have hp := hpre.1.base
  have hd := hpre.2.base
  obtain ⟨hl, hu, ha, hpp, htt⟩ := hk
  have hO := devOk ha hv
  have hvs : validStack d.stack = true := by unfold validDev at hv; rw [decide_eq_true_iff] at hv; exact hv.1
  have hvd := hO.vd
  have hm0 : maxLen = 9223372036854775807 := rfl
  have hz := sizeS hO
  have hle := hO.stk.le
  have hps := hO.stk.pos
  have hlt : 0 ≤ val d.stack d.shows.l ∧ val d.stack d.shows.l < prod d.stack := hO.v_lt
  have hpr := hO.preset
  have htk := hO.tick
  have hm1 : -1000000000001 ≤ st * (d.preset - val d.stack d.shows.l) ∧ st * (d.preset - val d.stack d.shows.l) ≤ 1000000000001 := by rcases hst with rfl | rfl <;> omega
  have hs2 := size_two hO.stk
  refine Ex.regSeq (ExL.pures 1 rfl ?_)
  refine ExL.nil ?_
  refine Ex.drawSeqM rfl ?_
  refine ExD.take (i := 0) rfl (by kernel_rfl) (pureVal_ok rfl) ((List.Sublist.refl _)) rfl rfl rfl ?_
  refine ExD.take (i := 1) rfl (by kernel_rfl) (pureVal_ok rfl) ((List.Sublist.refl _)) rfl rfl rfl ?_
  refine ExD.take (i := 2) rfl (by kernel_rfl) (pureVal_ok rfl) ((List.Sublist.refl _)) rfl rfl rfl ?_
  refine ExD.take (i := 3) rfl (by kernel_rfl) (pureVal_ok rfl) ((List.Sublist.refl _)) rfl rfl rfl ?_
  refine ExD.take (i := 4) rfl (by kernel_rfl) (fr_load rfl rfl rfl rfl (CellO.at 9 (Reads.old hp) rfl)) ((List.Sublist.refl _)) rfl rfl rfl ?_
  refine ExD.take (i := 5) rfl (by kernel_rfl) (pureVal_ok rfl) ((List.Sublist.refl _)) rfl rfl rfl ?_
  refine ExD.take (i := 6) rfl (by kernel_rfl) (pureVal_ok rfl) ((List.Sublist.refl _)) rfl rfl rfl ?_
  refine ExD.take (i := 7) rfl (by kernel_rfl) (pureVal_ok rfl) ((List.Sublist.refl _)) rfl rfl rfl ?_
  refine ExD.take (i := 8) rfl (by kernel_rfl) (fr_load rfl rfl rfl rfl (CellO.at 0 (Reads.old hp) rfl)) ((List.Sublist.refl _)) rfl rfl rfl ?_
  refine ExD.take (i := 9) rfl (by kernel_rfl) (pureVal_ok rfl) ((List.Sublist.refl _)) rfl rfl rfl ?_
  refine ExD.take (i := 10) rfl (by kernel_rfl) (pureVal_ok rfl) ((List.Sublist.refl _)) rfl rfl rfl ?_
  refine ExD.take (i := 11) rfl (by kernel_rfl) (pureVal_ok rfl) ((List.Sublist.refl _)) rfl rfl rfl ?_
  refine ExD.take (i := 12) rfl (by kernel_rfl) (fr_loadN rfl rfl rfl rfl rfl (SegO.at 1 8 (Reads.old hp) rfl)) ((List.Sublist.refl _)) rfl rfl rfl ?_
  refine ExD.take (i := 16) rfl (by kernel_rfl) (pureVal_ok rfl) ((List.Sublist.refl _)) rfl rfl rfl ?_
  refine ExD.take (i := 17) rfl (by kernel_rfl) (pureVal_ok rfl) ((List.Sublist.refl _)) rfl rfl rfl ?_
  refine ExD.take (i := 18) rfl (by kernel_rfl) (pureVal_ok rfl) ((List.Sublist.refl _)) rfl rfl rfl ?_
  refine ExD.take (i := 19) rfl (by kernel_rfl) (fr_load rfl rfl rfl rfl (CellO.at 0 (Reads.old hp) rfl)) ((List.Sublist.refl _)) rfl rfl rfl ?_
  refine ExD.op (i := 13) rfl (by kernel_rfl) rfl (op_ret rfl rfl rfl (c_value d.stack (by first | assumption | simp_all) _ _ d.shows (by assumption) (by first | assumption | simp_all)) (Reads.get (Reads.old hd)) rfl rfl (fun x1 hx1 => ⟨(List.Sublist.refl _), ?_⟩))
  refine ExD.take (i := 14) rfl (by kernel_rfl) (by first | exact fr_sub64 rfl rfl rfl (by omega) | exact fr_sub rfl rfl rfl) ((List.Sublist.refl _)) rfl rfl rfl ?_
  refine ExD.take (i := 15) rfl (by kernel_rfl) (by first | exact fr_mul64 rfl rfl rfl (by omega) | exact fr_mul rfl rfl rfl) ((List.Sublist.refl _)) rfl rfl rfl ?_
  refine ExD.op (i := 20) rfl (by kernel_rfl) rfl (op_ret rfl rfl rfl (c_size _ (by assumption) _ _ (by first | assumption | omega | (unfold maxLen; omega))) (Reads.get (Reads.old hd)) rfl rfl (fun x2 hx2 => ⟨(List.Sublist.refl _), ?_⟩))
  refine ExD.op (i := 21) rfl (by kernel_rfl) rfl (op_ret rfl rfl rfl (c_wrapped _ _ (by omega) (by omega)) (fun _ _ => trivial) rfl rfl (fun x3 hx3 => ⟨(List.Sublist.refl _), ?_⟩))
  refine ExD.take (i := 22) rfl (by kernel_rfl) (pureVal_ok rfl) ((List.Sublist.refl _)) rfl rfl rfl ?_
  refine ExD.take (i := 23) rfl (by kernel_rfl) (pureVal_ok rfl) ((List.Sublist.refl _)) rfl rfl rfl ?_
  refine ExD.take (i := 24) rfl (by kernel_rfl) (pureVal_ok rfl) ((List.Sublist.refl _)) rfl rfl rfl ?_
  refine ExD.take (i := 25) rfl (by kernel_rfl) (pureVal_ok rfl) ((List.Sublist.refl _)) rfl rfl rfl ?_
  refine ExD.take (i := 26) rfl (by kernel_rfl) (pureVal_ok rfl) ((List.Sublist.refl _)) rfl rfl rfl ?_
  refine ExD.done (by kernel_rfl) ?_
  refine Ex.seq ?_
  refine Ex.regSeq (ExL.pures 1 rfl ?_)
  refine ExL.eql rfl rfl rfl rfl rfl rfl (fun h4 => ?_) (fun h4 => ?_)
  · refine ExL.nil ?_
    refine Ex.cond_t rfl ?_
    refine Ex.regSeq (ExL.pures 3 rfl ?_)
    refine ExL.free (fr_load rfl rfl rfl rfl (CellO.at 0 (Reads.old hp) rfl)) rfl rfl rfl ?_
    refine ExL.op rfl (op_ret rfl rfl rfl (c_size _ (by assumption) _ _ (by first | assumption | omega | (unfold maxLen; omega))) (Reads.get (Reads.old hd)) rfl rfl (fun x5 hx5 => ?_))
    refine ExL.pures 1 rfl ?_
    refine ExL.nil ?_
    refine Ex.ret ?_
    refine RetQ.mk () rfl (.tmp rfl .nil) (tI (by unfold untilV until1 VDev.v; rw [← hz]; first | rw [if_pos (by assumption)] | rw [if_neg (by assumption)])) [] (rfl) rfl (trivial)
  · refine ExL.nil ?_
    refine Ex.cond_f rfl ?_
    refine Ex.skip ?_
    refine Ex.regSeq (ExL.pures 2 rfl ?_)
    refine ExL.nil ?_
    refine Ex.ret ?_
    refine RetQ.mk () rfl (.tmp rfl .nil) (tI (by unfold untilV until1 VDev.v; rw [← hz]; first | rw [if_pos (by assumption)] | rw [if_neg (by assumption)])) [] (rfl) rfl (trivial)
theorem e_120 : Enters Try.prog 120 := Enters.of Try.func120 rfl
theorem c_l07Until (d : VDev) (hk : OkDev d) (hv : validDev d = true) (Ad : Option Addr) (cd : Nat) (b : Nat) (back : Bool) : Ret Try.prog 120 [.pointer (some ⟨b, 0, none⟩), .bool back] (fun w => Rd w (some ⟨b, 0, none⟩) (encV Ad cd d) ∧ Rd w Ad (d.stack.flatMap (eI .u8))) (fun x : Unit => .int .i64 (if d.preset < 0 then -1 else untilV d (bif back then -1 else 1))) (fun x => []) (fun x => True) := by
  refine Ret.of e_120 Try.func120 rfl Try.ntmps120 rfl rfl (fun w hpre => ?_)
  have hp := hpre.1.base
  have hd := hpre.2.base
  obtain ⟨hl, hu, ha, hpp, htt⟩ := hk
  have hO := devOk ha hv
  have hvs : validStack d.stack = true := by unfold validDev at hv; rw [decide_eq_true_iff] at hv; exact hv.1
  have hvd := hO.vd
  have hm0 : maxLen = 9223372036854775807 := rfl
  have hz := sizeS hO
  have hle := hO.stk.le
  have hps := hO.stk.pos
  have hlt : 0 ≤ val d.stack d.shows.l ∧ val d.stack d.shows.l < prod d.stack := hO.v_lt
  have hpr := hO.preset
  have htk := hO.tick
  have hs2 := size_two hO.stk
  refine Ex.regSeq (ExL.pures 1 rfl ?_)
  refine ExL.nil ?_
  refine Ex.seq ?_
  refine Ex.regSeq (ExL.pures 3 rfl ?_)
  refine ExL.free (fr_load rfl rfl rfl rfl (CellO.at 9 (Reads.old hp) rfl)) rfl rfl rfl ?_
  refine ExL.lss rfl rfl rfl rfl rfl rfl (fun h1 => ?_) (fun h1 => ?_)
  · refine ExL.nil ?_
    refine Ex.cond_t rfl ?_
    refine Ex.regSeq (ExL.pures 1 rfl ?_)
    refine ExL.nil ?_
    refine Ex.ret ?_
    refine RetQ.mk () rfl (.tmp rfl .nil) (tI (by first | rw [if_pos (by assumption)] | (rw [if_neg (by assumption)]; subst_vars; (first | rw [un_t] | rw [un_f]); first | (rw [until_small (by omega) (by omega) (by omega)]; omega) | rw [until_big (by omega) (by omega) (by omega)]))) [] (rfl) rfl (trivial)
  · refine ExL.nil ?_
    refine Ex.cond_f rfl ?_
    refine Ex.skip ?_
    refine Ex.drawSeqM rfl ?_
    refine ExD.take (i := 0) rfl (by kernel_rfl) (pureVal_ok rfl) ((List.Sublist.refl _)) rfl rfl rfl ?_
    refine ExD.take (i := 1) rfl (by kernel_rfl) (pureVal_ok rfl) ((List.Sublist.refl _)) rfl rfl rfl ?_
    refine ExD.take (i := 2) rfl (by kernel_rfl) (pureVal_ok rfl) ((List.Sublist.refl _)) rfl rfl rfl ?_
    refine ExD.take (i := 3) rfl (by kernel_rfl) (fr_load rfl rfl rfl rfl (CellO.at 9 (Reads.old hp) rfl)) ((List.Sublist.refl _)) rfl rfl rfl ?_
    refine ExD.take (i := 4) rfl (by kernel_rfl) (pureVal_ok rfl) ((List.Sublist.refl _)) rfl rfl rfl ?_
    refine ExD.take (i := 5) rfl (by kernel_rfl) (pureVal_ok rfl) ((List.Sublist.refl _)) rfl rfl rfl ?_
    refine ExD.take (i := 6) rfl (by kernel_rfl) (pureVal_ok rfl) ((List.Sublist.refl _)) rfl rfl rfl ?_
    refine ExD.take (i := 7) rfl (by kernel_rfl) (fr_load rfl rfl rfl rfl (CellO.at 0 (Reads.old hp) rfl)) ((List.Sublist.refl _)) rfl rfl rfl ?_
    refine ExD.take (i := 8) rfl (by kernel_rfl) (pureVal_ok rfl) ((List.Sublist.refl _)) rfl rfl rfl ?_
    refine ExD.take (i := 9) rfl (by kernel_rfl) (pureVal_ok rfl) ((List.Sublist.refl _)) rfl rfl rfl ?_
    refine ExD.take (i := 10) rfl (by kernel_rfl) (pureVal_ok rfl) ((List.Sublist.refl _)) rfl rfl rfl ?_
    refine ExD.take (i := 11) rfl (by kernel_rfl) (fr_loadN rfl rfl rfl rfl rfl (SegO.at 1 8 (Reads.old hp) rfl)) ((List.Sublist.refl _)) rfl rfl rfl ?_
    refine ExD.op (i := 12) rfl (by kernel_rfl) rfl (op_ret rfl rfl rfl (c_l01Value d.stack (by first | assumption | simp_all) _ _ d.shows (by assumption) (by first | assumption | simp_all)) (Reads.get (Reads.old hd)) rfl rfl (fun x2 hx2 => ⟨(List.Sublist.refl _), ?_⟩))
    refine ExD.take (i := 13) rfl (by kernel_rfl) (by first | exact fr_sub64 rfl rfl rfl (by omega) | exact fr_sub rfl rfl rfl) ((List.Sublist.refl _)) rfl rfl rfl ?_
    refine ExD.take (i := 14) rfl (by kernel_rfl) (pureVal_ok rfl) ((List.Sublist.refl _)) rfl rfl rfl ?_
    refine ExD.done (by kernel_rfl) ?_
    refine Ex.seq ?_
    refine Ex.regSeq (ExL.pures 1 rfl ?_)
    refine ExL.nil ?_
    refine Ex.cond rfl (fun hb3 => ?_) (fun hb3 => ?_)
    · refine Ex.region (ExL.pures 1 rfl ?_)
      refine ExL.free (by first | exact fr_neg64 rfl rfl (by omega) | exact fr_neg rfl rfl) rfl rfl rfl ?_
      refine ExL.pures 1 rfl ?_
      refine ExL.nil ?_
      refine Ex.seq ?_
      refine Ex.regSeq (ExL.pures 1 rfl ?_)
      refine ExL.leq rfl rfl rfl rfl rfl rfl (fun h4 => ?_) (fun h4 => ?_)
      · refine ExL.nil ?_
        refine Ex.cond_t rfl ?_
        refine Ex.region (ExL.pures 4 rfl ?_)
        refine ExL.free (fr_load rfl rfl rfl rfl (CellO.at 0 (Reads.old hp) rfl)) rfl rfl rfl ?_
        refine ExL.op rfl (op_ret rfl rfl rfl (c_l01Size _ (by assumption) _ _ (by first | assumption | omega | (unfold maxLen; omega))) (Reads.get (Reads.old hd)) rfl rfl (fun x5 hx5 => ?_))
        refine ExL.free (by first | exact fr_add64 rfl rfl rfl (by omega) | exact fr_add rfl rfl rfl) rfl rfl rfl ?_
        refine ExL.pures 1 rfl ?_
        refine ExL.nil ?_
        refine Ex.regSeq (ExL.pures 2 rfl ?_)
        refine ExL.nil ?_
        refine Ex.ret ?_
        refine RetQ.mk () rfl (.tmp rfl .nil) (tI (by first | rw [if_pos (by assumption)] | (rw [if_neg (by assumption)]; subst_vars; (first | rw [un_t] | rw [un_f]); first | (rw [until_small (by omega) (by omega) (by omega)]; omega) | rw [until_big (by omega) (by omega) (by omega)]))) [] (rfl) rfl (trivial)
      · refine ExL.nil ?_
        refine Ex.cond_f rfl ?_
        refine Ex.skip ?_
        refine Ex.regSeq (ExL.pures 2 rfl ?_)
        refine ExL.nil ?_
        refine Ex.ret ?_
        refine RetQ.mk () rfl (.tmp rfl .nil) (tI (by first | rw [if_pos (by assumption)] | (rw [if_neg (by assumption)]; subst_vars; (first | rw [un_t] | rw [un_f]); first | (rw [until_small (by omega) (by omega) (by omega)]; omega) | rw [until_big (by omega) (by omega) (by omega)]))) [] (rfl) rfl (trivial)
    · refine Ex.skip ?_
      refine Ex.seq ?_
      refine Ex.regSeq (ExL.pures 1 rfl ?_)
      refine ExL.leq rfl rfl rfl rfl rfl rfl (fun h6 => ?_) (fun h6 => ?_)
      · refine ExL.nil ?_
        refine Ex.cond_t rfl ?_
        refine Ex.region (ExL.pures 4 rfl ?_)
        refine ExL.free (fr_load rfl rfl rfl rfl (CellO.at 0 (Reads.old hp) rfl)) rfl rfl rfl ?_
        refine ExL.op rfl (op_ret rfl rfl rfl (c_l01Size _ (by assumption) _ _ (by first | assumption | omega | (unfold maxLen; omega))) (Reads.get (Reads.old hd)) rfl rfl (fun x7 hx7 => ?_))
        refine ExL.free (by first | exact fr_add64 rfl rfl rfl (by omega) | exact fr_add rfl rfl rfl) rfl rfl rfl ?_
        refine ExL.pures 1 rfl ?_
        refine ExL.nil ?_
        refine Ex.regSeq (ExL.pures 2 rfl ?_)
        refine ExL.nil ?_
        refine Ex.ret ?_
        refine RetQ.mk () rfl (.tmp rfl .nil) (tI (by first | rw [if_pos (by assumption)] | (rw [if_neg (by assumption)]; subst_vars; (first | rw [un_t] | rw [un_f]); first | (rw [until_small (by omega) (by omega) (by omega)]; omega) | rw [until_big (by omega) (by omega) (by omega)]))) [] (rfl) rfl (trivial)
      · refine ExL.nil ?_
        refine Ex.cond_f rfl ?_
        refine Ex.skip ?_
        refine Ex.regSeq (ExL.pures 2 rfl ?_)
        refine ExL.nil ?_
        refine Ex.ret ?_
        refine RetQ.mk () rfl (.tmp rfl .nil) (tI (by first | rw [if_pos (by assumption)] | (rw [if_neg (by assumption)]; subst_vars; (first | rw [un_t] | rw [un_f]); first | (rw [until_small (by omega) (by omega) (by omega)]; omega) | rw [until_big (by omega) (by omega) (by omega)]))) [] (rfl) rfl (trivial)
theorem e_57 : Enters Try.prog 57 := Enters.of Try.func57 rfl
theorem c_iPulsesUntilStop (d : VDev) (hk : OkDev d) (Ad : Option Addr) (cd : Nat) : Ret Try.prog 57 [.agg (encV Ad cd d).toArray] (fun w => Rd w Ad (d.stack.flatMap (eI .u8))) (fun x : Unit => .tuple #[.int .i64 (pulsesV d).1, .int .i64 (pulsesV d).2]) (fun x => []) (fun x => True) := by
  refine Ret.of e_57 Try.func57 rfl Try.ntmps57 rfl rfl (fun w hpre => ?_)
  have hd := hpre.base
  have hk2 := hk
  obtain ⟨hl, hu, ha, hpp, htt⟩ := hk2
  have hm0 : maxLen = 9223372036854775807 := rfl
  refine Ex.regSeq (ExL.pures 0 rfl ?_)
  refine ExL.op rfl (op_box rfl rfl rfl rfl rfl (fun b1 => ?_))
  refine ExL.pures 2 rfl ?_
  refine ExL.nil ?_
  refine Ex.seq ?_
  refine Ex.block ?_
  refine Ex.regSeq (ExL.pures 0 rfl ?_)
  refine ExL.free (fr_loadN rfl rfl rfl rfl rfl (SegO.whole (i := 0) rfl)) rfl rfl rfl ?_
  refine ExL.op rfl (op_ret rfl rfl rfl (c_iValidDevice d (by assumption) _ _) (Reads.get (Reads.old hd)) rfl rfl (fun x2 hx2 => ?_))
  refine ExL.pures 2 rfl ?_
  refine ExL.nil ?_
  refine Ex.cond rfl (fun hb3 => ?_) (fun hb3 => ?_)
  · replace hb3 := nb_t hb3
    refine Ex.regSeq (ExL.pures 2 rfl ?_)
    refine ExL.nil ?_
    refine Ex.ret ?_
    refine RetQ.mk () rfl (.tmp rfl (.tmp rfl .nil)) (t2 (vI (by first | (rw [if_neg (by assumption), pu_on (by assumption) (by omega) (by assumption)]; rfl) | rw [pu_bad (by assumption)] | rw [pu_neg ha (by assumption) (by omega)] | rw [pu_stop (by assumption) (by omega) (by assumption)] | rw [pu_on (by assumption) (by omega) (by assumption)])) (vI (by first | (rw [if_neg (by assumption), pu_on (by assumption) (by omega) (by assumption)]; rfl) | rw [pu_bad (by assumption)] | rw [pu_neg ha (by assumption) (by omega)] | rw [pu_stop (by assumption) (by omega) (by assumption)] | rw [pu_on (by assumption) (by omega) (by assumption)]))) [] (rfl) rfl (trivial)
  · replace hb3 := nb_f hb3
    refine Ex.regSeq (ExL.pures 1 rfl ?_)
    refine ExL.free (fr_load rfl rfl rfl rfl (CellO.blk (i := 0) rfl rfl)) rfl rfl rfl ?_
    refine ExL.eql rfl rfl rfl rfl rfl rfl (fun h4 => ?_) (fun h4 => ?_)
    · refine ExL.pures 1 rfl ?_
      refine ExL.nil ?_
      refine Ex.cond_t rfl ?_
      refine Ex.regSeq (ExL.pures 2 rfl ?_)
      refine ExL.nil ?_
      refine Ex.ret ?_
      refine RetQ.mk () rfl (.tmp rfl (.tmp rfl .nil)) (t2 (vI (by first | (rw [if_neg (by assumption), pu_on (by assumption) (by omega) (by assumption)]; rfl) | rw [pu_bad (by assumption)] | rw [pu_neg ha (by assumption) (by omega)] | rw [pu_stop (by assumption) (by omega) (by assumption)] | rw [pu_on (by assumption) (by omega) (by assumption)])) (vI (by first | (rw [if_neg (by assumption), pu_on (by assumption) (by omega) (by assumption)]; rfl) | rw [pu_bad (by assumption)] | rw [pu_neg ha (by assumption) (by omega)] | rw [pu_stop (by assumption) (by omega) (by assumption)] | rw [pu_on (by assumption) (by omega) (by assumption)]))) [] (rfl) rfl (trivial)
    · refine ExL.pures 1 rfl ?_
      refine ExL.nil ?_
      refine Ex.cond_f rfl ?_
      refine Ex.regSeq (ExL.pures 1 rfl ?_)
      refine ExL.free (fr_load rfl rfl rfl rfl (CellO.blk (i := 0) rfl rfl)) rfl rfl rfl ?_
      refine ExL.pures 1 rfl ?_
      refine ExL.nil ?_
      refine Ex.cond rfl (fun hb5 => ?_) (fun hb5 => ?_)
      · refine Ex.regSeq (ExL.pures 2 rfl ?_)
        refine ExL.nil ?_
        refine Ex.ret ?_
        refine RetQ.mk () rfl (.tmp rfl (.tmp rfl .nil)) (t2 (vI (by first | (rw [if_neg (by assumption), pu_on (by assumption) (by omega) (by assumption)]; rfl) | rw [pu_bad (by assumption)] | rw [pu_neg ha (by assumption) (by omega)] | rw [pu_stop (by assumption) (by omega) (by assumption)] | rw [pu_on (by assumption) (by omega) (by assumption)])) (vI (by first | (rw [if_neg (by assumption), pu_on (by assumption) (by omega) (by assumption)]; rfl) | rw [pu_bad (by assumption)] | rw [pu_neg ha (by assumption) (by omega)] | rw [pu_stop (by assumption) (by omega) (by assumption)] | rw [pu_on (by assumption) (by omega) (by assumption)]))) [] (rfl) rfl (trivial)
      · refine Ex.skip ?_
        refine Ex.regSeq (ExL.pures 0 rfl ?_)
        refine ExL.op rfl (op_ret rfl rfl rfl (c_until d (by first | assumption | exact ⟨by assumption, by assumption, by assumption, by assumption, by assumption⟩) (by assumption) _ _ _ (1) (by first | assumption | decide | omega)) (fun w hw => ⟨Reads.get (Reads.blk (i := 0) rfl) w hw, Reads.get (Reads.old hd) w hw⟩) rfl rfl (fun x6 hx6 => ?_))
        refine ExL.pures 2 rfl ?_
        refine ExL.nil ?_
        refine Ex.ret ?_
        refine RetQ.mk () rfl (.tmp rfl (.tmp rfl .nil)) (t2 (vI (by first | (rw [if_neg (by assumption), pu_on (by assumption) (by omega) (by assumption)]; rfl) | rw [pu_bad (by assumption)] | rw [pu_neg ha (by assumption) (by omega)] | rw [pu_stop (by assumption) (by omega) (by assumption)] | rw [pu_on (by assumption) (by omega) (by assumption)])) (vI (by first | (rw [if_neg (by assumption), pu_on (by assumption) (by omega) (by assumption)]; rfl) | rw [pu_bad (by assumption)] | rw [pu_neg ha (by assumption) (by omega)] | rw [pu_stop (by assumption) (by omega) (by assumption)] | rw [pu_on (by assumption) (by omega) (by assumption)]))) [] (rfl) rfl (trivial)
theorem e_56 : Enters Try.prog 56 := Enters.of Try.func56 rfl
theorem c_sPulsesUntilStop (d : VDev) (hk : OkDev d) (Ad : Option Addr) (cd : Nat) : Ret Try.prog 56 [.agg (encV Ad cd d).toArray] (fun w => Rd w Ad (d.stack.flatMap (eI .u8))) (fun x : Unit => .tuple #[.int .i64 (pulsesV d).1, .int .i64 (pulsesV d).2]) (fun x => []) (fun x => True) := by
  refine Ret.of e_56 Try.func56 rfl Try.ntmps56 rfl rfl (fun w hpre => ?_)
  have hd := hpre.base
  have hk2 := hk
  obtain ⟨hl, hu, ha, hpp, htt⟩ := hk2
  have hm0 : maxLen = 9223372036854775807 := rfl
  refine Ex.regSeq (ExL.pures 0 rfl ?_)
  refine ExL.op rfl (op_box rfl rfl rfl rfl rfl (fun b1 => ?_))
  refine ExL.pures 2 rfl ?_
  refine ExL.nil ?_
  refine Ex.seq ?_
  refine Ex.regSeq (ExL.pures 0 rfl ?_)
  refine ExL.op rfl (op_ret rfl rfl rfl (c_l07Ok d (by assumption) _ _ _) (fun w hw => ⟨Reads.get (Reads.blk (i := 0) rfl) w hw, Reads.get (Reads.old hd) w hw⟩) rfl rfl (fun x2 hx2 => ?_))
  refine ExL.pures 1 rfl ?_
  refine ExL.nil ?_
  refine Ex.cond rfl (fun hb3 => ?_) (fun hb3 => ?_)
  · replace hb3 := nb_t hb3
    refine Ex.regSeq (ExL.pures 2 rfl ?_)
    refine ExL.nil ?_
    refine Ex.ret ?_
    refine RetQ.mk () rfl (.tmp rfl (.tmp rfl .nil)) (t2 (vI (by first | (rw [if_neg (by assumption), pu_on (by assumption) (by omega) (by assumption)]; rfl) | rw [pu_bad (by assumption)] | rw [pu_neg ha (by assumption) (by omega)] | rw [pu_stop (by assumption) (by omega) (by assumption)] | rw [pu_on (by assumption) (by omega) (by assumption)])) (vI (by first | (rw [if_neg (by assumption), pu_on (by assumption) (by omega) (by assumption)]; rfl) | rw [pu_bad (by assumption)] | rw [pu_neg ha (by assumption) (by omega)] | rw [pu_stop (by assumption) (by omega) (by assumption)] | rw [pu_on (by assumption) (by omega) (by assumption)]))) [] (rfl) rfl (trivial)
  · replace hb3 := nb_f hb3
    refine Ex.skip ?_
    refine Ex.seq ?_
    refine Ex.regSeq (ExL.pures 1 rfl ?_)
    refine ExL.free (fr_load rfl rfl rfl rfl (CellO.blk (i := 0) rfl rfl)) rfl rfl rfl ?_
    refine ExL.lss rfl rfl rfl rfl rfl rfl (fun h4 => ?_) (fun h4 => ?_)
    · refine ExL.nil ?_
      refine Ex.cond_t rfl ?_
      refine Ex.regSeq (ExL.pures 2 rfl ?_)
      refine ExL.nil ?_
      refine Ex.ret ?_
      refine RetQ.mk () rfl (.tmp rfl (.tmp rfl .nil)) (t2 (vI (by first | (rw [if_neg (by assumption), pu_on (by assumption) (by omega) (by assumption)]; rfl) | rw [pu_bad (by assumption)] | rw [pu_neg ha (by assumption) (by omega)] | rw [pu_stop (by assumption) (by omega) (by assumption)] | rw [pu_on (by assumption) (by omega) (by assumption)])) (vI (by first | (rw [if_neg (by assumption), pu_on (by assumption) (by omega) (by assumption)]; rfl) | rw [pu_bad (by assumption)] | rw [pu_neg ha (by assumption) (by omega)] | rw [pu_stop (by assumption) (by omega) (by assumption)] | rw [pu_on (by assumption) (by omega) (by assumption)]))) [] (rfl) rfl (trivial)
    · refine ExL.nil ?_
      refine Ex.cond_f rfl ?_
      refine Ex.skip ?_
      refine Ex.seq ?_
      refine Ex.regSeq (ExL.pures 1 rfl ?_)
      refine ExL.free (fr_load rfl rfl rfl rfl (CellO.blk (i := 0) rfl rfl)) rfl rfl rfl ?_
      refine ExL.nil ?_
      refine Ex.cond rfl (fun hb5 => ?_) (fun hb5 => ?_)
      · refine Ex.regSeq (ExL.pures 2 rfl ?_)
        refine ExL.nil ?_
        refine Ex.ret ?_
        refine RetQ.mk () rfl (.tmp rfl (.tmp rfl .nil)) (t2 (vI (by first | (rw [if_neg (by assumption), pu_on (by assumption) (by omega) (by assumption)]; rfl) | rw [pu_bad (by assumption)] | rw [pu_neg ha (by assumption) (by omega)] | rw [pu_stop (by assumption) (by omega) (by assumption)] | rw [pu_on (by assumption) (by omega) (by assumption)])) (vI (by first | (rw [if_neg (by assumption), pu_on (by assumption) (by omega) (by assumption)]; rfl) | rw [pu_bad (by assumption)] | rw [pu_neg ha (by assumption) (by omega)] | rw [pu_stop (by assumption) (by omega) (by assumption)] | rw [pu_on (by assumption) (by omega) (by assumption)]))) [] (rfl) rfl (trivial)
      · refine Ex.skip ?_
        refine Ex.regSeq (ExL.pures 0 rfl ?_)
        refine ExL.op rfl (op_ret rfl rfl rfl (c_l07Until d (by first | assumption | exact ⟨by assumption, by assumption, by assumption, by assumption, by assumption⟩) (by assumption) _ _ _ false) (fun w hw => ⟨Reads.get (Reads.blk (i := 0) rfl) w hw, Reads.get (Reads.old hd) w hw⟩) rfl rfl (fun x6 hx6 => ?_))
        refine ExL.pures 2 rfl ?_
        refine ExL.nil ?_
        refine Ex.ret ?_
        refine RetQ.mk () rfl (.tmp rfl (.tmp rfl .nil)) (t2 (vI (by first | (rw [if_neg (by assumption), pu_on (by assumption) (by omega) (by assumption)]; rfl) | rw [pu_bad (by assumption)] | rw [pu_neg ha (by assumption) (by omega)] | rw [pu_stop (by assumption) (by omega) (by assumption)] | rw [pu_on (by assumption) (by omega) (by assumption)])) (vI (by first | (rw [if_neg (by assumption), pu_on (by assumption) (by omega) (by assumption)]; rfl) | rw [pu_bad (by assumption)] | rw [pu_neg ha (by assumption) (by omega)] | rw [pu_stop (by assumption) (by omega) (by assumption)] | rw [pu_on (by assumption) (by omega) (by assumption)]))) [] (rfl) rfl (trivial)
end Go.Proofs.Ytjopackngkfdhaa
