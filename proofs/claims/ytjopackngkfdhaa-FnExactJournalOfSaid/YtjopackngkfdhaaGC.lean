/- What these functions of the program hand back, each proved by walking its operations. -/
import Derived.Test.YtjopackngkfdhaaProg
import Derived.Test.YtjopackngkfdhaaFw
import Derived.Test.YtjopackngkfdhaaGB
set_option linter.unusedVariables false
set_option linter.unusedSimpArgs false
set_option maxRecDepth 4000
namespace Go.Proofs.Ytjopackngkfdhaa
open Go Go.Sx Go.RowKit Go.W Go.Proofs
attribute [local irreducible] Ex ExL ExD Op1 Free RetQ MutQ Reads CellO SegO LoadsAs
theorem e_24 : Enters Try.prog 24 := Enters.of Try.func24 rfl
theorem c_szDevice (d : VDev) (Ad : Option Addr) (cd : Nat) (hld : d.stack.length ≤ maxLen) (n : Int) (hn : 0 ≤ n ∧ n ≤ 1048576) : Ret Try.prog 24 [.agg (encV Ad cd d).toArray, .int .i64 n] (fun w => True) (fun x : Int => .int .i64 x) (fun x => []) (fun x => x ≤ n ∧ (0 ≤ x → (d.stack.length : Int) ≤ n)) := by
  refine Ret.of e_24 Try.func24 rfl Try.ntmps24 rfl rfl (fun w hpre => ?_)
  refine Ex.regSeq (ExL.pures 0 rfl ?_)
  refine ExL.op rfl (op_box rfl rfl rfl rfl rfl (fun b1 => ?_))
  refine ExL.pures 1 rfl ?_
  refine ExL.nil ?_
  refine Ex.regSeq (ExL.pures 1 rfl ?_)
  refine ExL.free (fr_load rfl rfl rfl rfl (CellO.blk (i := 0) rfl rfl)) rfl rfl rfl ?_
  refine ExL.pures 1 rfl ?_
  refine ExL.op rfl (op_ret rfl rfl rfl (c_szStack _ _ _ (by omega) _ (by omega)) (fun _ _ => trivial) rfl rfl (fun x2 hx2 => ?_))
  refine ExL.pures 1 rfl ?_
  refine ExL.nil ?_
  refine Ex.seq ?_
  refine Ex.regSeq (ExL.pures 1 rfl ?_)
  refine ExL.lss rfl rfl rfl rfl rfl rfl (fun h3 => ?_) (fun h3 => ?_)
  · refine ExL.nil ?_
    refine Ex.cond_t rfl ?_
    refine Ex.regSeq (ExL.pures 1 rfl ?_)
    refine ExL.nil ?_
    refine Ex.ret ?_
    refine RetQ.mk _ rfl (.tmp rfl .nil) (rfl) [] (rfl) rfl (by first | omega | (simp; omega))
  · refine ExL.nil ?_
    refine Ex.cond_f rfl ?_
    refine Ex.skip ?_
    refine Ex.regSeq (ExL.pures 2 rfl ?_)
    refine ExL.nil ?_
    refine Ex.ret ?_
    refine RetQ.mk _ rfl (.tmp rfl .nil) (rfl) [] (rfl) rfl (by first | omega | (simp; omega))
theorem e_26 : Enters Try.prog 26 := Enters.of Try.func26 rfl
theorem c_toDevice (d : VDev) (Ad : Option Addr) (cd : Nat) (hld : d.stack.length ≤ 1048576) : Ret Try.prog 26 [.agg (encV Ad cd d).toArray] (fun w => Rd w Ad (d.stack.flatMap (eI .u8))) (fun x : Nat => .agg (encV (some ⟨x, 0, none⟩) d.stack.length d).toArray) (fun x => [.row (.slice (some ⟨x, 0, none⟩) d.stack.length d.stack.length) 5 1 d.stack.length (d.stack.flatMap (eI .u8))]) (fun x => True) := by
  refine Ret.of e_26 Try.func26 rfl Try.ntmps26 rfl rfl (fun w hpre => ?_)
  have hd := hpre.base
  refine Ex.regSeq (ExL.pures 0 rfl ?_)
  refine ExL.op rfl (op_box rfl rfl rfl rfl rfl (fun b1 => ?_))
  refine ExL.op rfl (op_alloc rfl rfl rfl rfl rfl (fun b2 => ?_))
  refine ExL.nil ?_
  refine Ex.regSeq (ExL.pures 0 rfl ?_)
  refine ExL.op rfl (op_alloc rfl rfl rfl rfl rfl (fun b3 => ?_))
  refine ExL.nil ?_
  refine Ex.regSeq (ExL.pures 1 rfl ?_)
  refine ExL.free (fr_load rfl rfl rfl rfl (CellO.blk (i := 2) rfl rfl)) rfl rfl rfl ?_
  refine ExL.op rfl (op_ret rfl rfl rfl (c_toStack d.stack _ _ (by omega)) (Reads.get (Reads.old hd)) rfl rfl (fun x4 hx4 => ?_))
  refine ExL.pures 1 rfl ?_
  refine ExL.op rfl (op_storeC (i := 1) rfl rfl rfl rfl rfl rfl rfl rfl rfl rfl ?_)
  refine ExL.nil ?_
  refine Ex.regSeq (ExL.pures 1 rfl ?_)
  refine ExL.free (fr_loadN rfl rfl rfl rfl rfl (SegO.part (i := 3) 8 rfl)) rfl rfl rfl ?_
  refine ExL.op rfl (op_ret rfl rfl rfl (c_toDigits d.shows) (fun _ _ => trivial) rfl rfl (fun x5 hx5 => ?_))
  refine ExL.pures 1 rfl ?_
  refine ExL.op rfl (op_storeC (i := 1) rfl rfl rfl rfl rfl rfl rfl rfl rfl rfl ?_)
  refine ExL.nil ?_
  refine Ex.regSeq (ExL.pures 1 rfl ?_)
  refine ExL.free (fr_load rfl rfl rfl rfl (CellO.blk (i := 3) rfl rfl)) rfl rfl rfl ?_
  refine ExL.pures 1 rfl ?_
  refine ExL.op rfl (op_storeC (i := 1) rfl rfl rfl rfl rfl rfl rfl rfl rfl rfl ?_)
  refine ExL.nil ?_
  refine Ex.regSeq (ExL.pures 1 rfl ?_)
  refine ExL.free (fr_load rfl rfl rfl rfl (CellO.blk (i := 3) rfl rfl)) rfl rfl rfl ?_
  refine ExL.pures 1 rfl ?_
  refine ExL.op rfl (op_storeC (i := 1) rfl rfl rfl rfl rfl rfl rfl rfl rfl rfl ?_)
  refine ExL.nil ?_
  refine Ex.regSeq (ExL.pures 1 rfl ?_)
  refine ExL.free (fr_load rfl rfl rfl rfl (CellO.blk (i := 3) rfl rfl)) rfl rfl rfl ?_
  refine ExL.pures 1 rfl ?_
  refine ExL.op rfl (op_storeC (i := 1) rfl rfl rfl rfl rfl rfl rfl rfl rfl rfl ?_)
  refine ExL.nil ?_
  refine Ex.regSeq (ExL.pures 0 rfl ?_)
  refine ExL.free (fr_loadN rfl rfl rfl rfl rfl (SegO.whole (i := 1) rfl)) rfl rfl rfl ?_
  refine ExL.op rfl (op_storeC (i := 2) rfl rfl rfl rfl rfl rfl rfl rfl rfl rfl ?_)
  refine ExL.nil ?_
  refine Ex.ret ?_
  refine RetQ.mk _ rfl (.cell rfl (.many rfl rfl rfl (SegO.whole (i := 2) rfl)) .nil) (rfl) [0] (rfl) rfl (trivial)
theorem e_28 : Enters Try.prog 28 := Enters.of Try.func28 rfl
theorem c_eqDevice (a b : VDev) (Aa : Option Addr) (ca : Nat) (Ab : Option Addr) (cb : Nat) (hla : a.stack.length ≤ maxLen) (hlb : b.stack.length ≤ maxLen) : Ret Try.prog 28 [.agg (encV Aa ca a).toArray, .agg (encV Ab cb b).toArray] (fun w => Rd w Aa (a.stack.flatMap (eI .u8)) ∧ Rd w Ab (b.stack.flatMap (eI .u8))) (fun x : Unit => .bool (sameV a b)) (fun x => []) (fun x => True) := by
  refine Ret.of e_28 Try.func28 rfl Try.ntmps28 rfl rfl (fun w hpre => ?_)
  have ha := hpre.1.base
  have hb := hpre.2.base
  have hm0 : maxLen = 9223372036854775807 := rfl
  refine Ex.regSeq (ExL.pures 0 rfl ?_)
  refine ExL.op rfl (op_box rfl rfl rfl rfl rfl (fun b1 => ?_))
  refine ExL.op rfl (op_box rfl rfl rfl rfl rfl (fun b2 => ?_))
  refine ExL.pures 1 rfl ?_
  refine ExL.nil ?_
  refine Ex.seq ?_
  refine Ex.regSeq (ExL.pures 1 rfl ?_)
  refine ExL.free (fr_load rfl rfl rfl rfl (CellO.blk (i := 1) rfl rfl)) rfl rfl rfl ?_
  refine ExL.pures 1 rfl ?_
  refine ExL.free (fr_load rfl rfl rfl rfl (CellO.blk (i := 0) rfl rfl)) rfl rfl rfl ?_
  refine ExL.op rfl (op_ret rfl rfl rfl (c_eqStack a.stack _ _ (by omega) b.stack _ _ (by omega)) (fun w hw => ⟨Reads.get (Reads.old ha) w hw, Reads.get (Reads.old hb) w hw⟩) rfl rfl (fun x3 hx3 => ?_))
  refine ExL.pures 1 rfl ?_
  refine ExL.nil ?_
  refine Ex.cond rfl (fun hb4 => ?_) (fun hb4 => ?_)
  · replace hb4 := nd_t hb4
    refine Ex.regSeq (ExL.pures 1 rfl ?_)
    refine ExL.nil ?_
    refine Ex.ret ?_
    refine RetQ.mk () rfl (.tmp rfl .nil) (tB (by first | rfl | (unfold sameV; first | exact dec_t (by simp_all) | exact dec_f (by simp_all) | exact decide_eq_decide.2 (by simp_all)))) [] (rfl) rfl (trivial)
  · replace hb4 := nd_f hb4
    refine Ex.skip ?_
    refine Ex.seq ?_
    refine Ex.regSeq (ExL.pures 1 rfl ?_)
    refine ExL.free (fr_loadN rfl rfl rfl rfl rfl (SegO.part (i := 1) 8 rfl)) rfl rfl rfl ?_
    refine ExL.pures 1 rfl ?_
    refine ExL.free (fr_loadN rfl rfl rfl rfl rfl (SegO.part (i := 0) 8 rfl)) rfl rfl rfl ?_
    refine ExL.op rfl (op_ret rfl rfl rfl (c_eqDigits a.shows b.shows) (fun _ _ => trivial) rfl rfl (fun x5 hx5 => ?_))
    refine ExL.pures 1 rfl ?_
    refine ExL.nil ?_
    refine Ex.cond rfl (fun hb6 => ?_) (fun hb6 => ?_)
    · replace hb6 := nd_t hb6
      refine Ex.regSeq (ExL.pures 1 rfl ?_)
      refine ExL.nil ?_
      refine Ex.ret ?_
      refine RetQ.mk () rfl (.tmp rfl .nil) (tB (by first | rfl | (unfold sameV; first | exact dec_t (by simp_all) | exact dec_f (by simp_all) | exact decide_eq_decide.2 (by simp_all)))) [] (rfl) rfl (trivial)
    · replace hb6 := nd_f hb6
      refine Ex.skip ?_
      refine Ex.seq ?_
      refine Ex.regSeq (ExL.pures 1 rfl ?_)
      refine ExL.free (fr_load rfl rfl rfl rfl (CellO.blk (i := 1) rfl rfl)) rfl rfl rfl ?_
      refine ExL.pures 1 rfl ?_
      refine ExL.free (fr_load rfl rfl rfl rfl (CellO.blk (i := 0) rfl rfl)) rfl rfl rfl ?_
      refine ExL.neq rfl rfl rfl rfl rfl rfl (fun h7 => ?_) (fun h7 => ?_)
      · refine ExL.nil ?_
        refine Ex.cond_t rfl ?_
        refine Ex.regSeq (ExL.pures 1 rfl ?_)
        refine ExL.nil ?_
        refine Ex.ret ?_
        refine RetQ.mk () rfl (.tmp rfl .nil) (tB (by first | rfl | (unfold sameV; first | exact dec_t (by simp_all) | exact dec_f (by simp_all) | exact decide_eq_decide.2 (by simp_all)))) [] (rfl) rfl (trivial)
      · refine ExL.nil ?_
        refine Ex.cond_f rfl ?_
        refine Ex.skip ?_
        refine Ex.seq ?_
        refine Ex.regSeq (ExL.pures 1 rfl ?_)
        refine ExL.free (fr_load rfl rfl rfl rfl (CellO.blk (i := 1) rfl rfl)) rfl rfl rfl ?_
        refine ExL.pures 1 rfl ?_
        refine ExL.free (fr_load rfl rfl rfl rfl (CellO.blk (i := 0) rfl rfl)) rfl rfl rfl ?_
        refine ExL.free (fr_neq_bool rfl rfl rfl rfl) rfl rfl rfl ?_
        refine ExL.nil ?_
        refine Ex.cond rfl (fun hb8 => ?_) (fun hb8 => ?_)
        · refine Ex.regSeq (ExL.pures 1 rfl ?_)
          refine ExL.nil ?_
          refine Ex.ret ?_
          refine RetQ.mk () rfl (.tmp rfl .nil) (tB (by first | rfl | (unfold sameV; first | exact dec_t (by simp_all) | exact dec_f (by simp_all) | exact decide_eq_decide.2 (by simp_all)))) [] (rfl) rfl (trivial)
        · refine Ex.skip ?_
          refine Ex.seq ?_
          refine Ex.regSeq (ExL.pures 1 rfl ?_)
          refine ExL.free (fr_load rfl rfl rfl rfl (CellO.blk (i := 1) rfl rfl)) rfl rfl rfl ?_
          refine ExL.pures 1 rfl ?_
          refine ExL.free (fr_load rfl rfl rfl rfl (CellO.blk (i := 0) rfl rfl)) rfl rfl rfl ?_
          refine ExL.neq rfl rfl rfl rfl rfl rfl (fun h9 => ?_) (fun h9 => ?_)
          · refine ExL.nil ?_
            refine Ex.cond_t rfl ?_
            refine Ex.regSeq (ExL.pures 1 rfl ?_)
            refine ExL.nil ?_
            refine Ex.ret ?_
            refine RetQ.mk () rfl (.tmp rfl .nil) (tB (by first | rfl | (unfold sameV; first | exact dec_t (by simp_all) | exact dec_f (by simp_all) | exact decide_eq_decide.2 (by simp_all)))) [] (rfl) rfl (trivial)
          · refine ExL.nil ?_
            refine Ex.cond_f rfl ?_
            refine Ex.skip ?_
            refine Ex.regSeq (ExL.pures 1 rfl ?_)
            refine ExL.nil ?_
            refine Ex.ret ?_
            refine RetQ.mk () rfl (.tmp rfl .nil) (tB (by first | rfl | (unfold sameV; first | exact dec_t (by simp_all) | exact dec_f (by simp_all) | exact decide_eq_decide.2 (by simp_all)))) [] (rfl) rfl (trivial)
theorem e_25 : Enters Try.prog 25 := Enters.of Try.func25 rfl
theorem c_sSameDevice (a b : VDev) (Aa : Option Addr) (ca : Nat) (Ab : Option Addr) (cb : Nat) (hla : a.stack.length ≤ maxLen) (hlb : b.stack.length ≤ maxLen) : Ret Try.prog 25 [.agg (encV Aa ca a).toArray, .agg (encV Ab cb b).toArray] (fun w => Rd w Aa (a.stack.flatMap (eI .u8)) ∧ Rd w Ab (b.stack.flatMap (eI .u8))) (fun x : Unit => .bool (sameV a b)) (fun x => []) (fun x => True) := by
  refine Ret.of e_25 Try.func25 rfl Try.ntmps25 rfl rfl (fun w hpre => ?_)
  have ha := hpre.1.base
  have hb := hpre.2.base
  have hm0 : maxLen = 9223372036854775807 := rfl
  refine Ex.regSeq (ExL.pures 0 rfl ?_)
  refine ExL.op rfl (op_box rfl rfl rfl rfl rfl (fun b1 => ?_))
  refine ExL.op rfl (op_box rfl rfl rfl rfl rfl (fun b2 => ?_))
  refine ExL.pures 1 rfl ?_
  refine ExL.nil ?_
  refine Ex.regSeq (ExL.pures 1 rfl ?_)
  refine ExL.free (fr_load rfl rfl rfl rfl (CellO.blk (i := 1) rfl rfl)) rfl rfl rfl ?_
  refine ExL.pures 1 rfl ?_
  refine ExL.free (fr_load rfl rfl rfl rfl (CellO.blk (i := 0) rfl rfl)) rfl rfl rfl ?_
  refine ExL.op rfl (op_ret rfl rfl rfl (c_l01Same a.stack _ _ (by omega) b.stack _ _ (by omega)) (fun w hw => ⟨Reads.get (Reads.old ha) w hw, Reads.get (Reads.old hb) w hw⟩) rfl rfl (fun x3 hx3 => ?_))
  refine ExL.pures 1 rfl ?_
  refine ExL.bool (d := 10) rfl (fun hb4 => ?_) (fun hb4 => ?_)
  · replace hb4 := of_decide_eq_true hb4
    refine ExL.pures 1 rfl ?_
    refine ExL.free (fr_loadN rfl rfl rfl rfl rfl (SegO.part (i := 1) 8 rfl)) rfl rfl rfl ?_
    refine ExL.pures 1 rfl ?_
    refine ExL.free (fr_loadN rfl rfl rfl rfl rfl (SegO.part (i := 0) 8 rfl)) rfl rfl rfl ?_
    refine ExL.free (fr_eql_ints a.shows.l b.shows.l rfl rfl rfl rfl rfl rfl rfl rfl rfl rfl) rfl rfl rfl ?_
    refine ExL.pures 2 rfl ?_
    refine ExL.bool (d := 17) rfl (fun hb5 => ?_) (fun hb5 => ?_)
    · refine ExL.pures 1 rfl ?_
      refine ExL.free (fr_load rfl rfl rfl rfl (CellO.blk (i := 1) rfl rfl)) rfl rfl rfl ?_
      refine ExL.pures 1 rfl ?_
      refine ExL.free (fr_load rfl rfl rfl rfl (CellO.blk (i := 0) rfl rfl)) rfl rfl rfl ?_
      refine ExL.eql rfl rfl rfl rfl rfl rfl (fun h6 => ?_) (fun h6 => ?_)
      · refine ExL.pures 3 rfl ?_
        refine ExL.free (fr_load rfl rfl rfl rfl (CellO.blk (i := 1) rfl rfl)) rfl rfl rfl ?_
        refine ExL.pures 1 rfl ?_
        refine ExL.free (fr_load rfl rfl rfl rfl (CellO.blk (i := 0) rfl rfl)) rfl rfl rfl ?_
        refine ExL.free (fr_eql_bool rfl rfl rfl rfl) rfl rfl rfl ?_
        refine ExL.pures 2 rfl ?_
        refine ExL.bool (d := 31) rfl (fun hb7 => ?_) (fun hb7 => ?_)
        · refine ExL.pures 1 rfl ?_
          refine ExL.free (fr_load rfl rfl rfl rfl (CellO.blk (i := 1) rfl rfl)) rfl rfl rfl ?_
          refine ExL.pures 1 rfl ?_
          refine ExL.free (fr_load rfl rfl rfl rfl (CellO.blk (i := 0) rfl rfl)) rfl rfl rfl ?_
          refine ExL.eql rfl rfl rfl rfl rfl rfl (fun h8 => ?_) (fun h8 => ?_)
          · refine ExL.pures 2 rfl ?_
            refine ExL.nil ?_
            refine Ex.ret ?_
            refine RetQ.mk () rfl (.tmp rfl .nil) (tB (by first | rfl | (unfold sameV; first | exact dec_t (by simp_all) | exact dec_f (by simp_all) | exact decide_eq_decide.2 (by simp_all)))) [] (rfl) rfl (trivial)
          · refine ExL.pures 2 rfl ?_
            refine ExL.nil ?_
            refine Ex.ret ?_
            refine RetQ.mk () rfl (.tmp rfl .nil) (tB (by first | rfl | (unfold sameV; first | exact dec_t (by simp_all) | exact dec_f (by simp_all) | exact decide_eq_decide.2 (by simp_all)))) [] (rfl) rfl (trivial)
        · refine ExL.pures 7 rfl ?_
          refine ExL.nil ?_
          refine Ex.ret ?_
          refine RetQ.mk () rfl (.tmp rfl .nil) (tB (by first | rfl | (unfold sameV; first | exact dec_t (by simp_all) | exact dec_f (by simp_all) | exact decide_eq_decide.2 (by simp_all)))) [] (rfl) rfl (trivial)
      · refine ExL.pures 16 rfl ?_
        refine ExL.nil ?_
        refine Ex.ret ?_
        refine RetQ.mk () rfl (.tmp rfl .nil) (tB (by first | rfl | (unfold sameV; first | exact dec_t (by simp_all) | exact dec_f (by simp_all) | exact decide_eq_decide.2 (by simp_all)))) [] (rfl) rfl (trivial)
    · refine ExL.pures 21 rfl ?_
      refine ExL.nil ?_
      refine Ex.ret ?_
      refine RetQ.mk () rfl (.tmp rfl .nil) (tB (by first | rfl | (unfold sameV; first | exact dec_t (by simp_all) | exact dec_f (by simp_all) | exact decide_eq_decide.2 (by simp_all)))) [] (rfl) rfl (trivial)
  · replace hb4 := of_decide_eq_false hb4
    refine ExL.pures 28 rfl ?_
    refine ExL.nil ?_
    refine Ex.ret ?_
    refine RetQ.mk () rfl (.tmp rfl .nil) (tB (by first | rfl | (unfold sameV; first | exact dec_t (by simp_all) | exact dec_f (by simp_all) | exact decide_eq_decide.2 (by simp_all)))) [] (rfl) rfl (trivial)
theorem e_27 : Enters Try.prog 27 := Enters.of Try.func27 rfl
theorem c_iSameDevice (a b : VDev) (Aa : Option Addr) (ca : Nat) (Ab : Option Addr) (cb : Nat) (hla : a.stack.length ≤ maxLen) (hlb : b.stack.length ≤ maxLen) : Ret Try.prog 27 [.agg (encV Aa ca a).toArray, .agg (encV Ab cb b).toArray] (fun w => Rd w Aa (a.stack.flatMap (eI .u8)) ∧ Rd w Ab (b.stack.flatMap (eI .u8))) (fun x : Unit => .bool (sameV a b)) (fun x => []) (fun x => True) := by
  refine Ret.of e_27 Try.func27 rfl Try.ntmps27 rfl rfl (fun w hpre => ?_)
  have ha := hpre.1.base
  have hb := hpre.2.base
  have hm0 : maxLen = 9223372036854775807 := rfl
  refine Ex.regSeq (ExL.pures 0 rfl ?_)
  refine ExL.op rfl (op_box rfl rfl rfl rfl rfl (fun b1 => ?_))
  refine ExL.op rfl (op_box rfl rfl rfl rfl rfl (fun b2 => ?_))
  refine ExL.pures 1 rfl ?_
  refine ExL.nil ?_
  refine Ex.regSeq (ExL.pures 1 rfl ?_)
  refine ExL.free (fr_load rfl rfl rfl rfl (CellO.blk (i := 1) rfl rfl)) rfl rfl rfl ?_
  refine ExL.pures 1 rfl ?_
  refine ExL.free (fr_load rfl rfl rfl rfl (CellO.blk (i := 0) rfl rfl)) rfl rfl rfl ?_
  refine ExL.op rfl (op_ret rfl rfl rfl (c_SameStack a.stack _ _ (by omega) b.stack _ _ (by omega)) (fun w hw => ⟨Reads.get (Reads.old ha) w hw, Reads.get (Reads.old hb) w hw⟩) rfl rfl (fun x3 hx3 => ?_))
  refine ExL.pures 1 rfl ?_
  refine ExL.bool (d := 10) rfl (fun hb4 => ?_) (fun hb4 => ?_)
  · replace hb4 := of_decide_eq_true hb4
    refine ExL.pures 1 rfl ?_
    refine ExL.free (fr_loadN rfl rfl rfl rfl rfl (SegO.part (i := 1) 8 rfl)) rfl rfl rfl ?_
    refine ExL.pures 1 rfl ?_
    refine ExL.free (fr_loadN rfl rfl rfl rfl rfl (SegO.part (i := 0) 8 rfl)) rfl rfl rfl ?_
    refine ExL.free (fr_eql_ints a.shows.l b.shows.l rfl rfl rfl rfl rfl rfl rfl rfl rfl rfl) rfl rfl rfl ?_
    refine ExL.pures 2 rfl ?_
    refine ExL.bool (d := 17) rfl (fun hb5 => ?_) (fun hb5 => ?_)
    · refine ExL.pures 1 rfl ?_
      refine ExL.free (fr_load rfl rfl rfl rfl (CellO.blk (i := 1) rfl rfl)) rfl rfl rfl ?_
      refine ExL.pures 1 rfl ?_
      refine ExL.free (fr_load rfl rfl rfl rfl (CellO.blk (i := 0) rfl rfl)) rfl rfl rfl ?_
      refine ExL.eql rfl rfl rfl rfl rfl rfl (fun h6 => ?_) (fun h6 => ?_)
      · refine ExL.pures 3 rfl ?_
        refine ExL.free (fr_load rfl rfl rfl rfl (CellO.blk (i := 1) rfl rfl)) rfl rfl rfl ?_
        refine ExL.pures 1 rfl ?_
        refine ExL.free (fr_load rfl rfl rfl rfl (CellO.blk (i := 0) rfl rfl)) rfl rfl rfl ?_
        refine ExL.free (fr_eql_bool rfl rfl rfl rfl) rfl rfl rfl ?_
        refine ExL.pures 2 rfl ?_
        refine ExL.bool (d := 31) rfl (fun hb7 => ?_) (fun hb7 => ?_)
        · refine ExL.pures 1 rfl ?_
          refine ExL.free (fr_load rfl rfl rfl rfl (CellO.blk (i := 1) rfl rfl)) rfl rfl rfl ?_
          refine ExL.pures 1 rfl ?_
          refine ExL.free (fr_load rfl rfl rfl rfl (CellO.blk (i := 0) rfl rfl)) rfl rfl rfl ?_
          refine ExL.eql rfl rfl rfl rfl rfl rfl (fun h8 => ?_) (fun h8 => ?_)
          · refine ExL.pures 2 rfl ?_
            refine ExL.nil ?_
            refine Ex.ret ?_
            refine RetQ.mk () rfl (.tmp rfl .nil) (tB (by first | rfl | (unfold sameV; first | exact dec_t (by simp_all) | exact dec_f (by simp_all) | exact decide_eq_decide.2 (by simp_all)))) [] (rfl) rfl (trivial)
          · refine ExL.pures 2 rfl ?_
            refine ExL.nil ?_
            refine Ex.ret ?_
            refine RetQ.mk () rfl (.tmp rfl .nil) (tB (by first | rfl | (unfold sameV; first | exact dec_t (by simp_all) | exact dec_f (by simp_all) | exact decide_eq_decide.2 (by simp_all)))) [] (rfl) rfl (trivial)
        · refine ExL.pures 7 rfl ?_
          refine ExL.nil ?_
          refine Ex.ret ?_
          refine RetQ.mk () rfl (.tmp rfl .nil) (tB (by first | rfl | (unfold sameV; first | exact dec_t (by simp_all) | exact dec_f (by simp_all) | exact decide_eq_decide.2 (by simp_all)))) [] (rfl) rfl (trivial)
      · refine ExL.pures 16 rfl ?_
        refine ExL.nil ?_
        refine Ex.ret ?_
        refine RetQ.mk () rfl (.tmp rfl .nil) (tB (by first | rfl | (unfold sameV; first | exact dec_t (by simp_all) | exact dec_f (by simp_all) | exact decide_eq_decide.2 (by simp_all)))) [] (rfl) rfl (trivial)
    · refine ExL.pures 21 rfl ?_
      refine ExL.nil ?_
      refine Ex.ret ?_
      refine RetQ.mk () rfl (.tmp rfl .nil) (tB (by first | rfl | (unfold sameV; first | exact dec_t (by simp_all) | exact dec_f (by simp_all) | exact decide_eq_decide.2 (by simp_all)))) [] (rfl) rfl (trivial)
  · replace hb4 := of_decide_eq_false hb4
    refine ExL.pures 28 rfl ?_
    refine ExL.nil ?_
    refine Ex.ret ?_
    refine RetQ.mk () rfl (.tmp rfl .nil) (tB (by first | rfl | (unfold sameV; first | exact dec_t (by simp_all) | exact dec_f (by simp_all) | exact decide_eq_decide.2 (by simp_all)))) [] (rfl) rfl (trivial)
end Go.Proofs.Ytjopackngkfdhaa
