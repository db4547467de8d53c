/- What these functions of the program hand back, each proved by walking its operations. -/
import Derived.Test.YtepahnikcojepaaProg
import Derived.Test.YtepahnikcojepaaFw
import Derived.Test.YtepahnikcojepaaGZI
import Derived.Test.YtepahnikcojepaaGH
import Derived.Test.YtepahnikcojepaaGI9
set_option linter.unusedVariables false
set_option linter.unusedSimpArgs false
set_option maxRecDepth 4000
namespace Go.Proofs.Ytepahnikcojepaa
open Go Go.Sx Go.RowKit Go.W Go.Proofs
attribute [local irreducible] Ex ExL ExD Op1 Free RetQ MutQ Reads CellO SegO LoadsAs
theorem e_50 : Enters Try.prog 50 := Enters.of Try.func50 rfl
theorem c_eqStory (y : VSt) (Y1 : Option Addr) (yc1 : Nat) (Y2 : Option Addr) (yc2 : Nat) (z : VSt) (Z1 : Option Addr) (zc1 : Nat) (Z2 : Option Addr) (zc2 : Nat) (hy : (y.kept.length ≤ maxLen ∧ y.breaks.length ≤ maxLen)) (hz : (z.kept.length ≤ maxLen ∧ z.breaks.length ≤ maxLen)) : Ret Try.prog 50 [.agg (encY Y1 yc1 Y2 yc2 y).toArray, .agg (encY Z1 zc1 Z2 zc2 z).toArray] (fun w => Rd w Y1 (y.kept.flatMap (eI .i64)) ∧ Rd w Y2 (y.breaks.flatMap (eI .i64)) ∧ Rd w Z1 (z.kept.flatMap (eI .i64)) ∧ Rd w Z2 (z.breaks.flatMap (eI .i64))) (fun x : Unit => .bool (decide (y.kept = z.kept) && decide (y.breaks = z.breaks) && decide (y.cost = z.cost))) (fun x => []) (fun x => True) := by
  refine Ret.of e_50 Try.func50 rfl Try.ntmps50 rfl rfl (fun w hpre => ?_)
  have hk := hpre.1.base
  have hb := hpre.2.1.base
  have hk2 := hpre.2.2.1.base
  have hb2 := hpre.2.2.2.base
  obtain ⟨hy1, hy2⟩ := hy
  obtain ⟨hz1, hz2⟩ := hz
  have hm0 : maxLen = 9223372036854775807 := rfl
  refine Ex.regSeq (ExL.pures 0 rfl ?_)
  refine ExL.op rfl (op_box rfl rfl rfl rfl rfl (fun b1 => ?_))
  refine ExL.op rfl (op_box rfl rfl rfl rfl rfl (fun b2 => ?_))
  refine ExL.pures 1 rfl ?_
  refine ExL.nil ?_
  refine Ex.seq ?_
  refine Ex.regSeq (ExL.pures 1 rfl ?_)
  refine ExL.free (fr_load rfl rfl rfl rfl (CellO.blk (i := 1) rfl rfl)) rfl rfl rfl ?_
  refine ExL.pures 1 rfl ?_
  refine ExL.free (fr_load rfl rfl rfl rfl (CellO.blk (i := 0) rfl rfl)) rfl rfl rfl ?_
  refine ExL.op rfl (op_ret rfl rfl rfl (c_eqInt64S y.kept (Y1) (yc1) (by omega) z.kept (Z1) (zc1) (by omega)) (fun w hw => ⟨Reads.get (Reads.old hk) w hw, Reads.get (Reads.old hk2) w hw⟩) rfl rfl (fun x3 hx3 => ?_))
  refine ExL.pures 1 rfl ?_
  refine ExL.nil ?_
  refine Ex.cond rfl (fun hb4 => ?_) (fun hb4 => ?_)
  · replace hb4 := nd_t hb4
    refine Ex.regSeq (ExL.pures 1 rfl ?_)
    refine ExL.nil ?_
    refine Ex.ret ?_
    refine RetQ.mk () rfl (.tmp rfl .nil) (tB (by simp_all)) [] (rfl) rfl (trivial)
  · replace hb4 := nd_f hb4
    refine Ex.skip ?_
    refine Ex.seq ?_
    refine Ex.regSeq (ExL.pures 1 rfl ?_)
    refine ExL.free (fr_load rfl rfl rfl rfl (CellO.blk (i := 1) rfl rfl)) rfl rfl rfl ?_
    refine ExL.pures 1 rfl ?_
    refine ExL.free (fr_load rfl rfl rfl rfl (CellO.blk (i := 0) rfl rfl)) rfl rfl rfl ?_
    refine ExL.op rfl (op_ret rfl rfl rfl (c_eqInt64S y.breaks (Y2) (yc2) (by omega) z.breaks (Z2) (zc2) (by omega)) (fun w hw => ⟨Reads.get (Reads.old hb) w hw, Reads.get (Reads.old hb2) w hw⟩) rfl rfl (fun x5 hx5 => ?_))
    refine ExL.pures 1 rfl ?_
    refine ExL.nil ?_
    refine Ex.cond rfl (fun hb6 => ?_) (fun hb6 => ?_)
    · replace hb6 := nd_t hb6
      refine Ex.regSeq (ExL.pures 1 rfl ?_)
      refine ExL.nil ?_
      refine Ex.ret ?_
      refine RetQ.mk () rfl (.tmp rfl .nil) (tB (by simp_all)) [] (rfl) rfl (trivial)
    · replace hb6 := nd_f hb6
      refine Ex.skip ?_
      refine Ex.seq ?_
      refine Ex.regSeq (ExL.pures 1 rfl ?_)
      refine ExL.free (fr_load rfl rfl rfl rfl (CellO.blk (i := 1) rfl rfl)) rfl rfl rfl ?_
      refine ExL.pures 1 rfl ?_
      refine ExL.free (fr_load rfl rfl rfl rfl (CellO.blk (i := 0) rfl rfl)) rfl rfl rfl ?_
      refine ExL.neq rfl rfl rfl rfl rfl rfl (fun h7 => ?_) (fun h7 => ?_)
      · refine ExL.nil ?_
        refine Ex.cond_t rfl ?_
        refine Ex.regSeq (ExL.pures 1 rfl ?_)
        refine ExL.nil ?_
        refine Ex.ret ?_
        refine RetQ.mk () rfl (.tmp rfl .nil) (tB (by simp_all)) [] (rfl) rfl (trivial)
      · refine ExL.nil ?_
        refine Ex.cond_f rfl ?_
        refine Ex.skip ?_
        refine Ex.regSeq (ExL.pures 1 rfl ?_)
        refine ExL.nil ?_
        refine Ex.ret ?_
        refine RetQ.mk () rfl (.tmp rfl .nil) (tB (by simp_all)) [] (rfl) rfl (trivial)
theorem e_51 : Enters Try.prog 51 := Enters.of Try.func51 rfl
theorem c_markStory (y : VSt) (Y1 : Option Addr) (yc1 : Nat) (Y2 : Option Addr) (yc2 : Nat) (hn : y.kept.length ≤ 1000000 ∧ y.breaks.length ≤ 1000000) (k : Int) (hk : 0 ≤ k ∧ k ≤ 1000000) : Mut Try.prog 51 [.agg (encY Y1 yc1 Y2 yc2 y).toArray, .int .i64 k] [.row (.slice Y1 y.kept.length yc1) 2 1 y.kept.length (y.kept.flatMap (eI .i64)), .row (.slice Y2 y.breaks.length yc2) 2 1 y.breaks.length (y.breaks.flatMap (eI .i64))] (fun base w0 F => True) (fun x : Unit => .int .i64 (k + y.kept.length + y.breaks.length)) (fun x => [.row (.slice Y1 y.kept.length yc1) 2 1 y.kept.length ((mkI y.kept.length k).flatMap (eI .i64)), .row (.slice Y2 y.breaks.length yc2) 2 1 y.breaks.length ((mkI y.breaks.length (k + y.kept.length)).flatMap (eI .i64))]) (fun x => True) := by
  refine Mut.of e_51 Try.func51 rfl Try.ntmps51 rfl rfl (fun base w0 F hfr => ?_)
  obtain ⟨hn1, hn2⟩ := hn
  have hm0 : maxLen = 9223372036854775807 := rfl
  refine Ex.regSeq (ExL.pures 0 rfl ?_)
  refine ExL.op rfl (op_box rfl rfl rfl rfl rfl (fun b1 => ?_))
  refine ExL.pures 1 rfl ?_
  refine ExL.nil ?_
  refine Ex.regSeq (ExL.pures 1 rfl ?_)
  refine ExL.free (fr_load rfl rfl rfl rfl (CellO.blk (i := 0) rfl rfl)) rfl rfl rfl ?_
  refine ExL.pures 1 rfl ?_
  refine ExL.op rfl (op_mut rfl rfl rfl (c_markInt64S y.kept _ _ _ (by omega) k (by omega)) (perm_at (i := 1) rfl) (trivial) rfl rfl (fun x2 hx2 => ?_))
  refine ExL.pures 1 rfl ?_
  refine ExL.nil ?_
  refine Ex.regSeq (ExL.pures 1 rfl ?_)
  refine ExL.free (fr_load rfl rfl rfl rfl (CellO.blk (i := 1) rfl rfl)) rfl rfl rfl ?_
  refine ExL.pures 1 rfl ?_
  refine ExL.op rfl (op_mut rfl rfl rfl (c_markInt64S y.breaks _ _ _ (by omega) _ (by omega)) (perm_at (i := 2) rfl) (trivial) rfl rfl (fun x3 hx3 => ?_))
  refine ExL.pures 1 rfl ?_
  refine ExL.nil ?_
  refine Ex.regSeq (ExL.pures 2 rfl ?_)
  refine ExL.nil ?_
  refine Ex.ret ?_
  refine MutQ.mk () rfl (.tmp rfl .nil) (rfl) 3 [1, 0] (rfl) rfl (trivial)
theorem e_52 : Enters Try.prog 52 := Enters.of Try.func52 rfl
theorem c_heldStory (y : VSt) (Y1 : Option Addr) (yc1 : Nat) (Y2 : Option Addr) (yc2 : Nat) (hn : y.kept.length ≤ 1000000 ∧ y.breaks.length ≤ 1000000) (k : Int) (hk : 0 ≤ k ∧ k ≤ 1000000) : Ret Try.prog 52 [.agg (encY Y1 yc1 Y2 yc2 y).toArray, .int .i64 k] (fun w => Rd w Y1 ((mkI y.kept.length k).flatMap (eI .i64)) ∧ Rd w Y2 ((mkI y.breaks.length (k + y.kept.length)).flatMap (eI .i64))) (fun x : Unit => .int .i64 (k + y.kept.length + y.breaks.length)) (fun x => []) (fun x => True) := by
  refine Ret.of e_52 Try.func52 rfl Try.ntmps52 rfl rfl (fun w hpre => ?_)
  have h1 := hpre.1.base
  have h2 := hpre.2.base
  obtain ⟨hn1, hn2⟩ := hn
  have hm0 : maxLen = 9223372036854775807 := rfl
  refine Ex.regSeq (ExL.pures 0 rfl ?_)
  refine ExL.op rfl (op_box rfl rfl rfl rfl rfl (fun b1 => ?_))
  refine ExL.pures 1 rfl ?_
  refine ExL.nil ?_
  refine Ex.regSeq (ExL.pures 1 rfl ?_)
  refine ExL.free (fr_load rfl rfl rfl rfl (CellO.blk (i := 0) rfl rfl)) rfl rfl rfl ?_
  refine ExL.pures 1 rfl ?_
  refine ExL.op rfl (op_ret rfl rfl rfl (c_heldInt64S (Y1) (yc1) (y.kept.length) (by omega) k (by omega)) (Reads.get (Reads.old h1)) rfl rfl (fun x2 hx2 => ?_))
  refine ExL.pures 1 rfl ?_
  refine ExL.nil ?_
  refine Ex.seq ?_
  refine Ex.regSeq (ExL.pures 1 rfl ?_)
  refine ExL.lss rfl rfl rfl rfl rfl rfl (fun h3 => ?_) (fun h3 => ?_)
  · refine ExL.nil ?_
    refine Ex.cond_t rfl ?_
    refine Ex.regSeq (ExL.pures 1 rfl ?_)
    refine ExL.nil ?_
    refine Ex.ret ?_
    refine RetQ.mk () rfl (.tmp rfl .nil) (tI (by omega)) [] (rfl) rfl (trivial)
  · refine ExL.nil ?_
    refine Ex.cond_f rfl ?_
    refine Ex.skip ?_
    refine Ex.regSeq (ExL.pures 1 rfl ?_)
    refine ExL.free (fr_load rfl rfl rfl rfl (CellO.blk (i := 0) rfl rfl)) rfl rfl rfl ?_
    refine ExL.pures 1 rfl ?_
    refine ExL.op rfl (op_ret rfl rfl rfl (c_heldInt64S (Y2) (yc2) (y.breaks.length) (by omega) _ (by omega)) (Reads.get (Reads.old h2)) rfl rfl (fun x4 hx4 => ?_))
    refine ExL.pures 1 rfl ?_
    refine ExL.nil ?_
    refine Ex.seq ?_
    refine Ex.regSeq (ExL.pures 1 rfl ?_)
    refine ExL.lss rfl rfl rfl rfl rfl rfl (fun h5 => ?_) (fun h5 => ?_)
    · refine ExL.nil ?_
      refine Ex.cond_t rfl ?_
      refine Ex.regSeq (ExL.pures 1 rfl ?_)
      refine ExL.nil ?_
      refine Ex.ret ?_
      refine RetQ.mk () rfl (.tmp rfl .nil) (tI (by omega)) [] (rfl) rfl (trivial)
    · refine ExL.nil ?_
      refine Ex.cond_f rfl ?_
      refine Ex.skip ?_
      refine Ex.regSeq (ExL.pures 2 rfl ?_)
      refine ExL.nil ?_
      refine Ex.ret ?_
      refine RetQ.mk () rfl (.tmp rfl .nil) (tI (by omega)) [] (rfl) rfl (trivial)
theorem c_iStory (s : List Int) (hu : Nums 255 s) (As : Option Addr) (cs : Nat) (hls : s.length ≤ maxLen) (l : List VP) (Al : Option Addr) (cl : Nat) (hll : l.length ≤ maxLen) (f : VP) : Ret Try.prog 49 [.slice As s.length cs, .slice Al l.length cl, .agg (encP f).toArray] (fun w => Rd w As (s.flatMap (eI .u8)) ∧ Rd w Al (l.flatMap encP)) (fun x : (Option Addr × Nat) × (Option Addr × Nat) => .tuple #[.agg (encY x.1.1 x.1.2 x.2.1 x.2.2 (storyV s l f).1).toArray, .int .i64 (storyV s l f).2]) (fun x => [.row (.slice x.1.1 (storyV s l f).1.kept.length x.1.2) 2 1 (storyV s l f).1.kept.length ((storyV s l f).1.kept.flatMap (eI .i64)), .row (.slice x.2.1 (storyV s l f).1.breaks.length x.2.2) 2 1 (storyV s l f).1.breaks.length ((storyV s l f).1.breaks.flatMap (eI .i64))]) (fun x => True) := by
  cases h : askS s l f with
  | false => exact c_iStory_f s hu As cs hls l Al cl hll f h
  | true => exact c_iStory_t s hu As cs hls l Al cl hll f h
end Go.Proofs.Ytepahnikcojepaa
