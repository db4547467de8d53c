/- What these functions of the program hand back, each proved by walking its operations. -/
import Derived.Test.YtepahnikcojepaaProg
import Derived.Test.YtepahnikcojepaaFw
import Derived.Test.YtepahnikcojepaaGJ2
import Derived.Test.YtepahnikcojepaaM23
set_option linter.unusedVariables false
set_option linter.unusedSimpArgs false
set_option maxRecDepth 4000
namespace Go.Proofs.Ytepahnikcojepaa
open Go Go.Sx Go.RowKit Go.W Go.Proofs
attribute [local irreducible] Ex ExL ExD Op1 Free RetQ MutQ Reads CellO SegO LoadsAs
theorem e_48 : Enters Try.prog 48 := Enters.of Try.func48 rfl
theorem c_sStory (s : List Int) (hu : Nums 255 s) (As : Option Addr) (cs : Nat) (hls : s.length ≤ maxLen) (l : List VP) (Al : Option Addr) (cl : Nat) (hll : l.length ≤ maxLen) (f : VP) : Ret Try.prog 48 [.slice As s.length cs, .slice Al l.length cl, .agg (encP f).toArray] (fun w => Rd w As (s.flatMap (eI .u8)) ∧ Rd w Al (l.flatMap encP)) (fun x : (Option Addr × Nat) × (Option Addr × Nat) => .tuple #[.agg (encY x.1.1 x.1.2 x.2.1 x.2.2 (storyV s l f).1).toArray, .int .i64 (storyV s l f).2]) (fun x => [.row (.slice x.1.1 (storyV s l f).1.kept.length x.1.2) 2 1 (storyV s l f).1.kept.length ((storyV s l f).1.kept.flatMap (eI .i64)), .row (.slice x.2.1 (storyV s l f).1.breaks.length x.2.2) 2 1 (storyV s l f).1.breaks.length ((storyV s l f).1.breaks.flatMap (eI .i64))]) (fun x => True) := by
  refine Ret.of e_48 Try.func48 rfl Try.ntmps48 rfl rfl (fun w hpre => ?_)
  have hs := hpre.1.base
  have hl := hpre.2.base
  have hm0 : maxLen = 9223372036854775807 := rfl
  refine Ex.regSeq (ExL.pures 0 rfl ?_)
  refine ExL.op rfl (op_box rfl rfl rfl rfl rfl (fun b1 => ?_))
  refine ExL.op rfl (op_alloc rfl rfl rfl rfl rfl (fun b2 => ?_))
  refine ExL.pures 1 rfl ?_
  refine ExL.nil ?_
  refine Ex.seq ?_
  refine Ex.regSeq (ExL.pures 2 rfl ?_)
  refine ExL.free (fr_loadN rfl rfl rfl rfl rfl (SegO.whole (i := 1) rfl)) rfl rfl rfl ?_
  refine ExL.op rfl (op_ret rfl rfl rfl (c_l04Asked s (by assumption) _ _ (by omega) l _ _ (by omega) f) (fun w hw => ⟨Reads.get (Reads.old hs) w hw, Reads.get (Reads.old hl) w hw⟩) rfl rfl (fun x3 hx3 => ?_))
  refine ExL.pures 1 rfl ?_
  refine ExL.nil ?_
  refine Ex.regSeq (ExL.pures 1 rfl ?_)
  refine ExL.neq rfl rfl rfl rfl rfl rfl (fun h4 => ?_) (fun h4 => ?_)
  · refine ExL.nil ?_
    refine Ex.cond_t rfl ?_
    obtain ⟨hask, hcod⟩ := askC_1 (by omega)
    rw [hcod]
    have hst := sto_1 hask
    refine Ex.nilRow 2 1 ?_
    refine Ex.nilRow 2 1 ?_
    refine Ex.regSeq (ExL.pures 0 rfl ?_)
    refine ExL.free (fr_build (cells := encY none 0 none 0 ⟨[], [], 0⟩) rfl rfl rfl (by kernel_rfl)) rfl rfl rfl ?_
    refine ExL.pures 1 rfl ?_
    refine ExL.op rfl (op_storeC (i := 2) rfl rfl rfl rfl rfl rfl rfl rfl rfl rfl ?_)
    refine ExL.pures 1 rfl ?_
    refine ExL.nil ?_
    refine Ex.ret ?_
    refine RetQ.mk ((none, 0), (none, 0)) rfl (.cell rfl (.many rfl rfl rfl (SegO.whole (i := 2) rfl)) (.tmp rfl .nil)) (t2 (by rw [hst]; first | done | rfl) (vI (by rw [hst]; first | done | rfl))) [0, 1] (by rw [hst]; first | done | rfl) rfl (trivial)
  · refine ExL.nil ?_
    refine Ex.cond_f rfl ?_
    refine Ex.skip ?_
    have hask := askC_0 (s := s) (l := l) (f := f) (by omega)
    obtain ⟨hL, hf⟩ := ask_of hask
    have hLl := hL.len
    have hst := sto_0 hask
    refine Ex.regSeq (ExL.pures 2 rfl ?_)
    refine ExL.free (fr_loadN rfl rfl rfl rfl rfl (SegO.whole (i := 1) rfl)) rfl rfl rfl ?_
    refine ExL.op rfl (op_ret rfl rfl rfl (c_l04Best s (by assumption) _ _ (by omega) l _ _ (by omega) (by assumption) f (by assumption)) (fun w hw => ⟨Reads.get (Reads.old hs) w hw, Reads.get (Reads.old hl) w hw⟩) rfl rfl (fun x5 hx5 => ?_))
    refine ExL.op rfl (op_storeC (i := 2) rfl rfl rfl rfl rfl rfl rfl rfl rfl rfl ?_)
    refine ExL.pures 1 rfl ?_
    refine ExL.nil ?_
    refine Ex.ret ?_
    refine RetQ.mk ((x5.1.1, x5.1.2), (x5.2.1, x5.2.2)) rfl (.cell rfl (.many rfl rfl rfl (SegO.whole (i := 2) rfl)) (.tmp rfl .nil)) (t2 (by rw [hst]; first | done | rfl) (vI (by rw [hst]; first | done | rfl))) [0, 1] (by rw [hst]; first | done | rfl) rfl (trivial)
end Go.Proofs.Ytepahnikcojepaa
