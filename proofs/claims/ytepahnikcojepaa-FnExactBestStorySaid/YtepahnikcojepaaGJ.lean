/- What these functions of the program hand back, each proved by walking its operations. -/
import Derived.Test.YtepahnikcojepaaProg
import Derived.Test.YtepahnikcojepaaFw
import Derived.Test.YtepahnikcojepaaGG
import Derived.Test.YtepahnikcojepaaM15
set_option linter.unusedVariables false
set_option linter.unusedSimpArgs false
set_option maxRecDepth 4000
namespace Go.Proofs.Ytepahnikcojepaa
open Go Go.Sx Go.RowKit Go.W Go.Proofs
attribute [local irreducible] Ex ExL ExD Op1 Free RetQ MutQ Reads CellO SegO LoadsAs
theorem e_112 : Enters Try.prog 112 := Enters.of Try.func112 rfl
theorem c_l04Flow (f : VP) : Ret Try.prog 112 [.agg (encP f).toArray] (fun w => True) (fun x : Unit => .bool (validFlow f)) (fun x => []) (fun x => True) := by
  refine Ret.of e_112 Try.func112 rfl Try.ntmps112 rfl rfl (fun w hpre => ?_)
  refine Ex.regSeq (ExL.pures 0 rfl ?_)
  refine ExL.op rfl (op_box rfl rfl rfl rfl rfl (fun b1 => ?_))
  refine ExL.pures 1 rfl ?_
  refine ExL.nil ?_
  refine Ex.regSeq (ExL.pures 1 rfl ?_)
  refine ExL.free (fr_load rfl rfl rfl rfl (CellO.blk (i := 0) rfl rfl)) rfl rfl rfl ?_
  refine ExL.pures 1 rfl ?_
  refine ExL.free (fr_load rfl rfl rfl rfl (CellO.blk (i := 0) rfl rfl)) rfl rfl rfl ?_
  refine ExL.op rfl (op_ret rfl rfl rfl (c_l00In _ _ _) (fun _ _ => trivial) rfl rfl (fun x2 hx2 => ?_))
  refine ExL.pures 1 rfl ?_
  refine ExL.bool (d := 8) rfl (fun hb3 => ?_) (fun hb3 => ?_)
  · replace hb3 := of_decide_eq_true hb3
    refine ExL.pures 1 rfl ?_
    refine ExL.free (fr_load rfl rfl rfl rfl (CellO.blk (i := 0) rfl rfl)) rfl rfl rfl ?_
    refine ExL.leq rfl rfl rfl rfl rfl rfl (fun h4 => ?_) (fun h4 => ?_)
    · refine ExL.pures 2 rfl ?_
      refine ExL.nil ?_
      refine Ex.ret ?_
      refine RetQ.mk () rfl (.tmp rfl .nil) (tB (by unfold validFlow; first | exact dec_f (by omega) | exact decide_eq_decide.2 (by omega) | exact dec_t (by omega))) [] (rfl) rfl (trivial)
    · refine ExL.pures 2 rfl ?_
      refine ExL.nil ?_
      refine Ex.ret ?_
      refine RetQ.mk () rfl (.tmp rfl .nil) (tB (by unfold validFlow; first | exact dec_f (by omega) | exact decide_eq_decide.2 (by omega) | exact dec_t (by omega))) [] (rfl) rfl (trivial)
  · replace hb3 := of_decide_eq_false hb3
    refine ExL.pures 5 rfl ?_
    refine ExL.nil ?_
    refine Ex.ret ?_
    refine RetQ.mk () rfl (.tmp rfl .nil) (tB (by unfold validFlow; first | exact dec_f (by omega) | exact decide_eq_decide.2 (by omega) | exact dec_t (by omega))) [] (rfl) rfl (trivial)
theorem e_114 : Enters Try.prog 114 := Enters.of Try.func114 rfl
theorem c_ValidFlow (f : VP) : Ret Try.prog 114 [.agg (encP f).toArray] (fun w => True) (fun x : Unit => .bool (validFlow f)) (fun x => []) (fun x => True) := by
  refine Ret.of e_114 Try.func114 rfl Try.ntmps114 rfl rfl (fun w hpre => ?_)
  refine Ex.regSeq (ExL.pures 0 rfl ?_)
  refine ExL.op rfl (op_box rfl rfl rfl rfl rfl (fun b1 => ?_))
  refine ExL.pures 1 rfl ?_
  refine ExL.nil ?_
  refine Ex.regSeq (ExL.pures 1 rfl ?_)
  refine ExL.free (fr_load rfl rfl rfl rfl (CellO.blk (i := 0) rfl rfl)) rfl rfl rfl ?_
  refine ExL.leq rfl rfl rfl rfl rfl rfl (fun h2 => ?_) (fun h2 => ?_)
  · refine ExL.pures 2 rfl ?_
    refine ExL.free (fr_load rfl rfl rfl rfl (CellO.blk (i := 0) rfl rfl)) rfl rfl rfl ?_
    refine ExL.pures 1 rfl ?_
    refine ExL.free (fr_load rfl rfl rfl rfl (CellO.blk (i := 0) rfl rfl)) rfl rfl rfl ?_
    refine ExL.leq rfl rfl rfl rfl rfl rfl (fun h3 => ?_) (fun h3 => ?_)
    · refine ExL.pures 3 rfl ?_
      refine ExL.free (fr_load rfl rfl rfl rfl (CellO.blk (i := 0) rfl rfl)) rfl rfl rfl ?_
      refine ExL.leq rfl rfl rfl rfl rfl rfl (fun h4 => ?_) (fun h4 => ?_)
      · refine ExL.pures 2 rfl ?_
        refine ExL.nil ?_
        refine Ex.ret ?_
        refine RetQ.mk () rfl (.tmp rfl .nil) (tB (by unfold validFlow; first | exact dec_f (by omega) | exact decide_eq_decide.2 (by omega) | exact dec_t (by omega))) [] (rfl) rfl (trivial)
      · refine ExL.pures 2 rfl ?_
        refine ExL.nil ?_
        refine Ex.ret ?_
        refine RetQ.mk () rfl (.tmp rfl .nil) (tB (by unfold validFlow; first | exact dec_f (by omega) | exact decide_eq_decide.2 (by omega) | exact dec_t (by omega))) [] (rfl) rfl (trivial)
    · refine ExL.pures 7 rfl ?_
      refine ExL.nil ?_
      refine Ex.ret ?_
      refine RetQ.mk () rfl (.tmp rfl .nil) (tB (by unfold validFlow; first | exact dec_f (by omega) | exact decide_eq_decide.2 (by omega) | exact dec_t (by omega))) [] (rfl) rfl (trivial)
  · refine ExL.pures 13 rfl ?_
    refine ExL.nil ?_
    refine Ex.ret ?_
    refine RetQ.mk () rfl (.tmp rfl .nil) (tB (by unfold validFlow; first | exact dec_f (by omega) | exact decide_eq_decide.2 (by omega) | exact dec_t (by omega))) [] (rfl) rfl (trivial)
theorem e_39 : Enters Try.prog 39 := Enters.of Try.func39 rfl
theorem c_toFlow (f : VP) : Ret Try.prog 39 [.agg (encP f).toArray] (fun w => True) (fun x : Unit => .agg (encP f).toArray) (fun x => []) (fun x => True) := by
  refine Ret.of e_39 Try.func39 rfl Try.ntmps39 rfl rfl (fun w hpre => ?_)
  refine Ex.regSeq (ExL.pures 0 rfl ?_)
  refine ExL.op rfl (op_box rfl rfl rfl rfl rfl (fun b1 => ?_))
  refine ExL.op rfl (op_alloc rfl rfl rfl rfl rfl (fun b2 => ?_))
  refine ExL.nil ?_
  refine Ex.regSeq (ExL.pures 0 rfl ?_)
  refine ExL.op rfl (op_alloc rfl rfl rfl rfl rfl (fun b3 => ?_))
  refine ExL.nil ?_
  refine Ex.regSeq (ExL.pures 1 rfl ?_)
  refine ExL.free (fr_load rfl rfl rfl rfl (CellO.blk (i := 2) rfl rfl)) rfl rfl rfl ?_
  refine ExL.pures 1 rfl ?_
  refine ExL.op rfl (op_storeC (i := 0) rfl rfl rfl rfl rfl rfl rfl rfl rfl rfl ?_)
  refine ExL.nil ?_
  refine Ex.regSeq (ExL.pures 1 rfl ?_)
  refine ExL.free (fr_load rfl rfl rfl rfl (CellO.blk (i := 2) rfl rfl)) rfl rfl rfl ?_
  refine ExL.pures 1 rfl ?_
  refine ExL.op rfl (op_storeC (i := 0) rfl rfl rfl rfl rfl rfl rfl rfl rfl rfl ?_)
  refine ExL.nil ?_
  refine Ex.regSeq (ExL.pures 0 rfl ?_)
  refine ExL.free (fr_loadN rfl rfl rfl rfl rfl (SegO.whole (i := 0) rfl)) rfl rfl rfl ?_
  refine ExL.op rfl (op_storeC (i := 1) rfl rfl rfl rfl rfl rfl rfl rfl rfl rfl ?_)
  refine ExL.nil ?_
  refine Ex.ret ?_
  refine RetQ.mk () rfl (.cell rfl (.many rfl rfl rfl (SegO.whole (i := 1) rfl)) .nil) (rfl) [] (rfl) rfl (trivial)
theorem e_89 : Enters Try.prog 89 := Enters.of Try.func89 rfl
theorem c_l04Asked (s : List Int) (hu : Nums 255 s) (As : Option Addr) (cs : Nat) (hls : s.length ≤ maxLen) (l : List VP) (Al : Option Addr) (cl : Nat) (hll : l.length ≤ maxLen) (f : VP) : Ret Try.prog 89 [.slice As s.length cs, .slice Al l.length cl, .agg (encP f).toArray] (fun w => Rd w As (s.flatMap (eI .u8)) ∧ Rd w Al (l.flatMap encP)) (fun x : Unit => .int .i64 (askC s l f)) (fun x => []) (fun x => True) := by
  refine Ret.of e_89 Try.func89 rfl Try.ntmps89 rfl rfl (fun w hpre => ?_)
  have hs := hpre.1.base
  have hl := hpre.2.base
  have hm0 : maxLen = 9223372036854775807 := rfl
  refine Ex.regSeq (ExL.pures 0 rfl ?_)
  refine ExL.op rfl (op_box rfl rfl rfl rfl rfl (fun b1 => ?_))
  refine ExL.pures 1 rfl ?_
  refine ExL.nil ?_
  refine Ex.seq ?_
  refine Ex.regSeq (ExL.pures 2 rfl ?_)
  refine ExL.op rfl (op_ret rfl rfl rfl (c_l04Ok s (by assumption) _ _ (by omega) l _ _ (by omega)) (fun w hw => ⟨Reads.get (Reads.old hs) w hw, Reads.get (Reads.old hl) w hw⟩) rfl rfl (fun x2 hx2 => ?_))
  refine ExL.pures 2 rfl ?_
  refine ExL.bool (d := 11) rfl (fun hb3 => ?_) (fun hb3 => ?_)
  · replace hb3 := nb_t hb3
    refine ExL.pures 4 rfl ?_
    refine ExL.nil ?_
    refine Ex.cond_t rfl ?_
    refine Ex.regSeq (ExL.pures 1 rfl ?_)
    refine ExL.nil ?_
    refine Ex.ret ?_
    refine RetQ.mk () rfl (.tmp rfl .nil) (tI (by unfold askC askS; simp_all)) [] (rfl) rfl (trivial)
  · replace hb3 := nb_f hb3
    refine ExL.free (fr_loadN rfl rfl rfl rfl rfl (SegO.whole (i := 0) rfl)) rfl rfl rfl ?_
    refine ExL.op rfl (op_ret rfl rfl rfl (c_l04Flow f) (fun _ _ => trivial) rfl rfl (fun x4 hx4 => ?_))
    refine ExL.pures 2 rfl ?_
    refine ExL.nil ?_
    refine Ex.cond rfl (fun hb5 => ?_) (fun hb5 => ?_)
    · replace hb5 := nb_t hb5
      refine Ex.regSeq (ExL.pures 1 rfl ?_)
      refine ExL.nil ?_
      refine Ex.ret ?_
      refine RetQ.mk () rfl (.tmp rfl .nil) (tI (by unfold askC askS; simp_all)) [] (rfl) rfl (trivial)
    · replace hb5 := nb_f hb5
      refine Ex.skip ?_
      refine Ex.regSeq (ExL.pures 1 rfl ?_)
      refine ExL.nil ?_
      refine Ex.ret ?_
      refine RetQ.mk () rfl (.tmp rfl .nil) (tI (by unfold askC askS; simp_all)) [] (rfl) rfl (trivial)
theorem e_129 : Enters Try.prog 129 := Enters.of Try.func129 rfl
theorem c_bounds (f a b : VP) (hf : validFlow f = true) (ha : 0 ≤ a.a ∧ a.a ≤ 100000) (hb : 0 ≤ b.a ∧ b.a ≤ 100000) : Ret Try.prog 129 [.agg (encP f).toArray, .agg (encP a).toArray, .agg (encP b).toArray] (fun w => True) (fun x : Unit => .tuple #[.int .i64 (lowF f a b), .int .i64 (highF f a b)]) (fun x => []) (fun x => True) := by
  refine Ret.of e_129 Try.func129 rfl Try.ntmps129 rfl rfl (fun w hpre => ?_)
  have hlo := low_bd hf ha hb
  have hhi := high_bd hf ha hb
  unfold lowF at hlo
  unfold highF at hhi
  have hfl := flow_of hf
  refine Ex.regSeq (ExL.pures 0 rfl ?_)
  refine ExL.op rfl (op_box rfl rfl rfl rfl rfl (fun b1 => ?_))
  refine ExL.op rfl (op_box rfl rfl rfl rfl rfl (fun b2 => ?_))
  refine ExL.op rfl (op_box rfl rfl rfl rfl rfl (fun b3 => ?_))
  refine ExL.pures 2 rfl ?_
  refine ExL.nil ?_
  refine Ex.regSeq (ExL.pures 1 rfl ?_)
  refine ExL.free (fr_load rfl rfl rfl rfl (CellO.blk (i := 0) rfl rfl)) rfl rfl rfl ?_
  refine ExL.pures 1 rfl ?_
  refine ExL.free (fr_load rfl rfl rfl rfl (CellO.blk (i := 1) rfl rfl)) rfl rfl rfl ?_
  refine ExL.free (by first | exact fr_sub64 rfl rfl rfl (by omega) | exact fr_sub rfl rfl rfl) rfl rfl rfl ?_
  refine ExL.pures 1 rfl ?_
  refine ExL.nil ?_
  refine Ex.drawSeqM rfl ?_
  refine ExD.take (i := 0) rfl (by kernel_rfl) (pureVal_ok rfl) ((List.Sublist.refl _)) rfl rfl rfl ?_
  refine ExD.take (i := 1) rfl (by kernel_rfl) (fr_load rfl rfl rfl rfl (CellO.blk (i := 2) rfl rfl)) ((List.Sublist.refl _)) rfl rfl rfl ?_
  refine ExD.take (i := 2) rfl (by kernel_rfl) (pureVal_ok rfl) ((List.Sublist.refl _)) rfl rfl rfl ?_
  refine ExD.take (i := 3) rfl (by kernel_rfl) (by first | exact fr_mul64 rfl rfl rfl (by omega) | exact fr_mul rfl rfl rfl) ((List.Sublist.refl _)) rfl rfl rfl ?_
  refine ExD.take (i := 4) rfl (by kernel_rfl) (pureVal_ok rfl) ((List.Sublist.refl _)) rfl rfl rfl ?_
  refine ExD.take (i := 5) rfl (by kernel_rfl) (fr_load rfl rfl rfl rfl (CellO.blk (i := 2) rfl rfl)) ((List.Sublist.refl _)) rfl rfl rfl ?_
  refine ExD.take (i := 6) rfl (by kernel_rfl) (pureVal_ok rfl) ((List.Sublist.refl _)) rfl rfl rfl ?_
  refine ExD.take (i := 7) rfl (by kernel_rfl) (by first | exact fr_mul64 rfl rfl rfl (by omega) | exact fr_mul rfl rfl rfl) ((List.Sublist.refl _)) rfl rfl rfl ?_
  refine ExD.take (i := 8) rfl (by kernel_rfl) (pureVal_ok rfl) ((List.Sublist.refl _)) rfl rfl rfl ?_
  refine ExD.take (i := 9) rfl (by kernel_rfl) (pureVal_ok rfl) ((List.Sublist.refl _)) rfl rfl rfl ?_
  refine ExD.done (by kernel_rfl) ?_
  refine Ex.ret ?_
  refine RetQ.mk () rfl (.tmp rfl (.tmp rfl .nil)) (t2 rfl rfl) [] (rfl) rfl (trivial)
theorem e_115 : Enters Try.prog 115 := Enters.of Try.func115 rfl
theorem c_counts (s : List Int) (hv : validStack s = true) (hu : Nums 255 s) (As : Option Addr) (cs : Nat) (hls : s.length ≤ maxLen) (a b f : VP) (hf : validFlow f = true) (ha : OkRd (size s) a) (hb : OkRd (size s) b) : Ret Try.prog 115 [.slice As s.length cs, .agg (encP a).toArray, .agg (encP b).toArray, .agg (encP f).toArray] (fun w => Rd w As (s.flatMap (eI .u8))) (fun x : Int × Int => .tuple #[.int .i64 x.1, .int .i64 x.2, .bool (fitV (size s) f a b)]) (fun x => []) (fun x => True) := by
  refine Ret.of e_115 Try.func115 rfl Try.ntmps115 rfl rfl (fun w hpre => ?_)
  have hs := hpre.base
  obtain ⟨ha1, ha2⟩ := ha
  obtain ⟨hb1, hb2⟩ := hb
  have hlo := low_bd hf ha1 hb1
  have hhi := high_bd hf ha1 hb1
  have hS := stk hv
  have hS1 := hS.le
  have hS2 := hS.size_
  have hS3 := hS.pos
  have hmd := md_bd (z := size s) (by omega)
  have hm0 : maxLen = 9223372036854775807 := rfl
  refine Ex.regSeq (ExL.pures 0 rfl ?_)
  refine ExL.op rfl (op_box rfl rfl rfl rfl rfl (fun b1 => ?_))
  refine ExL.op rfl (op_box rfl rfl rfl rfl rfl (fun b2 => ?_))
  refine ExL.op rfl (op_box rfl rfl rfl rfl rfl (fun b3 => ?_))
  refine ExL.pures 3 rfl ?_
  refine ExL.nil ?_
  refine Ex.regSeq (ExL.pures 0 rfl ?_)
  refine ExL.free (fr_loadN rfl rfl rfl rfl rfl (SegO.whole (i := 0) rfl)) rfl rfl rfl ?_
  refine ExL.free (fr_loadN rfl rfl rfl rfl rfl (SegO.whole (i := 2) rfl)) rfl rfl rfl ?_
  refine ExL.free (fr_loadN rfl rfl rfl rfl rfl (SegO.whole (i := 1) rfl)) rfl rfl rfl ?_
  refine ExL.op rfl (op_ret rfl rfl rfl (c_bounds f a b (by assumption) (by first | assumption | omega) (by first | assumption | omega)) (fun _ _ => trivial) rfl rfl (fun x4 hx4 => ?_))
  refine ExL.pures 5 rfl ?_
  refine ExL.nil ?_
  refine Ex.regSeq (ExL.pures 1 rfl ?_)
  refine ExL.op rfl (op_ret rfl rfl rfl (c_size _ (by assumption) _ _ (by first | assumption | omega | (unfold maxLen; omega))) (Reads.get (Reads.old hs)) rfl rfl (fun x5 hx5 => ?_))
  refine ExL.pures 1 rfl ?_
  refine ExL.nil ?_
  refine Ex.regSeq (ExL.pures 1 rfl ?_)
  refine ExL.free (fr_load rfl rfl rfl rfl (CellO.blk (i := 1) rfl rfl)) rfl rfl rfl ?_
  refine ExL.pures 1 rfl ?_
  refine ExL.free (fr_load rfl rfl rfl rfl (CellO.blk (i := 2) rfl rfl)) rfl rfl rfl ?_
  refine ExL.free (by first | exact fr_sub64 rfl rfl rfl (by omega) | exact fr_sub rfl rfl rfl) rfl rfl rfl ?_
  refine ExL.pures 1 rfl ?_
  refine ExL.free (by first | exact fr_sub64 rfl rfl rfl (by omega) | exact fr_sub rfl rfl rfl) rfl rfl rfl ?_
  refine ExL.pures 1 rfl ?_
  refine ExL.op rfl (op_ret rfl rfl rfl (c_wrapped _ _ (by omega) (by omega)) (fun _ _ => trivial) rfl rfl (fun x6 hx6 => ?_))
  refine ExL.pures 5 rfl ?_
  refine ExL.nil ?_
  refine Ex.regSeq (ExL.pures 2 rfl ?_)
  refine ExL.free (fr_load rfl rfl rfl rfl (CellO.blk (i := 1) rfl rfl)) rfl rfl rfl ?_
  refine ExL.pures 1 rfl ?_
  refine ExL.free (fr_load rfl rfl rfl rfl (CellO.blk (i := 2) rfl rfl)) rfl rfl rfl ?_
  refine ExL.free (by first | exact fr_sub64 rfl rfl rfl (by omega) | exact fr_sub rfl rfl rfl) rfl rfl rfl ?_
  refine ExL.free (by first | exact fr_sub64 rfl rfl rfl (by omega) | exact fr_sub rfl rfl rfl) rfl rfl rfl ?_
  refine ExL.pures 1 rfl ?_
  refine ExL.op rfl (op_ret rfl rfl rfl (c_wrapped _ _ (by omega) (by omega)) (fun _ _ => trivial) rfl rfl (fun x7 hx7 => ?_))
  refine ExL.pures 5 rfl ?_
  refine ExL.nil ?_
  have hm1 := hmd (b.b - a.b - lowF f a b)
  have hm2 := hmd (highF f a b - (b.b - a.b))
  refine Ex.regSeq (ExL.pures 2 rfl ?_)
  refine ExL.free (by first | exact fr_add64 rfl rfl rfl (by omega) | exact fr_add rfl rfl rfl) rfl rfl rfl ?_
  refine ExL.pures 2 rfl ?_
  refine ExL.free (by first | exact fr_sub64 rfl rfl rfl (by omega) | exact fr_sub rfl rfl rfl) rfl rfl rfl ?_
  refine ExL.pures 2 rfl ?_
  refine ExL.free (by first | exact fr_add64 rfl rfl rfl (by omega) | exact fr_add rfl rfl rfl) rfl rfl rfl ?_
  refine ExL.pures 1 rfl ?_
  refine ExL.free (fr_leq rfl rfl rfl) rfl rfl rfl ?_
  refine ExL.pures 3 rfl ?_
  refine ExL.nil ?_
  refine Ex.ret ?_
  refine RetQ.mk (_, _) rfl (.tmp rfl (.tmp rfl (.tmp rfl .nil))) (t3 rfl rfl (vB rfl)) [] (rfl) rfl (trivial)
theorem e_128 : Enters Try.prog 128 := Enters.of Try.func128 rfl
theorem c_l04Counts (s : List Int) (hv : validStack s = true) (hu : Nums 255 s) (As : Option Addr) (cs : Nat) (hls : s.length ≤ maxLen) (a b f : VP) (hf : validFlow f = true) (ha : OkRd (size s) a) (hb : OkRd (size s) b) : Ret Try.prog 128 [.slice As s.length cs, .agg (encP a).toArray, .agg (encP b).toArray, .agg (encP f).toArray] (fun w => Rd w As (s.flatMap (eI .u8))) (fun x : Int × Int => .tuple #[.int .i64 x.1, .int .i64 x.2, .bool (fitV (size s) f a b)]) (fun x => []) (fun x => True) := by
  refine Ret.of e_128 Try.func128 rfl Try.ntmps128 rfl rfl (fun w hpre => ?_)
  have hs := hpre.base
  obtain ⟨ha1, ha2⟩ := ha
  obtain ⟨hb1, hb2⟩ := hb
  have hlo := low_bd hf ha1 hb1
  have hhi := high_bd hf ha1 hb1
  have hS := stk hv
  have hS1 := hS.le
  have hS2 := hS.size_
  have hS3 := hS.pos
  have hmd := md_bd (z := size s) (by omega)
  have hm0 : maxLen = 9223372036854775807 := rfl
  refine Ex.regSeq (ExL.pures 0 rfl ?_)
  refine ExL.op rfl (op_box rfl rfl rfl rfl rfl (fun b1 => ?_))
  refine ExL.op rfl (op_box rfl rfl rfl rfl rfl (fun b2 => ?_))
  refine ExL.op rfl (op_box rfl rfl rfl rfl rfl (fun b3 => ?_))
  refine ExL.pures 3 rfl ?_
  refine ExL.nil ?_
  refine Ex.regSeq (ExL.pures 1 rfl ?_)
  refine ExL.op rfl (op_ret rfl rfl rfl (c_l01Size _ (by assumption) _ _ (by first | assumption | omega | (unfold maxLen; omega))) (Reads.get (Reads.old hs)) rfl rfl (fun x4 hx4 => ?_))
  refine ExL.pures 1 rfl ?_
  refine ExL.nil ?_
  refine Ex.regSeq (ExL.pures 1 rfl ?_)
  refine ExL.free (fr_load rfl rfl rfl rfl (CellO.blk (i := 1) rfl rfl)) rfl rfl rfl ?_
  refine ExL.pures 1 rfl ?_
  refine ExL.free (fr_load rfl rfl rfl rfl (CellO.blk (i := 2) rfl rfl)) rfl rfl rfl ?_
  refine ExL.free (by first | exact fr_sub64 rfl rfl rfl (by omega) | exact fr_sub rfl rfl rfl) rfl rfl rfl ?_
  refine ExL.pures 1 rfl ?_
  refine ExL.nil ?_
  unfold lowF at hlo
  unfold highF at hhi
  refine Ex.regSeq (ExL.pures 1 rfl ?_)
  refine ExL.free (fr_load rfl rfl rfl rfl (CellO.blk (i := 0) rfl rfl)) rfl rfl rfl ?_
  refine ExL.pures 1 rfl ?_
  refine ExL.free (by first | exact fr_mul64 rfl rfl rfl (by omega) | exact fr_mul rfl rfl rfl) rfl rfl rfl ?_
  refine ExL.pures 1 rfl ?_
  refine ExL.nil ?_
  refine Ex.regSeq (ExL.pures 1 rfl ?_)
  refine ExL.free (fr_load rfl rfl rfl rfl (CellO.blk (i := 0) rfl rfl)) rfl rfl rfl ?_
  refine ExL.pures 1 rfl ?_
  refine ExL.free (by first | exact fr_mul64 rfl rfl rfl (by omega) | exact fr_mul rfl rfl rfl) rfl rfl rfl ?_
  refine ExL.pures 1 rfl ?_
  refine ExL.nil ?_
  refine Ex.regSeq (ExL.pures 1 rfl ?_)
  refine ExL.free (fr_load rfl rfl rfl rfl (CellO.blk (i := 1) rfl rfl)) rfl rfl rfl ?_
  refine ExL.pures 1 rfl ?_
  refine ExL.free (fr_load rfl rfl rfl rfl (CellO.blk (i := 2) rfl rfl)) rfl rfl rfl ?_
  refine ExL.free (by first | exact fr_sub64 rfl rfl rfl (by omega) | exact fr_sub rfl rfl rfl) rfl rfl rfl ?_
  refine ExL.pures 1 rfl ?_
  refine ExL.op rfl (op_ret rfl rfl rfl (c_l04Mod _ _ (by omega) (by omega)) (fun _ _ => trivial) rfl rfl (fun x5 hx5 => ?_))
  refine ExL.pures 1 rfl ?_
  refine ExL.nil ?_
  have hm0 := hmd (b.b - a.b)
  have hm1 := hmd ((b.b - a.b) % size s - f.a * (b.a - a.a))
  refine Ex.regSeq (ExL.pures 3 rfl ?_)
  refine ExL.free (by first | exact fr_sub64 rfl rfl rfl (by omega) | exact fr_sub rfl rfl rfl) rfl rfl rfl ?_
  refine ExL.pures 1 rfl ?_
  refine ExL.op rfl (op_ret rfl rfl rfl (c_l04Mod _ _ (by omega) (by omega)) (fun _ _ => trivial) rfl rfl (fun x6 hx6 => ?_))
  refine ExL.free (by first | exact fr_add64 rfl rfl rfl (by omega) | exact fr_add rfl rfl rfl) rfl rfl rfl ?_
  refine ExL.pures 1 rfl ?_
  refine ExL.nil ?_
  refine Ex.seq ?_
  refine Ex.regSeq (ExL.pures 2 rfl ?_)
  refine ExL.gtr rfl rfl rfl rfl rfl rfl (fun h7 => ?_) (fun h7 => ?_)
  · refine ExL.nil ?_
    refine Ex.cond_t rfl ?_
    refine Ex.regSeq (ExL.pures 3 rfl ?_)
    refine ExL.nil ?_
    refine Ex.ret ?_
    refine RetQ.mk (_, _) rfl (.tmp rfl (.tmp rfl (.tmp rfl .nil))) (t3 rfl rfl (vB (by first | exact fit_f (z := size s) (f := f) (a := a) (b := b) (by unfold lowF highF; omega) | exact fit_t (z := size s) (f := f) (a := a) (b := b) (by unfold lowF highF; omega)))) [] (rfl) rfl (trivial)
  · refine ExL.nil ?_
    refine Ex.cond_f rfl ?_
    refine Ex.skip ?_
    have hm2 := hmd (f.b * (b.a - a.a) - (b.b - a.b) % size s)
    refine Ex.regSeq (ExL.pures 4 rfl ?_)
    refine ExL.free (by first | exact fr_sub64 rfl rfl rfl (by omega) | exact fr_sub rfl rfl rfl) rfl rfl rfl ?_
    refine ExL.pures 1 rfl ?_
    refine ExL.op rfl (op_ret rfl rfl rfl (c_l04Mod _ _ (by omega) (by omega)) (fun _ _ => trivial) rfl rfl (fun x8 hx8 => ?_))
    refine ExL.free (by first | exact fr_sub64 rfl rfl rfl (by omega) | exact fr_sub rfl rfl rfl) rfl rfl rfl ?_
    refine ExL.pures 3 rfl ?_
    refine ExL.nil ?_
    refine Ex.ret ?_
    refine RetQ.mk (_, _) rfl (.tmp rfl (.tmp rfl (.tmp rfl .nil))) (t3 rfl rfl (vB (by first | exact fit_f (z := size s) (f := f) (a := a) (b := b) (by unfold lowF highF; omega) | exact fit_t (z := size s) (f := f) (a := a) (b := b) (by unfold lowF highF; omega)))) [] (rfl) rfl (trivial)
end Go.Proofs.Ytepahnikcojepaa
