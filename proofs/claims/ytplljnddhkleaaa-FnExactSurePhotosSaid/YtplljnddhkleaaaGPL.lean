/- What these functions of the program hand back, each proved by walking its operations. -/
import Derived.Test.YtplljnddhkleaaaProg
import Derived.Test.YtplljnddhkleaaaFw
import Derived.Test.YtplljnddhkleaaaM44
import Derived.Test.YtplljnddhkleaaaGPK
set_option linter.unusedVariables false
set_option linter.unusedSimpArgs false
set_option maxRecDepth 4000
namespace Go.Proofs.Ytplljnddhkleaaa
open Go Go.Sx Go.RowKit Go.W Go.Proofs
attribute [local irreducible] Ex ExL ExD Op1 Free RetQ MutQ Reads CellO SegO LoadsAs
theorem e_136 : Enters Try.prog 136 := Enters.of Try.func136 rfl
theorem c_Mul64 (n : Int) (hn : 0 ≤ n ∧ n ≤ 100000) : Ret Try.prog 136 [.int .u64 1, .int .u64 n] (fun w => True) (fun x : Unit => .tuple #[.int .u64 0, .int .u64 n]) (fun x => []) (fun x => True) := by
  refine Ret.of e_136 Try.func136 rfl Try.ntmps136 rfl rfl (fun w hpre => ?_)
  refine Ex.regSeq (ExL.pures 2 rfl ?_)
  refine ExL.nil ?_
  refine Ex.regSeq (ExL.pures 1 rfl ?_)
  refine ExL.free (Free.val (1) (fr_bits rfl rfl rfl (by simp)) (by rw [and32 (by omega)]; rfl)) rfl rfl rfl ?_
  refine ExL.pures 1 rfl ?_
  refine ExL.nil ?_
  refine Ex.regSeq (ExL.pures 1 rfl ?_)
  refine ExL.free (Free.val (0) (fr_shr rfl rfl rfl (by omega)) (rfl)) rfl rfl rfl ?_
  refine ExL.pures 1 rfl ?_
  refine ExL.nil ?_
  refine Ex.regSeq (ExL.pures 1 rfl ?_)
  refine ExL.free (Free.val (n) (fr_bits rfl rfl rfl (by simp)) (by rw [and32 (by omega)]; omega)) rfl rfl rfl ?_
  refine ExL.pures 1 rfl ?_
  refine ExL.nil ?_
  refine Ex.regSeq (ExL.pures 1 rfl ?_)
  refine ExL.free (Free.val (0) (fr_shr rfl rfl rfl (by omega)) (by rw [shr32]; omega)) rfl rfl rfl ?_
  refine ExL.pures 1 rfl ?_
  refine ExL.nil ?_
  refine Ex.regSeq (ExL.pures 2 rfl ?_)
  refine ExL.free (Free.val (n) (fr_mul rfl rfl rfl) (by rw [Int.one_mul]; exact wrap_u64n _ (by omega) (by omega))) rfl rfl rfl ?_
  refine ExL.pures 1 rfl ?_
  refine ExL.nil ?_
  refine Ex.regSeq (ExL.pures 2 rfl ?_)
  refine ExL.free (Free.val (0) (fr_mul rfl rfl rfl) (by rw [Int.zero_mul]; rfl)) rfl rfl rfl ?_
  refine ExL.pures 1 rfl ?_
  refine ExL.free (Free.val (0) (fr_shr rfl rfl rfl (by omega)) (by rw [shr32]; omega)) rfl rfl rfl ?_
  refine ExL.free (Free.val (0) (fr_add rfl rfl rfl) (rfl)) rfl rfl rfl ?_
  refine ExL.pures 1 rfl ?_
  refine ExL.nil ?_
  refine Ex.regSeq (ExL.pures 1 rfl ?_)
  refine ExL.free (Free.val (0) (fr_bits rfl rfl rfl (by simp)) (by rw [and32 (by omega)]; rfl)) rfl rfl rfl ?_
  refine ExL.pures 1 rfl ?_
  refine ExL.nil ?_
  refine Ex.regSeq (ExL.pures 1 rfl ?_)
  refine ExL.free (Free.val (0) (fr_shr rfl rfl rfl (by omega)) (rfl)) rfl rfl rfl ?_
  refine ExL.pures 1 rfl ?_
  refine ExL.nil ?_
  refine Ex.regSeq (ExL.pures 3 rfl ?_)
  refine ExL.free (Free.val (0) (fr_mul rfl rfl rfl) (rfl)) rfl rfl rfl ?_
  refine ExL.free (Free.val (0) (fr_add rfl rfl rfl) (rfl)) rfl rfl rfl ?_
  refine ExL.pures 1 rfl ?_
  refine ExL.nil ?_
  refine Ex.regSeq (ExL.pures 2 rfl ?_)
  refine ExL.free (Free.val (0) (fr_mul rfl rfl rfl) (rfl)) rfl rfl rfl ?_
  refine ExL.pures 1 rfl ?_
  refine ExL.free (Free.val (0) (fr_add rfl rfl rfl) (rfl)) rfl rfl rfl ?_
  refine ExL.pures 1 rfl ?_
  refine ExL.free (Free.val (0) (fr_shr rfl rfl rfl (by omega)) (rfl)) rfl rfl rfl ?_
  refine ExL.free (Free.val (0) (fr_add rfl rfl rfl) (rfl)) rfl rfl rfl ?_
  refine ExL.pures 1 rfl ?_
  refine ExL.nil ?_
  refine Ex.regSeq (ExL.pures 2 rfl ?_)
  refine ExL.free (Free.val (n) (fr_mul rfl rfl rfl) (by rw [Int.one_mul]; exact wrap_u64n _ (by omega) (by omega))) rfl rfl rfl ?_
  refine ExL.pures 1 rfl ?_
  refine ExL.nil ?_
  refine Ex.ret ?_
  refine RetQ.mk () rfl (.tmp rfl (.tmp rfl .nil)) (rfl) [] (rfl) rfl (trivial)
theorem e_132 : Enters Try.prog 132 := Enters.of Try.func132 rfl
theorem c_Mul (n : Int) (hn : 0 ≤ n ∧ n ≤ 100000) : Ret Try.prog 132 [.int .u64 1, .int .u64 n] (fun w => True) (fun x : Unit => .tuple #[.int .u64 0, .int .u64 n]) (fun x => []) (fun x => True) := by
  refine Ret.of e_132 Try.func132 rfl Try.ntmps132 rfl rfl (fun w hpre => ?_)
  refine Ex.regSeq (ExL.pures 2 rfl ?_)
  refine ExL.nil ?_
  refine Ex.seq ?_
  refine Ex.cond_f rfl ?_
  refine Ex.skip ?_
  refine Ex.regSeq (ExL.pures 2 rfl ?_)
  refine ExL.op rfl (op_ret rfl rfl rfl (c_Mul64 _ (by omega)) (fun _ _ => trivial) rfl rfl (fun x1 hx1 => ?_))
  refine ExL.pures 5 rfl ?_
  refine ExL.nil ?_
  refine Ex.regSeq (ExL.pures 4 rfl ?_)
  refine ExL.nil ?_
  refine Ex.ret ?_
  refine RetQ.mk () rfl (.tmp rfl (.tmp rfl .nil)) (rfl) [] (rfl) rfl (trivial)
theorem e_117 : Enters Try.prog 117 := Enters.of Try.func117 rfl
theorem c_Repeat (a : Int) (A : Option Addr) (c : Nat) (n : Nat) (hn : 1 ≤ n ∧ n ≤ 1000) : Ret Try.prog 117 [.slice A 1 c, .int .i64 n] (fun w => Rd w A ([a].flatMap (eI .i64))) (fun x : Nat => .slice (some ⟨x, 0, none⟩) n n) (fun x => [.row (.slice (some ⟨x, 0, none⟩) n n) 2 1 n ((List.replicate n a).flatMap (eI .i64))]) (fun x => True) := by
  refine Ret.of e_117 Try.func117 rfl Try.ntmps117 rfl rfl (fun w hpre => ?_)
  have hs := hpre.base
  have hm0 : maxLen = 9223372036854775807 := rfl
  refine Ex.regSeq (ExL.pures 1 rfl ?_)
  refine ExL.nil ?_
  refine Ex.seq ?_
  refine Ex.regSeq (ExL.pures 1 rfl ?_)
  refine ExL.free (fr_lss_f rfl rfl rfl (by omega)) rfl rfl rfl ?_
  refine ExL.nil ?_
  refine Ex.cond_f rfl ?_
  refine Ex.skip ?_
  refine Ex.regSeq (ExL.pures 2 rfl ?_)
  refine ExL.free (by first | exact fr_conv_u64 rfl rfl rfl rfl (by omega) | exact fr_conv rfl rfl rfl rfl) rfl rfl rfl ?_
  refine ExL.pures 1 rfl ?_
  refine ExL.free (by first | exact fr_conv_u64 rfl rfl rfl rfl (by omega) | exact fr_conv rfl rfl rfl rfl) rfl rfl rfl ?_
  refine ExL.op rfl (op_ret rfl rfl rfl (c_Mul _ (by omega)) (fun _ _ => trivial) rfl rfl (fun x1 hx1 => ?_))
  refine ExL.pures 5 rfl ?_
  refine ExL.nil ?_
  refine Ex.seq ?_
  refine Ex.regSeq (ExL.pures 1 rfl ?_)
  refine ExL.free (fr_gtr_f rfl rfl rfl (by omega)) rfl rfl rfl ?_
  refine ExL.pures 2 rfl ?_
  refine ExL.free (fr_gtr_f rfl rfl rfl (by omega)) rfl rfl rfl ?_
  refine ExL.pures 1 rfl ?_
  refine ExL.nil ?_
  refine Ex.cond_f rfl ?_
  refine Ex.skip ?_
  refine Ex.regSeq (ExL.pures 1 rfl ?_)
  refine ExL.free (by first | exact fr_conv64 rfl rfl rfl rfl (by omega) | exact fr_conv rfl rfl rfl rfl) rfl rfl rfl ?_
  refine ExL.op rfl (op_makeSlice (sz := 8) rfl rfl rfl rfl rfl rfl rfl rfl (⟨by omega, by unfold maxLen; omega⟩) rfl rfl (fun r2 => ?_))
  refine ExL.pures 1 rfl ?_
  refine ExL.nil ?_
  refine Ex.regSeq (ExL.pures 2 rfl ?_)
  refine ExL.op rfl (op_copyRow (i := 0) rfl rfl rfl rfl rfl rfl rfl rfl [Value.int .i64 a] (by simp; omega) (by simp) (rep_one (Reads.old hs)) (rep_room hn.1) rfl (rep_first hn.1) ?_)
  refine ExL.pures 1 rfl ?_
  refine ExL.nil ?_
  refine Ex.seq ?_
  refine Ex.block ?_
  refine Ex.loopK (X := Nat) (fun k => [(8, .int .i64 k)]) (fun k => [.row (.slice (some ⟨r2, 0, none⟩) n n) 2 1 n ((repP n a k).flatMap (eI .i64))]) (fun k => 1 ≤ k ∧ k ≤ n) (fun k => n - k) 1 [(4, _), (7, _)] [] 1 [0] ⟨rfl, trivial⟩ ⟨rfl, rfl, trivial⟩ (rfl) rfl ⟨Nat.le_refl _, hn.1⟩ (fun k hI => ?_)
  have hI : 1 ≤ k ∧ k ≤ n := hI
  have hlr : (List.replicate (min (n - k) k) (Value.int .i64 a)).length = (min (n - k) k) := List.length_replicate
  refine Ex.seq ?_
  refine Ex.regSeq (ExL.pures 3 rfl ?_)
  refine ExL.lss rfl rfl rfl rfl rfl rfl (fun h3 => ?_) (fun h3 => ?_)
  · refine ExL.nil ?_
    refine Ex.cond_t rfl ?_
    refine Ex.skip ?_
    refine Ex.block ?_
    refine Ex.drawI [] rfl rfl ?_
    refine ExD.take (i := 0) rfl (by kernel_rfl) (pureVal_ok rfl) ((List.nil_sublist _)) rfl rfl rfl ?_
    refine ExD.take (i := 1) rfl (by kernel_rfl) (pureVal_ok rfl) ((List.nil_sublist _)) rfl rfl rfl ?_
    refine ExD.take (i := 2) rfl (by kernel_rfl) (pureVal_ok rfl) ((List.nil_sublist _)) rfl rfl rfl ?_
    refine ExD.take (i := 3) rfl (by kernel_rfl) (fr_slice_lb (sz := 1) k rfl rfl rfl rfl rfl rfl (by omega) (by omega)) ((List.nil_sublist _)) rfl rfl rfl ?_
    refine ExD.take (i := 4) rfl (by kernel_rfl) (pureVal_ok rfl) ((List.nil_sublist _)) rfl rfl rfl ?_
    refine ExD.take (i := 5) rfl (by kernel_rfl) (pureVal_ok rfl) ((List.nil_sublist _)) rfl rfl rfl ?_
    refine ExD.take (i := 6) rfl (by kernel_rfl) (fr_slice_h (sz := 1) k rfl rfl rfl rfl rfl rfl (by omega)) ((List.nil_sublist _)) rfl rfl rfl ?_
    refine ExD.op (i := 7) rfl (by kernel_rfl) rfl (op_copyRow (i := 0) rfl rfl rfl rfl rfl rfl rfl rfl (List.replicate (min (n - k) k) (Value.int .i64 a)) (by rw [List.length_replicate]; omega) (by rw [List.length_replicate]; omega) (seg_row (i := 0) rfl (by intro h9; have := congrArg List.length h9; rw [List.length_replicate, List.length_nil] at this; omega) (rep_seg (by omega))) (by rw [List.length_replicate, flat_len (eI_len .i64), repP_len (by omega)]; omega) (rep_all1 _ _) (repP_put (by omega) (by omega)) ⟨(List.nil_sublist _), ?_⟩)
    refine ExD.take (i := 8) rfl (by kernel_rfl) (by first | exact fr_add64 rfl rfl rfl (by omega) | exact fr_add rfl rfl rfl) ((List.nil_sublist _)) rfl rfl rfl ?_
    refine ExD.take (i := 9) rfl (by kernel_rfl) (pureVal_ok rfl) ((List.nil_sublist _)) rfl rfl rfl ?_
    refine ExD.done (by kernel_rfl) ?_
    refine Hand.mk (k + (min (n - k) k)) 1 [0] ⟨agI (by rw [List.length_replicate]; omega), trivial⟩ ⟨rfl, rfl, trivial⟩ (rfl) rfl (⟨by omega, by omega⟩) (by omega)
  · refine ExL.nil ?_
    refine Ex.cond_f rfl ?_
    refine Ex.exit ?_
    obtain rfl : k = n := (by omega)
    rw [repP_all]
    refine Ex.regSeq (ExL.pures 2 rfl ?_)
    refine ExL.nil ?_
    refine Ex.ret ?_
    refine RetQ.mk _ rfl (.tmp rfl .nil) (rfl) [0] (rfl) rfl (trivial)
end Go.Proofs.Ytplljnddhkleaaa
