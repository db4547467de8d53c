/- What these functions of the program hand back, each proved by walking its operations. -/
import Derived.Test.YtepahnikcojepaaProg
import Derived.Test.YtepahnikcojepaaFw
import Derived.Test.YtepahnikcojepaaGT
set_option linter.unusedVariables false
set_option linter.unusedSimpArgs false
set_option maxRecDepth 4000
namespace Go.Proofs.Ytepahnikcojepaa
open Go Go.Sx Go.RowKit Go.W Go.Proofs
attribute [local irreducible] Ex ExL ExD Op1 Free RetQ MutQ Reads CellO SegO LoadsAs
theorem e_34 : Enters Try.prog 34 := Enters.of Try.func34 rfl
theorem c_markInt64S (s : List Int) (A : Option Addr) (c : Nat) (n : Nat) (hn : n ≤ 100000000 ∧ s.length = n) (k : Int) (hk : 0 ≤ k ∧ k ≤ 1000000000) : Mut Try.prog 34 [.slice A n c, .int .i64 k] [.row (.slice A n c) 2 1 n (s.flatMap (eI .i64))] (fun base w0 F => True) (fun x : Unit => .int .i64 (k + n)) (fun x => [.row (.slice A n c) 2 1 n ((mkI n k).flatMap (eI .i64))]) (fun x => True) := by
  refine Mut.of e_34 Try.func34 rfl Try.ntmps34 rfl rfl (fun base w0 F hfr => ?_)
  obtain ⟨hn1, hsl⟩ := hn
  have hml : (mkI n k).length = s.length := by rw [mkI_len, hsl]
  have hm0 : maxLen = 9223372036854775807 := rfl
  refine Ex.regSeq (ExL.pures 1 rfl ?_)
  refine ExL.nil ?_
  refine Ex.seq ?_
  refine Ex.regSeq (ExL.pures 1 rfl ?_)
  refine ExL.nil ?_
  refine Ex.block ?_
  refine Ex.loopK (X := Nat) (fun i => [(1, .int .i64 (k + i)), (5, .int .i64 i)]) (fun i => [.row (.slice A n c) 2 1 n ((over (mkI n k) s i).flatMap (eI .i64))]) (fun i => i ≤ n) (fun i => n - i) 0 [(0, _), (4, _)] (F) 1 [0] ⟨agI (by omega), rfl, trivial⟩ ⟨rfl, rfl, trivial⟩ (pkR (by rw [over_zero])) rfl (Nat.zero_le _) (fun i hI => ?_)
  have hI : i ≤ n := hI
  refine Ex.seq ?_
  refine Ex.regSeq (ExL.pures 3 rfl ?_)
  refine ExL.lss rfl rfl rfl rfl rfl rfl (fun h1 => ?_) (fun h1 => ?_)
  · refine ExL.nil ?_
    refine Ex.cond_t rfl ?_
    refine Ex.skip ?_
    refine Ex.seq ?_
    refine Ex.block ?_
    refine Ex.regSeq (ExL.pures 3 rfl ?_)
    refine ExL.free (fr_indexAddrR (sz := 1) 0 rfl rfl rfl rfl rfl rfl (by omega)) rfl rfl rfl ?_
    refine ExL.op rfl (op_storeRow (i := 0) rfl rfl rfl rfl rfl rfl rfl rfl (room (eI_len .i64) (k := i) (by rw [over_len hml]; omega) (by first | rfl | simp) rfl) (List.cons_ne_nil _ _) rfl ?_)
    refine ExL.nil ?_
    refine Ex.region (ExL.pures 1 rfl ?_)
    refine ExL.free (by first | exact fr_add64 rfl rfl rfl (by omega) | exact fr_add rfl rfl rfl) rfl rfl rfl ?_
    refine ExL.pures 1 rfl ?_
    refine ExL.nil ?_
    refine Ex.region (ExL.pures 1 rfl ?_)
    refine ExL.free (by first | exact fr_add64 rfl rfl rfl (by omega) | exact fr_add rfl rfl rfl) rfl rfl rfl ?_
    refine ExL.pures 1 rfl ?_
    refine ExL.nil ?_
    refine Hand.mk (i + 1) 1 [0] ⟨agI (by omega), rfl, trivial⟩ ⟨rfl, rfl, trivial⟩ (pkR (over_put (eI_len .i64) 0 hml (by omega) (by simp) (congrArg (eI .i64) (mkI_at (by omega)).symm))) rfl (by omega) (by omega)
  · refine ExL.nil ?_
    refine Ex.cond_f rfl ?_
    refine Ex.exit ?_
    obtain rfl : i = n := (by omega)
    refine Ex.regSeq (ExL.pures 2 rfl ?_)
    refine ExL.nil ?_
    refine Ex.ret ?_
    refine MutQ.mk () rfl (.tmp rfl .nil) (rfl) 1 [0] (pkR (by rw [← hsl, over_all (by rw [mkI_len])])) rfl (trivial)
theorem e_35 : Enters Try.prog 35 := Enters.of Try.func35 rfl
theorem c_heldInt64S (A : Option Addr) (c : Nat) (n : Nat) (hn : n ≤ 100000000) (k : Int) (hk : 0 ≤ k ∧ k ≤ 1000000000) : Ret Try.prog 35 [.slice A n c, .int .i64 k] (fun w => Rd w A ((mkI n k).flatMap (eI .i64))) (fun x : Unit => .int .i64 (k + n)) (fun x => []) (fun x => True) := by
  refine Ret.of e_35 Try.func35 rfl Try.ntmps35 rfl rfl (fun w hpre => ?_)
  have hs := hpre.base
  have hml := mkI_len n k
  rw [← hml]
  have hm0 : maxLen = 9223372036854775807 := rfl
  refine Ex.regSeq (ExL.pures 1 rfl ?_)
  refine ExL.nil ?_
  refine Ex.seq ?_
  refine Ex.regSeq (ExL.pures 1 rfl ?_)
  refine ExL.nil ?_
  refine Ex.block ?_
  refine Ex.loopK (X := Nat) (fun i => [(1, .int .i64 (k + i)), (5, .int .i64 i)]) (fun i => []) (fun i => i ≤ n) (fun i => n - i) 0 [(0, _)] [] 0 [] ⟨agI (by omega), rfl, trivial⟩ ⟨rfl, trivial⟩ (rfl) rfl (Nat.zero_le _) (fun i hI => ?_)
  have hI : i ≤ n := hI
  refine Ex.seq ?_
  refine Ex.regSeq (ExL.pures 3 rfl ?_)
  refine ExL.lss rfl rfl rfl rfl rfl rfl (fun h1 => ?_) (fun h1 => ?_)
  · refine ExL.nil ?_
    refine Ex.cond_t rfl ?_
    refine Ex.skip ?_
    refine Ex.seq ?_
    refine Ex.block ?_
    refine Ex.seq ?_
    refine Ex.regSeq (ExL.pures 2 rfl ?_)
    refine ExL.free (fr_indexAddrF (Reads.old hs) (eI_len .i64) rfl rfl rfl rfl rfl rfl (by omega)) rfl rfl rfl ?_
    refine ExL.free (fr_load rfl rfl rfl rfl (by first | exact cellN (Reads.old hs) (eI_len .i64) 0 0 rfl (by omega) rfl | exact cellF (Reads.old hs) (eI_len .i64) 0 0 rfl (by omega) rfl)) rfl rfl rfl ?_
    refine ExL.pures 1 rfl ?_
    refine ExL.free (fr_neq_f rfl rfl rfl (by rw [mkI_at (by omega)]; exact fun h => h rfl)) rfl rfl rfl ?_
    refine ExL.nil ?_
    refine Ex.cond_f rfl ?_
    refine Ex.skip ?_
    refine Ex.region (ExL.pures 1 rfl ?_)
    refine ExL.free (by first | exact fr_add64 rfl rfl rfl (by omega) | exact fr_add rfl rfl rfl) rfl rfl rfl ?_
    refine ExL.pures 1 rfl ?_
    refine ExL.nil ?_
    refine Ex.region (ExL.pures 1 rfl ?_)
    refine ExL.free (by first | exact fr_add64 rfl rfl rfl (by omega) | exact fr_add rfl rfl rfl) rfl rfl rfl ?_
    refine ExL.pures 1 rfl ?_
    refine ExL.nil ?_
    refine Hand.mk (i + 1) 0 [] ⟨agI (by omega), rfl, trivial⟩ ⟨rfl, trivial⟩ (rfl) rfl (by omega) (by omega)
  · refine ExL.nil ?_
    refine Ex.cond_f rfl ?_
    refine Ex.exit ?_
    refine Ex.regSeq (ExL.pures 2 rfl ?_)
    refine ExL.nil ?_
    refine Ex.ret ?_
    refine RetQ.mk () rfl (.tmp rfl .nil) (tI (by omega)) [] (rfl) rfl (trivial)
end Go.Proofs.Ytepahnikcojepaa
