/- What these functions of the program hand back, each proved by walking its operations. -/
import Derived.Test.YtepahnikcojepaaProg
import Derived.Test.YtepahnikcojepaaFw
import Derived.Test.YtepahnikcojepaaGT
set_option linter.unusedVariables false
set_option linter.unusedSimpArgs false
set_option maxRecDepth 4000
namespace Go.Proofs.Ytepahnikcojepaa
open Go Go.Sx Go.RowKit Go.W Go.Proofs
attribute [local irreducible] Ex ExL ExD Op1 Free RetQ MutQ Reads CellO SegO LoadsAs
theorem e_25 : Enters Try.prog 25 := Enters.of Try.func25 rfl
theorem c_markTotalS (s : List VP) (A : Option Addr) (c : Nat) (n : Nat) (hn : n ≤ 100000000 ∧ s.length = n) (k : Int) (hk : 0 ≤ k ∧ k ≤ 1000000000) : Mut Try.prog 25 [.slice A n c, .int .i64 k] [.row (.slice A n c) 79 2 n (s.flatMap encP)] (fun base w0 F => True) (fun x : Unit => .int .i64 (k + 2 * n)) (fun x => [.row (.slice A n c) 79 2 n ((mkP n k).flatMap encP)]) (fun x => True) := by
  refine Mut.of e_25 Try.func25 rfl Try.ntmps25 rfl rfl (fun base w0 F hfr => ?_)
  obtain ⟨hn1, hsl⟩ := hn
  have hsL : (s.flatMap encP).length = n * 2 := by rw [flat_len encP_len, hsl]
  have hml : ((mkP n k).flatMap encP).length = (s.flatMap encP).length := by rw [hsL, flat_len encP_len, mkP_len]
  have hm0 : maxLen = 9223372036854775807 := rfl
  refine Ex.regSeq (ExL.pures 1 rfl ?_)
  refine ExL.nil ?_
  refine Ex.seq ?_
  refine Ex.regSeq (ExL.pures 1 rfl ?_)
  refine ExL.nil ?_
  refine Ex.block ?_
  refine Ex.loopK (X := Nat) (fun i => [(1, .int .i64 (k + 2 * i)), (5, .int .i64 i)]) (fun i => [.row (.slice A n c) 79 2 n (over ((mkP n k).flatMap encP) (s.flatMap encP) (i * 2))]) (fun i => i ≤ n) (fun i => n - i) 0 [(0, _), (4, _)] (F) 1 [0] ⟨agI (by omega), rfl, trivial⟩ ⟨rfl, rfl, trivial⟩ (pkR (by rw [Nat.zero_mul, over_zero])) rfl (Nat.zero_le _) (fun i hI => ?_)
  have hI : i ≤ n := hI
  refine Ex.seq ?_
  refine Ex.regSeq (ExL.pures 3 rfl ?_)
  refine ExL.lss rfl rfl rfl rfl rfl rfl (fun h1 => ?_) (fun h1 => ?_)
  · refine ExL.nil ?_
    refine Ex.cond_t rfl ?_
    refine Ex.skip ?_
    refine Ex.seq ?_
    refine Ex.block ?_
    refine Ex.regSeq (ExL.pures 3 rfl ?_)
    refine ExL.free (fr_indexAddrR (sz := 2) 0 rfl rfl rfl rfl rfl rfl (by omega)) rfl rfl rfl ?_
    refine ExL.free (fr_fieldAddrR 0 rfl (by omega) rfl rfl rfl rfl rfl rfl) rfl rfl rfl ?_
    refine ExL.op rfl (op_storeRowF (i := 0) rfl rfl rfl rfl rfl rfl rfl rfl (over_roomC hml (by omega) (by simp) rfl) (List.cons_ne_nil _ _) rfl (over_cell (p := i * 2) hml (by omega) (by simp) (mkP_cell (j := 0) (by omega) (by omega))) ?_)
    refine ExL.nil ?_
    refine Ex.regSeq (ExL.pures 1 rfl ?_)
    refine ExL.free (by first | exact fr_add64 rfl rfl rfl (by omega) | exact fr_add rfl rfl rfl) rfl rfl rfl ?_
    refine ExL.pures 1 rfl ?_
    refine ExL.nil ?_
    refine Ex.regSeq (ExL.pures 3 rfl ?_)
    refine ExL.free (fr_indexAddrR (sz := 2) 0 rfl rfl rfl rfl rfl rfl (by omega)) rfl rfl rfl ?_
    refine ExL.free (fr_fieldAddrR 0 rfl (by omega) rfl rfl rfl rfl rfl rfl) rfl rfl rfl ?_
    refine ExL.op rfl (op_storeRowF (i := 0) rfl rfl rfl rfl rfl rfl rfl rfl (over_roomC hml (by omega) (by simp) rfl) (List.cons_ne_nil _ _) rfl (over_cell (p := i * 2 + 1) hml (by omega) (by simp) (mkP_cell (j := 1) (by omega) (by omega))) ?_)
    refine ExL.nil ?_
    refine Ex.region (ExL.pures 1 rfl ?_)
    refine ExL.free (by first | exact fr_add64 rfl rfl rfl (by omega) | exact fr_add rfl rfl rfl) rfl rfl rfl ?_
    refine ExL.pures 1 rfl ?_
    refine ExL.nil ?_
    refine Ex.region (ExL.pures 1 rfl ?_)
    refine ExL.free (by first | exact fr_add64 rfl rfl rfl (by omega) | exact fr_add rfl rfl rfl) rfl rfl rfl ?_
    refine ExL.pures 1 rfl ?_
    refine ExL.nil ?_
    refine Hand.mk (i + 1) 1 [0] ⟨agI (by omega), rfl, trivial⟩ ⟨rfl, rfl, trivial⟩ (pkR (by rw [Nat.succ_mul])) rfl (by omega) (by omega)
  · refine ExL.nil ?_
    refine Ex.cond_f rfl ?_
    refine Ex.exit ?_
    obtain rfl : i = n := (by omega)
    refine Ex.regSeq (ExL.pures 2 rfl ?_)
    refine ExL.nil ?_
    refine Ex.ret ?_
    refine MutQ.mk () rfl (.tmp rfl .nil) (rfl) 1 [0] (pkR (by rw [← hsL, over_all hml])) rfl (trivial)
theorem e_26 : Enters Try.prog 26 := Enters.of Try.func26 rfl
theorem c_heldTotalS (A : Option Addr) (c : Nat) (n : Nat) (hn : n ≤ 100000000) (k : Int) (hk : 0 ≤ k ∧ k ≤ 1000000000) : Ret Try.prog 26 [.slice A n c, .int .i64 k] (fun w => Rd w A ((mkP n k).flatMap encP)) (fun x : Unit => .int .i64 (k + 2 * n)) (fun x => []) (fun x => True) := by
  refine Ret.of e_26 Try.func26 rfl Try.ntmps26 rfl rfl (fun w hpre => ?_)
  have hs := hpre.base
  have hml := mkP_len n k
  rw [← hml]
  have hm0 : maxLen = 9223372036854775807 := rfl
  refine Ex.regSeq (ExL.pures 1 rfl ?_)
  refine ExL.nil ?_
  refine Ex.seq ?_
  refine Ex.regSeq (ExL.pures 1 rfl ?_)
  refine ExL.nil ?_
  refine Ex.block ?_
  refine Ex.loopK (X := Nat) (fun i => [(1, .int .i64 (k + 2 * i)), (5, .int .i64 i)]) (fun i => []) (fun i => i ≤ n) (fun i => n - i) 0 [(0, _)] [] 0 [] ⟨agI (by omega), rfl, trivial⟩ ⟨rfl, trivial⟩ (rfl) rfl (Nat.zero_le _) (fun i hI => ?_)
  have hI : i ≤ n := hI
  refine Ex.seq ?_
  refine Ex.regSeq (ExL.pures 3 rfl ?_)
  refine ExL.lss rfl rfl rfl rfl rfl rfl (fun h1 => ?_) (fun h1 => ?_)
  · refine ExL.nil ?_
    refine Ex.cond_t rfl ?_
    refine Ex.skip ?_
    refine Ex.seq ?_
    refine Ex.block ?_
    refine Ex.seq ?_
    refine Ex.regSeq (ExL.pures 2 rfl ?_)
    refine ExL.free (fr_indexAddrF (Reads.old hs) encP_len rfl rfl rfl rfl rfl rfl (by omega)) rfl rfl rfl ?_
    refine ExL.free (fr_fieldAddrF (i := (↑i : Int).toNat) (Reads.old hs) encP_len rfl rfl rfl (by omega) rfl rfl rfl rfl) rfl rfl rfl ?_
    refine ExL.free (fr_load rfl rfl rfl rfl (by first | exact cellN (Reads.old hs) encP_len zP 0 rfl (by omega) rfl | exact cellF (Reads.old hs) encP_len zP 0 rfl (by omega) rfl)) rfl rfl rfl ?_
    refine ExL.pures 1 rfl ?_
    refine ExL.free (fr_neq_f rfl rfl rfl (by rw [mkP_at (by omega)]; simp)) rfl rfl rfl ?_
    refine ExL.nil ?_
    refine Ex.cond_f rfl ?_
    refine Ex.skip ?_
    refine Ex.regSeq (ExL.pures 1 rfl ?_)
    refine ExL.free (by first | exact fr_add64 rfl rfl rfl (by omega) | exact fr_add rfl rfl rfl) rfl rfl rfl ?_
    refine ExL.pures 1 rfl ?_
    refine ExL.nil ?_
    refine Ex.seq ?_
    refine Ex.regSeq (ExL.pures 2 rfl ?_)
    refine ExL.free (fr_indexAddrF (Reads.old hs) encP_len rfl rfl rfl rfl rfl rfl (by omega)) rfl rfl rfl ?_
    refine ExL.free (fr_fieldAddrF (i := (↑i : Int).toNat) (Reads.old hs) encP_len rfl rfl rfl (by omega) rfl rfl rfl rfl) rfl rfl rfl ?_
    refine ExL.free (fr_load rfl rfl rfl rfl (by first | exact cellN (Reads.old hs) encP_len zP 1 rfl (by omega) rfl | exact cellF (Reads.old hs) encP_len zP 1 rfl (by omega) rfl)) rfl rfl rfl ?_
    refine ExL.pures 1 rfl ?_
    refine ExL.free (fr_neq_f rfl rfl rfl (by rw [mkP_at (by omega)]; simp)) rfl rfl rfl ?_
    refine ExL.nil ?_
    refine Ex.cond_f rfl ?_
    refine Ex.skip ?_
    refine Ex.region (ExL.pures 1 rfl ?_)
    refine ExL.free (by first | exact fr_add64 rfl rfl rfl (by omega) | exact fr_add rfl rfl rfl) rfl rfl rfl ?_
    refine ExL.pures 1 rfl ?_
    refine ExL.nil ?_
    refine Ex.region (ExL.pures 1 rfl ?_)
    refine ExL.free (by first | exact fr_add64 rfl rfl rfl (by omega) | exact fr_add rfl rfl rfl) rfl rfl rfl ?_
    refine ExL.pures 1 rfl ?_
    refine ExL.nil ?_
    refine Hand.mk (i + 1) 0 [] ⟨agI (by omega), rfl, trivial⟩ ⟨rfl, trivial⟩ (rfl) rfl (by omega) (by omega)
  · refine ExL.nil ?_
    refine Ex.cond_f rfl ?_
    refine Ex.exit ?_
    refine Ex.regSeq (ExL.pures 2 rfl ?_)
    refine ExL.nil ?_
    refine Ex.ret ?_
    refine RetQ.mk () rfl (.tmp rfl .nil) (tI (by omega)) [] (rfl) rfl (trivial)
theorem e_24 : Enters Try.prog 24 := Enters.of Try.func24 rfl
theorem c_markReadingS (s : List VP) (A : Option Addr) (c : Nat) (n : Nat) (hn : n ≤ 100000000 ∧ s.length = n) (k : Int) (hk : 0 ≤ k ∧ k ≤ 1000000000) : Mut Try.prog 24 [.slice A n c, .int .i64 k] [.row (.slice A n c) 89 2 n (s.flatMap encP)] (fun base w0 F => True) (fun x : Unit => .int .i64 (k + 2 * n)) (fun x => [.row (.slice A n c) 89 2 n ((mkP n k).flatMap encP)]) (fun x => True) := by
  refine Mut.of e_24 Try.func24 rfl Try.ntmps24 rfl rfl (fun base w0 F hfr => ?_)
  obtain ⟨hn1, hsl⟩ := hn
  have hsL : (s.flatMap encP).length = n * 2 := by rw [flat_len encP_len, hsl]
  have hml : ((mkP n k).flatMap encP).length = (s.flatMap encP).length := by rw [hsL, flat_len encP_len, mkP_len]
  have hm0 : maxLen = 9223372036854775807 := rfl
  refine Ex.regSeq (ExL.pures 1 rfl ?_)
  refine ExL.nil ?_
  refine Ex.seq ?_
  refine Ex.regSeq (ExL.pures 1 rfl ?_)
  refine ExL.nil ?_
  refine Ex.block ?_
  refine Ex.loopK (X := Nat) (fun i => [(1, .int .i64 (k + 2 * i)), (5, .int .i64 i)]) (fun i => [.row (.slice A n c) 89 2 n (over ((mkP n k).flatMap encP) (s.flatMap encP) (i * 2))]) (fun i => i ≤ n) (fun i => n - i) 0 [(0, _), (4, _)] (F) 1 [0] ⟨agI (by omega), rfl, trivial⟩ ⟨rfl, rfl, trivial⟩ (pkR (by rw [Nat.zero_mul, over_zero])) rfl (Nat.zero_le _) (fun i hI => ?_)
  have hI : i ≤ n := hI
  refine Ex.seq ?_
  refine Ex.regSeq (ExL.pures 3 rfl ?_)
  refine ExL.lss rfl rfl rfl rfl rfl rfl (fun h1 => ?_) (fun h1 => ?_)
  · refine ExL.nil ?_
    refine Ex.cond_t rfl ?_
    refine Ex.skip ?_
    refine Ex.seq ?_
    refine Ex.block ?_
    refine Ex.regSeq (ExL.pures 3 rfl ?_)
    refine ExL.free (fr_indexAddrR (sz := 2) 0 rfl rfl rfl rfl rfl rfl (by omega)) rfl rfl rfl ?_
    refine ExL.free (fr_fieldAddrR 0 rfl (by omega) rfl rfl rfl rfl rfl rfl) rfl rfl rfl ?_
    refine ExL.op rfl (op_storeRowF (i := 0) rfl rfl rfl rfl rfl rfl rfl rfl (over_roomC hml (by omega) (by simp) rfl) (List.cons_ne_nil _ _) rfl (over_cell (p := i * 2) hml (by omega) (by simp) (mkP_cell (j := 0) (by omega) (by omega))) ?_)
    refine ExL.nil ?_
    refine Ex.regSeq (ExL.pures 1 rfl ?_)
    refine ExL.free (by first | exact fr_add64 rfl rfl rfl (by omega) | exact fr_add rfl rfl rfl) rfl rfl rfl ?_
    refine ExL.pures 1 rfl ?_
    refine ExL.nil ?_
    refine Ex.regSeq (ExL.pures 3 rfl ?_)
    refine ExL.free (fr_indexAddrR (sz := 2) 0 rfl rfl rfl rfl rfl rfl (by omega)) rfl rfl rfl ?_
    refine ExL.free (fr_fieldAddrR 0 rfl (by omega) rfl rfl rfl rfl rfl rfl) rfl rfl rfl ?_
    refine ExL.op rfl (op_storeRowF (i := 0) rfl rfl rfl rfl rfl rfl rfl rfl (over_roomC hml (by omega) (by simp) rfl) (List.cons_ne_nil _ _) rfl (over_cell (p := i * 2 + 1) hml (by omega) (by simp) (mkP_cell (j := 1) (by omega) (by omega))) ?_)
    refine ExL.nil ?_
    refine Ex.region (ExL.pures 1 rfl ?_)
    refine ExL.free (by first | exact fr_add64 rfl rfl rfl (by omega) | exact fr_add rfl rfl rfl) rfl rfl rfl ?_
    refine ExL.pures 1 rfl ?_
    refine ExL.nil ?_
    refine Ex.region (ExL.pures 1 rfl ?_)
    refine ExL.free (by first | exact fr_add64 rfl rfl rfl (by omega) | exact fr_add rfl rfl rfl) rfl rfl rfl ?_
    refine ExL.pures 1 rfl ?_
    refine ExL.nil ?_
    refine Hand.mk (i + 1) 1 [0] ⟨agI (by omega), rfl, trivial⟩ ⟨rfl, rfl, trivial⟩ (pkR (by rw [Nat.succ_mul])) rfl (by omega) (by omega)
  · refine ExL.nil ?_
    refine Ex.cond_f rfl ?_
    refine Ex.exit ?_
    obtain rfl : i = n := (by omega)
    refine Ex.regSeq (ExL.pures 2 rfl ?_)
    refine ExL.nil ?_
    refine Ex.ret ?_
    refine MutQ.mk () rfl (.tmp rfl .nil) (rfl) 1 [0] (pkR (by rw [← hsL, over_all hml])) rfl (trivial)
end Go.Proofs.Ytepahnikcojepaa
