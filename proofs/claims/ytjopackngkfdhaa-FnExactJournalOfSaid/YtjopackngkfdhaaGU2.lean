/- What these functions of the program hand back, each proved by walking its operations. -/
import Derived.Test.YtjopackngkfdhaaProg
import Derived.Test.YtjopackngkfdhaaFw
import Derived.Test.YtjopackngkfdhaaGU
set_option linter.unusedVariables false
set_option linter.unusedSimpArgs false
set_option maxRecDepth 4000
namespace Go.Proofs.Ytjopackngkfdhaa
open Go Go.Sx Go.RowKit Go.W Go.Proofs
attribute [local irreducible] Ex ExL ExD Op1 Free RetQ MutQ Reads CellO SegO LoadsAs
theorem e_91 : Enters Try.prog 91 := Enters.of Try.func91 rfl
theorem c_markNoteS (s : List VNote) (A : Option Addr) (c : Nat) (n : Nat) (hn : n ≤ 1000000 ∧ s.length = n) (k : Int) (hk : 0 ≤ k ∧ k ≤ 1000000000) : Mut Try.prog 91 [.slice A n c, .int .i64 k] [.row (.slice A n c) 109 11 n (s.flatMap encN)] (fun base w0 F => True) (fun x : Unit => .int .i64 (k + 11 * n)) (fun x => [.row (.slice A n c) 109 11 n ((mkN n k).flatMap encN)]) (fun x => True) := by
  refine Mut.of e_91 Try.func91 rfl Try.ntmps91 rfl rfl (fun base w0 F hfr => ?_)
  obtain ⟨hn1, hsl⟩ := hn
  have hsL : (s.flatMap encN).length = n * 11 := by rw [flat_len encN_len, hsl]
  have hml : ((mkN n k).flatMap encN).length = (s.flatMap encN).length := by rw [hsL, flat_len encN_len, mkN_len]
  have hm0 : maxLen = 9223372036854775807 := rfl
  refine Ex.regSeq (ExL.pures 1 rfl ?_)
  refine ExL.nil ?_
  refine Ex.seq ?_
  refine Ex.regSeq (ExL.pures 1 rfl ?_)
  refine ExL.nil ?_
  refine Ex.block ?_
  refine Ex.loopK (X := Nat) (fun i => [(1, .int .i64 (k + 11 * i)), (5, .int .i64 i)]) (fun i => [.row (.slice A n c) 109 11 n (over ((mkN n k).flatMap encN) (s.flatMap encN) (i * 11))]) (fun i => i ≤ n) (fun i => n - i) 0 [(0, _), (4, _)] (F) 1 [0] ⟨agI (by omega), rfl, trivial⟩ ⟨rfl, rfl, trivial⟩ (pkR (by rw [Nat.zero_mul, over_zero])) rfl (Nat.zero_le _) (fun i hI => ?_)
  have hI : i ≤ n := hI
  refine Ex.seq ?_
  refine Ex.regSeq (ExL.pures 3 rfl ?_)
  refine ExL.lss rfl rfl rfl rfl rfl rfl (fun h1 => ?_) (fun h1 => ?_)
  · refine ExL.nil ?_
    refine Ex.cond_t rfl ?_
    refine Ex.skip ?_
    refine Ex.seq ?_
    refine Ex.block ?_
    have hin : i < n := (by omega)
    refine Ex.regSeq (ExL.pures 3 rfl ?_)
    refine ExL.free (fr_conv rfl rfl rfl rfl) rfl rfl rfl ?_
    refine ExL.free (fr_indexAddrR (sz := 11) 0 rfl rfl rfl rfl rfl rfl (by omega)) rfl rfl rfl ?_
    refine ExL.free (fr_fieldAddrR 0 rfl (by omega) rfl rfl rfl rfl rfl rfl) rfl rfl rfl ?_
    refine ExL.free (fr_fieldAddrR 0 rfl (by omega) rfl rfl rfl rfl rfl rfl) rfl rfl rfl ?_
    refine ExL.op rfl (op_storeRowF (i := 0) rfl rfl rfl rfl rfl rfl rfl rfl (over_roomC hml (by omega) (by simp) rfl) (List.cons_ne_nil _ _) rfl (over_cell (p := i * 11) hml (by omega) (by simp) (mkN_cell (j := 0) (by omega) (by omega))) ?_)
    refine ExL.nil ?_
    refine Ex.regSeq (ExL.pures 1 rfl ?_)
    refine ExL.free (by first | exact fr_add64 rfl rfl rfl (by omega) | exact fr_add rfl rfl rfl) rfl rfl rfl ?_
    refine ExL.pures 1 rfl ?_
    refine ExL.nil ?_
    refine Ex.regSeq (ExL.pures 3 rfl ?_)
    refine ExL.free (fr_indexAddrR (sz := 11) 0 rfl rfl rfl rfl rfl rfl (by omega)) rfl rfl rfl ?_
    refine ExL.free (fr_fieldAddrR 0 rfl (by omega) rfl rfl rfl rfl rfl rfl) rfl rfl rfl ?_
    refine ExL.free (fr_fieldAddrR 0 rfl (by omega) rfl rfl rfl rfl rfl rfl) rfl rfl rfl ?_
    refine ExL.op rfl (op_storeRowF (i := 0) rfl rfl rfl rfl rfl rfl rfl rfl (over_roomC hml (by omega) (by simp) rfl) (List.cons_ne_nil _ _) rfl (over_cell (p := i * 11 + 1) hml (by omega) (by simp) (mkN_cell (j := 1) (by omega) (by omega))) ?_)
    refine ExL.nil ?_
    refine Ex.regSeq (ExL.pures 1 rfl ?_)
    refine ExL.free (by first | exact fr_add64 rfl rfl rfl (by omega) | exact fr_add rfl rfl rfl) rfl rfl rfl ?_
    refine ExL.pures 1 rfl ?_
    refine ExL.nil ?_
    refine Ex.seq ?_
    refine Ex.regSeq (ExL.pures 1 rfl ?_)
    refine ExL.nil ?_
    refine Ex.block ?_
    refine Ex.loopK (X := Nat) (fun j => [(1, .int .i64 (k + 11 * i + 1 + 1 + j)), (6, .int .i64 j)]) (fun j => [.row (.slice A n c) 109 11 n (over ((mkN n k).flatMap encN) (s.flatMap encN) (i * 11 + 2 + j))]) (fun j => j ≤ 8) (fun j => 8 - j) 0 [(0, _), (4, _), (5, _)] (F) 1 [0] ⟨agI (by omega), rfl, trivial⟩ ⟨rfl, rfl, rfl, trivial⟩ (rfl) rfl (by omega) (fun j hI => ?_)
    have hI : j ≤ 8 := hI
    refine Ex.seq ?_
    refine Ex.regSeq (ExL.pures 1 rfl ?_)
    refine ExL.lss rfl rfl rfl rfl rfl rfl (fun h2 => ?_) (fun h2 => ?_)
    · refine ExL.nil ?_
      refine Ex.cond_t rfl ?_
      refine Ex.skip ?_
      refine Ex.seq ?_
      refine Ex.block ?_
      refine Ex.regSeq (ExL.pures 4 rfl ?_)
      refine ExL.free (fr_convW ((k + 11 * i + 1 + 1 + j) % 256) rfl rfl rfl rfl (wrap_u8_mod _)) rfl rfl rfl ?_
      refine ExL.free (fr_indexAddrR (sz := 11) 0 rfl rfl rfl rfl rfl rfl (by omega)) rfl rfl rfl ?_
      refine ExL.free (fr_fieldAddrR 0 rfl (by omega) rfl rfl rfl rfl rfl rfl) rfl rfl rfl ?_
      refine ExL.free (fr_indexAddrRo (sz' := 1) 0 rfl (by omega) rfl rfl rfl rfl rfl (by omega)) rfl rfl rfl ?_
      refine ExL.op rfl (op_storeRowF (i := 0) rfl rfl rfl rfl rfl rfl rfl rfl (over_roomC hml (by omega) (by simp) rfl) (List.cons_ne_nil _ _) rfl (over_cell (p := i * 11 + 2 + j) hml (by omega) (by simp) (mkN_dig (by omega) (by omega) rfl)) ?_)
      refine ExL.nil ?_
      refine Ex.region (ExL.pures 1 rfl ?_)
      refine ExL.free (by first | exact fr_add64 rfl rfl rfl (by omega) | exact fr_add rfl rfl rfl) rfl rfl rfl ?_
      refine ExL.pures 1 rfl ?_
      refine ExL.nil ?_
      refine Ex.region (ExL.pures 1 rfl ?_)
      refine ExL.free (by first | exact fr_add64 rfl rfl rfl (by omega) | exact fr_add rfl rfl rfl) rfl rfl rfl ?_
      refine ExL.pures 1 rfl ?_
      refine ExL.nil ?_
      refine Hand.mk (j + 1) 1 [0] ⟨agI (by omega), rfl, trivial⟩ ⟨rfl, rfl, rfl, trivial⟩ (rfl) rfl (by omega) (by omega)
    · refine ExL.nil ?_
      refine Ex.cond_f rfl ?_
      refine Ex.exit ?_
      obtain rfl : j = 8 := (by omega)
      refine Ex.regSeq (ExL.pures 3 rfl ?_)
      refine ExL.free (fr_indexAddrR (sz := 11) 0 rfl rfl rfl rfl rfl rfl (by omega)) rfl rfl rfl ?_
      refine ExL.free (fr_fieldAddrR 0 rfl (by omega) rfl rfl rfl rfl rfl rfl) rfl rfl rfl ?_
      refine ExL.op rfl (op_storeRowF (i := 0) rfl rfl rfl rfl rfl rfl rfl rfl (over_roomC hml (by omega) (by simp) rfl) (List.cons_ne_nil _ _) rfl (over_cell (p := i * 11 + 10) hml (by omega) (by simp) (mkN_cell (j := 10) (by omega) (by omega))) ?_)
      refine ExL.nil ?_
      refine Ex.region (ExL.pures 1 rfl ?_)
      refine ExL.free (by first | exact fr_add64 rfl rfl rfl (by omega) | exact fr_add rfl rfl rfl) rfl rfl rfl ?_
      refine ExL.pures 1 rfl ?_
      refine ExL.nil ?_
      refine Ex.region (ExL.pures 1 rfl ?_)
      refine ExL.free (by first | exact fr_add64 rfl rfl rfl (by omega) | exact fr_add rfl rfl rfl) rfl rfl rfl ?_
      refine ExL.pures 1 rfl ?_
      refine ExL.nil ?_
      refine Hand.mk (i + 1) 1 [0] ⟨agI (by omega), rfl, trivial⟩ ⟨rfl, rfl, trivial⟩ (pkR (by rw [show (i + 1) * 11 = i * 11 + 11 by omega])) rfl (by omega) (by omega)
  · refine ExL.nil ?_
    refine Ex.cond_f rfl ?_
    refine Ex.exit ?_
    obtain rfl : i = n := (by omega)
    refine Ex.regSeq (ExL.pures 2 rfl ?_)
    refine ExL.nil ?_
    refine Ex.ret ?_
    refine MutQ.mk () rfl (.tmp rfl .nil) (rfl) 1 [0] (pkR (by rw [← hsL, over_all hml])) rfl (trivial)
theorem e_92 : Enters Try.prog 92 := Enters.of Try.func92 rfl
theorem c_heldNoteS (A : Option Addr) (c : Nat) (n : Nat) (hn : n ≤ 1000000) (k : Int) (hk : 0 ≤ k ∧ k ≤ 1000000000) : Ret Try.prog 92 [.slice A n c, .int .i64 k] (fun w => Rd w A ((mkN n k).flatMap encN)) (fun x : Unit => .int .i64 (k + 11 * n)) (fun x => []) (fun x => True) := by
  refine Ret.of e_92 Try.func92 rfl Try.ntmps92 rfl rfl (fun w hpre => ?_)
  have hs := hpre.base
  have hml := mkN_len n k
  rw [← hml]
  have hm0 : maxLen = 9223372036854775807 := rfl
  refine Ex.regSeq (ExL.pures 1 rfl ?_)
  refine ExL.nil ?_
  refine Ex.seq ?_
  refine Ex.regSeq (ExL.pures 1 rfl ?_)
  refine ExL.nil ?_
  refine Ex.block ?_
  refine Ex.loopK (X := Nat) (fun i => [(1, .int .i64 (k + 11 * i)), (5, .int .i64 i)]) (fun i => []) (fun i => i ≤ n) (fun i => n - i) 0 [(0, _)] [] 0 [] ⟨agI (by omega), rfl, trivial⟩ ⟨rfl, trivial⟩ (rfl) rfl (Nat.zero_le _) (fun i hI => ?_)
  have hI : i ≤ n := hI
  refine Ex.seq ?_
  refine Ex.regSeq (ExL.pures 3 rfl ?_)
  refine ExL.lss rfl rfl rfl rfl rfl rfl (fun h1 => ?_) (fun h1 => ?_)
  · refine ExL.nil ?_
    refine Ex.cond_t rfl ?_
    refine Ex.skip ?_
    refine Ex.seq ?_
    refine Ex.block ?_
    have hin : i < n := (by omega)
    refine Ex.seq ?_
    refine Ex.regSeq (ExL.pures 2 rfl ?_)
    refine ExL.free (fr_indexAddrF (Reads.old hs) encN_len rfl rfl rfl rfl rfl rfl (by omega)) rfl rfl rfl ?_
    refine ExL.free (fr_fieldAddrF (i := (↑i : Int).toNat) (Reads.old hs) encN_len rfl rfl rfl (by omega) rfl rfl rfl rfl) rfl rfl rfl ?_
    refine ExL.free (fr_fieldAddrF (i := (↑i : Int).toNat) (Reads.old hs) encN_len rfl rfl rfl (by omega) rfl rfl rfl rfl) rfl rfl rfl ?_
    refine ExL.free (fr_load rfl rfl rfl rfl (by first | exact cellN (Reads.old hs) encN_len zN 0 rfl (by omega) rfl | exact cellF (Reads.old hs) encN_len zN 0 rfl (by omega) rfl)) rfl rfl rfl ?_
    refine ExL.pures 1 rfl ?_
    refine ExL.free (fr_conv rfl rfl rfl rfl) rfl rfl rfl ?_
    refine ExL.free (fr_neq_f rfl rfl rfl (by rw [mkN_at (by omega)]; exact fun h => h rfl)) rfl rfl rfl ?_
    refine ExL.nil ?_
    refine Ex.cond_f rfl ?_
    refine Ex.skip ?_
    refine Ex.regSeq (ExL.pures 1 rfl ?_)
    refine ExL.free (by first | exact fr_add64 rfl rfl rfl (by omega) | exact fr_add rfl rfl rfl) rfl rfl rfl ?_
    refine ExL.pures 1 rfl ?_
    refine ExL.nil ?_
    refine Ex.seq ?_
    refine Ex.regSeq (ExL.pures 2 rfl ?_)
    refine ExL.free (fr_indexAddrF (Reads.old hs) encN_len rfl rfl rfl rfl rfl rfl (by omega)) rfl rfl rfl ?_
    refine ExL.free (fr_fieldAddrF (i := (↑i : Int).toNat) (Reads.old hs) encN_len rfl rfl rfl (by omega) rfl rfl rfl rfl) rfl rfl rfl ?_
    refine ExL.free (fr_fieldAddrF (i := (↑i : Int).toNat) (Reads.old hs) encN_len rfl rfl rfl (by omega) rfl rfl rfl rfl) rfl rfl rfl ?_
    refine ExL.free (fr_load rfl rfl rfl rfl (by first | exact cellN (Reads.old hs) encN_len zN 1 rfl (by omega) rfl | exact cellF (Reads.old hs) encN_len zN 1 rfl (by omega) rfl)) rfl rfl rfl ?_
    refine ExL.pures 1 rfl ?_
    refine ExL.free (fr_neq_f rfl rfl rfl (by rw [mkN_at (by omega)]; exact fun h => h rfl)) rfl rfl rfl ?_
    refine ExL.nil ?_
    refine Ex.cond_f rfl ?_
    refine Ex.skip ?_
    refine Ex.regSeq (ExL.pures 1 rfl ?_)
    refine ExL.free (by first | exact fr_add64 rfl rfl rfl (by omega) | exact fr_add rfl rfl rfl) rfl rfl rfl ?_
    refine ExL.pures 1 rfl ?_
    refine ExL.nil ?_
    refine Ex.seq ?_
    refine Ex.regSeq (ExL.pures 1 rfl ?_)
    refine ExL.nil ?_
    refine Ex.block ?_
    refine Ex.loopK (X := Nat) (fun j => [(1, .int .i64 (k + 11 * i + 1 + 1 + j)), (6, .int .i64 j)]) (fun j => []) (fun j => j ≤ 8) (fun j => 8 - j) 0 [(0, _), (5, _)] [] 0 [] ⟨agI (by omega), rfl, trivial⟩ ⟨rfl, rfl, trivial⟩ (rfl) rfl (by omega) (fun j hI => ?_)
    have hI : j ≤ 8 := hI
    refine Ex.seq ?_
    refine Ex.regSeq (ExL.pures 1 rfl ?_)
    refine ExL.lss rfl rfl rfl rfl rfl rfl (fun h2 => ?_) (fun h2 => ?_)
    · refine ExL.nil ?_
      refine Ex.cond_t rfl ?_
      refine Ex.skip ?_
      refine Ex.seq ?_
      refine Ex.block ?_
      refine Ex.seq ?_
      refine Ex.regSeq (ExL.pures 3 rfl ?_)
      refine ExL.free (fr_indexAddrF (Reads.old hs) encN_len rfl rfl rfl rfl rfl rfl (by omega)) rfl rfl rfl ?_
      refine ExL.free (fr_fieldAddrF (i := (↑i : Int).toNat) (Reads.old hs) encN_len rfl rfl rfl (by omega) rfl rfl rfl rfl) rfl rfl rfl ?_
      refine ExL.free (fr_indexAddrFo (sz' := 1) (i := (↑i : Int).toNat) (Reads.old hs) encN_len rfl rfl rfl (by omega) rfl rfl rfl (by omega)) rfl rfl rfl ?_
      refine ExL.free (fr_load rfl rfl rfl rfl (CellO.of (Reads.old hs) (mkN_dig (i := i) (j := j) (by omega) (by omega) (by simp)))) rfl rfl rfl ?_
      refine ExL.pures 1 rfl ?_
      refine ExL.free (fr_convW ((k + 11 * i + 1 + 1 + j) % 256) rfl rfl rfl rfl (wrap_u8_mod _)) rfl rfl rfl ?_
      refine ExL.free (fr_neq_f rfl rfl rfl (fun h => h rfl)) rfl rfl rfl ?_
      refine ExL.nil ?_
      refine Ex.cond_f rfl ?_
      refine Ex.skip ?_
      refine Ex.region (ExL.pures 1 rfl ?_)
      refine ExL.free (by first | exact fr_add64 rfl rfl rfl (by omega) | exact fr_add rfl rfl rfl) rfl rfl rfl ?_
      refine ExL.pures 1 rfl ?_
      refine ExL.nil ?_
      refine Ex.region (ExL.pures 1 rfl ?_)
      refine ExL.free (by first | exact fr_add64 rfl rfl rfl (by omega) | exact fr_add rfl rfl rfl) rfl rfl rfl ?_
      refine ExL.pures 1 rfl ?_
      refine ExL.nil ?_
      refine Hand.mk (j + 1) 0 [] ⟨agI (by omega), rfl, trivial⟩ ⟨rfl, rfl, trivial⟩ (rfl) rfl (by omega) (by omega)
    · refine ExL.nil ?_
      refine Ex.cond_f rfl ?_
      refine Ex.exit ?_
      obtain rfl : j = 8 := (by omega)
      refine Ex.seq ?_
      refine Ex.regSeq (ExL.pures 2 rfl ?_)
      refine ExL.free (fr_indexAddrF (Reads.old hs) encN_len rfl rfl rfl rfl rfl rfl (by omega)) rfl rfl rfl ?_
      refine ExL.free (fr_fieldAddrF (i := (↑i : Int).toNat) (Reads.old hs) encN_len rfl rfl rfl (by omega) rfl rfl rfl rfl) rfl rfl rfl ?_
      refine ExL.free (fr_load rfl rfl rfl rfl (by first | exact cellN (Reads.old hs) encN_len zN 10 rfl (by omega) rfl | exact cellF (Reads.old hs) encN_len zN 10 rfl (by omega) rfl)) rfl rfl rfl ?_
      refine ExL.pures 1 rfl ?_
      refine ExL.free (fr_neq_f rfl rfl rfl (by rw [mkN_at (by omega)]; exact fun h => h rfl)) rfl rfl rfl ?_
      refine ExL.nil ?_
      refine Ex.cond_f rfl ?_
      refine Ex.skip ?_
      refine Ex.region (ExL.pures 1 rfl ?_)
      refine ExL.free (by first | exact fr_add64 rfl rfl rfl (by omega) | exact fr_add rfl rfl rfl) rfl rfl rfl ?_
      refine ExL.pures 1 rfl ?_
      refine ExL.nil ?_
      refine Ex.region (ExL.pures 1 rfl ?_)
      refine ExL.free (by first | exact fr_add64 rfl rfl rfl (by omega) | exact fr_add rfl rfl rfl) rfl rfl rfl ?_
      refine ExL.pures 1 rfl ?_
      refine ExL.nil ?_
      refine Hand.mk (i + 1) 0 [] ⟨agI (by omega), rfl, trivial⟩ ⟨rfl, trivial⟩ (rfl) rfl (by omega) (by omega)
  · refine ExL.nil ?_
    refine Ex.cond_f rfl ?_
    refine Ex.exit ?_
    refine Ex.regSeq (ExL.pures 2 rfl ?_)
    refine ExL.nil ?_
    refine Ex.ret ?_
    refine RetQ.mk () rfl (.tmp rfl .nil) (tI (by omega)) [] (rfl) rfl (trivial)
end Go.Proofs.Ytjopackngkfdhaa
