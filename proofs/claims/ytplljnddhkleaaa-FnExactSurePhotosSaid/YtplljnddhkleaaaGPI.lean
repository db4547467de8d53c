/- What these functions of the program hand back, each proved by walking its operations. -/
import Derived.Test.YtplljnddhkleaaaProg
import Derived.Test.YtplljnddhkleaaaFw
import Derived.Test.YtplljnddhkleaaaM42
import Derived.Test.YtplljnddhkleaaaGPH
set_option linter.unusedVariables false
set_option linter.unusedSimpArgs false
set_option maxRecDepth 4000
namespace Go.Proofs.Ytplljnddhkleaaa
open Go Go.Sx Go.RowKit Go.W Go.Proofs
attribute [local irreducible] Ex ExL ExD Op1 Free RetQ MutQ Reads CellO SegO LoadsAs
theorem e_80 : Enters Try.prog 80 := Enters.of Try.func80 rfl
theorem c_ahead (K : List (VX Int)) (n : Nat) (hfk : FK K n) (lo hi : Int) (hlh : 0 ≤ lo ∧ hi ≤ 1000000000000) (AK : Option Addr) (cK b : Nat) : Ret Try.prog 80 [.pointer (some ⟨b, 0, none⟩)] (fun w => Rd w (some ⟨b, 0, none⟩) [.slice AK K.length cK, .int .i64 lo, .int .i64 hi] ∧ Rd w AK (K.flatMap encX) ∧ ∀ k, k < K.length → Rd w (K.getD k zX).A ((K.getD k zX).xs.flatMap (eI .i64))) (fun x : Nat × List (VX Bool) => .slice (some ⟨x.1, 0, none⟩) K.length K.length) (fun x => [.row (.slice (some ⟨x.1, 0, none⟩) K.length K.length) 110 1 K.length (x.2.flatMap encX), .pile (x.2.map (rwX eB 4 1))]) (fun x => x.2.length = K.length ∧ ∀ i, i < x.2.length → (x.2.getD i zX).xs = reachL lo hi (fun k => (K.getD k zX).xs) i) := by
  refine Ret.of e_80 Try.func80 rfl Try.ntmps80 rfl rfl (fun w hpre => ?_)
  have hpt := hpre.1.base
  have hKr := hpre.2.1.base
  have hKi := fun k hk => (hpre.2.2 k hk).base
  obtain rfl : n = K.length := hfk.len.symm
  have hfl := hfk.vl
  have hfv := hfk.v
  have hn1 := hfk.n1
  have hm0 : maxLen = 9223372036854775807 := rfl
  refine Ex.regSeq (ExL.pures 1 rfl ?_)
  refine ExL.nil ?_
  refine Ex.regSeq (ExL.pures 3 rfl ?_)
  refine ExL.free (fr_load rfl rfl rfl rfl (CellO.at 0 (Reads.old hpt) rfl)) rfl rfl rfl ?_
  refine ExL.pures 1 rfl ?_
  refine ExL.op rfl (op_makeSlice (sz := 24) rfl rfl rfl rfl rfl rfl rfl rfl (⟨by omega, by unfold maxLen; omega⟩) rfl rfl (fun r1 => ?_))
  refine ExL.pures 1 rfl ?_
  refine ExL.nil ?_
  refine Ex.seq ?_
  refine Ex.pile0 ?_
  refine Ex.regSeq (ExL.pures 3 rfl ?_)
  refine ExL.free (fr_load rfl rfl rfl rfl (CellO.at 0 (Reads.old hpt) rfl)) rfl rfl rfl ?_
  refine ExL.pures 2 rfl ?_
  refine ExL.nil ?_
  refine Ex.block ?_
  refine Ex.loopK (X := List (VX Bool)) (fun J => [(20, .int .i64 J.length)]) (fun J => [.row (.slice (some ⟨r1, 0, none⟩) K.length K.length) 110 1 K.length ((outX J K.length).flatMap encX), .pile (J.map (rwX eB 4 1))]) (fun J => J.length ≤ K.length ∧ ∀ i, i < J.length → (J.getD i zX).xs = reachL lo hi (fun k => (K.getD k zX).xs) i) (fun J => K.length - J.length) [] [(0, _), (2, _), (3, _), (18, _), (19, _)] [] 2 [1, 0] ⟨rfl, trivial⟩ ⟨rfl, rfl, rfl, rfl, rfl, trivial⟩ (pkR (zoutX rfl)) rfl ⟨Nat.zero_le _, fun i hi => by simp at hi⟩ (fun J hI => ?_)
  have hI : J.length ≤ K.length ∧ ∀ i, i < J.length → (J.getD i zX).xs = reachL lo hi (fun k => (K.getD k zX).xs) i := hI
  obtain ⟨hJ, hR⟩ := hI
  refine Ex.regSeq (ExL.pures 0 rfl ?_)
  refine ExL.lss rfl rfl rfl rfl rfl rfl (fun h2 => ?_) (fun h2 => ?_)
  · refine ExL.nil ?_
    refine Ex.seq ?_
    refine Ex.cond_t rfl ?_
    refine Ex.skip ?_
    refine Ex.seq ?_
    refine Ex.block ?_
    have hJK : J.length < K.length := by omega
    have hvl := hfl J.length hJK
    have hvl1 := hfl (J.length - 1) (by omega)
    have hrl : 0 < J.length → (J.getD (J.length - 1) zX).xs.length = (K.getD (J.length - 1) zX).xs.length := fun h => by rw [hR _ (by omega), reach_len]
    refine Ex.regSeq (ExL.pures 1 rfl ?_)
    refine ExL.free (fr_indexAddrF (Reads.old hKr) encX_len rfl rfl rfl rfl rfl rfl (by omega)) rfl rfl rfl ?_
    refine ExL.free (fr_load rfl rfl rfl rfl (cellJ (i := ↑J.length) (J.length) (Reads.old hKr) encX_len zX 0 rfl (by omega) (by omega) rfl)) rfl rfl rfl ?_
    refine ExL.pures 2 rfl ?_
    refine ExL.nil ?_
    refine Ex.regSeq (ExL.pures 4 rfl ?_)
    refine ExL.op rfl (op_makeSlice (sz := 1) rfl rfl rfl rfl rfl rfl rfl rfl (⟨by omega, by unfold maxLen; omega⟩) rfl rfl (fun r3 => ?_))
    refine ExL.free (fr_indexAddr (sz := 1) rfl rfl rfl rfl rfl rfl (by omega)) rfl rfl rfl ?_
    refine ExL.op rfl (op_storeRowF (i := 1) rfl rfl rfl rfl rfl rfl rfl rfl (room encX_len (k := J.length) (by rw [outX_len (by omega)]; omega) (by simp) rfl) (List.cons_ne_nil _ _) rfl (outX_put (⟨(some ⟨r3, 0, none⟩), (K.getD J.length zX).xs.length, (reachL lo hi (fun k => (K.getD k zX).xs) J.length)⟩ : VX Bool) (by omega) (by simp) (by unfold encX; rw [reach_len])) ?_)
    refine ExL.nil ?_
    refine Ex.regSeq (ExL.pures 3 rfl ?_)
    refine ExL.nil ?_
    refine Ex.block ?_
    refine Ex.loopK (X := Nat) (fun i => [(33, .int .i64 i)]) (fun i => [.row (.slice (some ⟨r3, 0, none⟩) (K.getD J.length zX).xs.length (K.getD J.length zX).xs.length) 4 1 (K.getD J.length zX).xs.length ((Sx.part false (reachL lo hi (fun k => (K.getD k zX).xs) J.length) i).flatMap eB)]) (fun i => i ≤ (K.getD J.length zX).xs.length) (fun i => (K.getD J.length zX).xs.length - i) 0 [(0, _), (2, _), (3, _), (4, _), (18, _), (19, _), (20, _), (31, _), (32, _)] [_, _] 3 [0, 1, 2] ⟨rfl, trivial⟩ ⟨rfl, rfl, rfl, rfl, rfl, rfl, rfl, rfl, rfl, trivial⟩ (pkR (zrow rfl)) rfl (Nat.zero_le _) (fun i hI => ?_)
    have hI : i ≤ (K.getD J.length zX).xs.length := hI
    refine Ex.regSeq (ExL.pures 0 rfl ?_)
    refine ExL.lss rfl rfl rfl rfl rfl rfl (fun h4 => ?_) (fun h4 => ?_)
    · refine ExL.nil ?_
      refine Ex.seq ?_
      refine Ex.cond_t rfl ?_
      refine Ex.skip ?_
      refine Ex.seq ?_
      refine Ex.block ?_
      have hii : i < (K.getD J.length zX).xs.length := by omega
      have hvi := hfv J.length i hJK
      refine Ex.regSeq (ExL.pures 1 rfl ?_)
      refine ExL.free (fr_indexAddrF (Reads.old (hKi J.length (by omega))) (eI_len .i64) rfl rfl rfl rfl rfl rfl (by omega)) rfl rfl rfl ?_
      refine ExL.free (fr_load rfl rfl rfl rfl (by first | exact cellN (Reads.old (hKi J.length (by omega))) (eI_len .i64) 0 0 rfl (by omega) rfl | exact cellF (Reads.old (hKi J.length (by omega))) (eI_len .i64) 0 0 rfl (by omega) rfl)) rfl rfl rfl ?_
      refine ExL.pures 2 rfl ?_
      refine ExL.nil ?_
      refine Ex.regSeq (ExL.pures 2 rfl ?_)
      refine ExL.free (fr_indexAddr (sz := 1) rfl rfl rfl rfl rfl rfl (by omega)) rfl rfl rfl ?_
      refine ExL.free (fr_load rfl rfl rfl rfl (cellE (v := .slice (some ⟨r3, 0, none⟩) (K.getD J.length zX).xs.length (K.getD J.length zX).xs.length) (i := ↑J.length) J.length (Reads.row (i := 1) rfl) encX_len zX 0 rfl (by omega) (by rw [outX_len (by simp; omega)]; omega) outX_last (by unfold encX; rw [reach_len]; rfl))) rfl rfl rfl ?_
      refine ExL.pures 2 rfl ?_
      refine ExL.free (fr_eql rfl rfl rfl) rfl rfl rfl ?_
      refine ExL.free (fr_indexAddr (sz := 1) rfl rfl rfl rfl rfl rfl (by omega)) rfl rfl rfl ?_
      refine ExL.op rfl (op_storeRowF (i := 0) rfl rfl rfl rfl rfl rfl rfl rfl (room eB_len (k := i) (by rw [part_len _ _ _ (by rw [reach_len]; omega), reach_len]; omega) (by simp) rfl) (List.cons_ne_nil _ _) rfl (rowQ_0 (by omega) (by simp) rfl) ?_)
      refine ExL.nil ?_
      refine Ex.regSeq (ExL.pures 3 rfl ?_)
      refine ExL.free (fr_load rfl rfl rfl rfl (CellO.at 0 (Reads.old hpt) rfl)) rfl rfl rfl ?_
      refine ExL.pures 1 rfl ?_
      refine ExL.free (by first | exact fr_sub64 rfl rfl rfl (by omega) | exact fr_sub rfl rfl rfl) rfl rfl rfl ?_
      refine ExL.free (fr_maxW ((J.length - 1 : Nat) : Int) (by omega) rfl rfl rfl) rfl rfl rfl ?_
      refine ExL.free (fr_indexAddrF (Reads.old hKr) encX_len rfl rfl rfl rfl rfl rfl (by omega)) rfl rfl rfl ?_
      refine ExL.free (fr_load rfl rfl rfl rfl (cellJ (i := ↑(J.length - 1)) ((J.length - 1)) (Reads.old hKr) encX_len zX 0 rfl (by omega) (by omega) rfl)) rfl rfl rfl ?_
      refine ExL.pures 2 rfl ?_
      refine ExL.nil ?_
      refine Ex.block ?_
      refine Ex.loopK (X := Nat) (fun j => [(56, .int .i64 j)]) (fun j => [.row (.slice (some ⟨r3, 0, none⟩) (K.getD J.length zX).xs.length (K.getD J.length zX).xs.length) 4 1 (K.getD J.length zX).xs.length ((rowQ lo hi (fun k => (K.getD k zX).xs) J.length i j).flatMap eB)]) (fun j => j ≤ (K.getD (J.length - 1) zX).xs.length) (fun j => (K.getD (J.length - 1) zX).xs.length - j) 0 [(0, _), (2, _), (3, _), (4, _), (6, _), (7, _), (18, _), (19, _), (20, _), (31, _), (32, _), (33, _), (55, _)] [_, _] 3 [0, 1, 2] ⟨rfl, trivial⟩ ⟨rfl, rfl, rfl, rfl, rfl, rfl, rfl, rfl, rfl, rfl, rfl, rfl, rfl, trivial⟩ (rfl) rfl (Nat.zero_le _) (fun j hI => ?_)
      have hI : j ≤ (K.getD (J.length - 1) zX).xs.length := hI
      refine Ex.regSeq (ExL.pures 0 rfl ?_)
      refine ExL.lss rfl rfl rfl rfl rfl rfl (fun h5 => ?_) (fun h5 => ?_)
      · refine ExL.nil ?_
        refine Ex.seq ?_
        refine Ex.cond_t rfl ?_
        refine Ex.skip ?_
        refine Ex.seq ?_
        refine Ex.block ?_
        have hvj := hfv (J.length - 1) j (by omega)
        refine Ex.regSeq (ExL.pures 2 rfl ?_)
        refine ExL.nil ?_
        refine Ex.drawM rfl ?_
        refine ExD.take (i := 0) rfl (by kernel_rfl) (pureVal_ok rfl) ((List.Sublist.refl _)) rfl rfl rfl ?_
        refine ExD.take (i := 1) rfl (by kernel_rfl) (pureVal_ok rfl) ((List.Sublist.refl _)) rfl rfl rfl ?_
        refine ExD.take (i := 2) rfl (by kernel_rfl) (fr_indexAddr (sz := 1) rfl rfl rfl rfl rfl rfl (by omega)) ((List.Sublist.refl _)) rfl rfl rfl ?_
        refine ExD.take (i := 3) rfl (by kernel_rfl) (fr_load rfl rfl rfl rfl (cellE (v := .slice (some ⟨r3, 0, none⟩) (K.getD J.length zX).xs.length (K.getD J.length zX).xs.length) (i := ↑J.length) J.length (Reads.row (i := 1) rfl) encX_len zX 0 rfl (by omega) (by rw [outX_len (by simp; omega)]; omega) outX_last (by unfold encX; rw [reach_len]; rfl))) ((List.Sublist.refl _)) rfl rfl rfl ?_
        refine ExD.take (i := 4) rfl (by kernel_rfl) (pureVal_ok rfl) ((List.Sublist.refl _)) rfl rfl rfl ?_
        refine ExD.take (i := 5) rfl (by kernel_rfl) (pureVal_ok rfl) ((List.Sublist.refl _)) rfl rfl rfl ?_
        refine ExD.take (i := 6) rfl (by kernel_rfl) (pureVal_ok rfl) ((List.Sublist.refl _)) rfl rfl rfl ?_
        refine ExD.take (i := 7) rfl (by kernel_rfl) (fr_indexAddr (sz := 1) rfl rfl rfl rfl rfl rfl (by omega)) ((List.Sublist.refl _)) rfl rfl rfl ?_
        refine ExD.take (i := 8) rfl (by kernel_rfl) (fr_load rfl rfl rfl rfl (cellE (v := .slice (some ⟨r3, 0, none⟩) (K.getD J.length zX).xs.length (K.getD J.length zX).xs.length) (i := ↑J.length) J.length (Reads.row (i := 1) rfl) encX_len zX 0 rfl (by omega) (by rw [outX_len (by simp; omega)]; omega) outX_last (by unfold encX; rw [reach_len]; rfl))) ((List.Sublist.refl _)) rfl rfl rfl ?_
        refine ExD.take (i := 9) rfl (by kernel_rfl) (pureVal_ok rfl) ((List.Sublist.refl _)) rfl rfl rfl ?_
        refine ExD.take (i := 10) rfl (by kernel_rfl) (fr_indexAddr (sz := 1) rfl rfl rfl rfl rfl rfl (by omega)) ((List.Sublist.refl _)) rfl rfl rfl ?_
        refine ExD.take (i := 11) rfl (by kernel_rfl) (fr_load rfl rfl rfl rfl (cellW (v := .bool (curR lo hi (fun k => (K.getD k zX).xs) J.length i j)) (i := ↑i) i (Reads.row (i := 0) rfl) eB_len false 0 rfl (by omega) (by rw [rowQ_len (by omega)]; omega) (rowQ_at (by omega)) rfl)) ((List.Sublist.refl _)) rfl rfl rfl ?_
        refine ExD.take (i := 12) rfl (by kernel_rfl) (pureVal_ok rfl) ((List.Sublist.refl _)) rfl rfl rfl ?_
        refine ExD.bool (d := 71) rfl (fun hb6 => ?_) (fun hb6 => ?_)
        · refine ExD.pass (i := 13) rfl (by kernel_rfl) ((List.Sublist.refl _)) rfl rfl rfl ?_
          refine ExD.pass (i := 14) rfl (by kernel_rfl) ((List.Sublist.refl _)) rfl rfl rfl ?_
          refine ExD.pass (i := 15) rfl (by kernel_rfl) ((List.Sublist.refl _)) rfl rfl rfl ?_
          refine ExD.pass (i := 16) rfl (by kernel_rfl) ((List.Sublist.refl _)) rfl rfl rfl ?_
          refine ExD.pass (i := 17) rfl (by kernel_rfl) ((List.Sublist.refl _)) rfl rfl rfl ?_
          refine ExD.pass (i := 18) rfl (by kernel_rfl) ((List.Sublist.refl _)) rfl rfl rfl ?_
          refine ExD.pass (i := 19) rfl (by kernel_rfl) ((List.Sublist.refl _)) rfl rfl rfl ?_
          refine ExD.pass (i := 20) rfl (by kernel_rfl) ((List.Sublist.refl _)) rfl rfl rfl ?_
          refine ExD.pass (i := 21) rfl (by kernel_rfl) ((List.Sublist.refl _)) rfl rfl rfl ?_
          refine ExD.pass (i := 22) rfl (by kernel_rfl) ((List.Sublist.refl _)) rfl rfl rfl ?_
          refine ExD.pass (i := 23) rfl (by kernel_rfl) ((List.Sublist.refl _)) rfl rfl rfl ?_
          refine ExD.pass (i := 24) rfl (by kernel_rfl) ((List.Sublist.refl _)) rfl rfl rfl ?_
          refine ExD.pass (i := 25) rfl (by kernel_rfl) ((List.Sublist.refl _)) rfl rfl rfl ?_
          refine ExD.pass (i := 26) rfl (by kernel_rfl) ((List.Sublist.refl _)) rfl rfl rfl ?_
          refine ExD.pass (i := 27) rfl (by kernel_rfl) ((List.Sublist.refl _)) rfl rfl rfl ?_
          refine ExD.pass (i := 28) rfl (by kernel_rfl) ((List.Sublist.refl _)) rfl rfl rfl ?_
          refine ExD.pass (i := 29) rfl (by kernel_rfl) ((List.Sublist.refl _)) rfl rfl rfl ?_
          refine ExD.pass (i := 30) rfl (by kernel_rfl) ((List.Sublist.refl _)) rfl rfl rfl ?_
          refine ExD.pass (i := 31) rfl (by kernel_rfl) ((List.Sublist.refl _)) rfl rfl rfl ?_
          refine ExD.pass (i := 32) rfl (by kernel_rfl) ((List.Sublist.refl _)) rfl rfl rfl ?_
          refine ExD.pass (i := 33) rfl (by kernel_rfl) ((List.Sublist.refl _)) rfl rfl rfl ?_
          refine ExD.pass (i := 34) rfl (by kernel_rfl) ((List.Sublist.refl _)) rfl rfl rfl ?_
          refine ExD.pass (i := 35) rfl (by kernel_rfl) ((List.Sublist.refl _)) rfl rfl rfl ?_
          refine ExD.pass (i := 36) rfl (by kernel_rfl) ((List.Sublist.refl _)) rfl rfl rfl ?_
          refine ExD.pass (i := 37) rfl (by kernel_rfl) ((List.Sublist.refl _)) rfl rfl rfl ?_
          refine ExD.pass (i := 38) rfl (by kernel_rfl) ((List.Sublist.refl _)) rfl rfl rfl ?_
          refine ExD.pass (i := 39) rfl (by kernel_rfl) ((List.Sublist.refl _)) rfl rfl rfl ?_
          refine ExD.pass (i := 40) rfl (by kernel_rfl) ((List.Sublist.refl _)) rfl rfl rfl ?_
          refine ExD.take (i := 41) rfl (by kernel_rfl) (pureVal_ok rfl) ((List.Sublist.refl _)) rfl rfl rfl ?_
          refine ExD.take (i := 42) rfl (by kernel_rfl) (fr_indexAddr (sz := 1) rfl rfl rfl rfl rfl rfl (by omega)) ((List.Sublist.refl _)) rfl rfl rfl ?_
          refine ExD.last (i := 43) rfl (by kernel_rfl) (by kernel_rfl) rfl (op_storeRowF (i := 0) rfl rfl rfl rfl rfl rfl rfl rfl (room eB_len (k := i) (by rw [rowQ_len (by omega)]; omega) (by simp) rfl) (List.cons_ne_nil _ _) rfl (rowQ_s (by omega) (by simp) (by first | exact congrArg eB (cr_st (by assumption)) | exact congrArg eB (cr_sf hR (by omega) (by omega) (by assumption) (by assumption)) | exact congrArg eB (cr_sg hR (by omega) (by omega) (by assumption) (by assumption)) | (exfalso; exact cr_z (by assumption) (by omega)))) ?_)
          refine ExD.done (by kernel_rfl) ?_
          refine Ex.region (ExL.pures 0 rfl ?_)
          refine ExL.free (by first | exact fr_add64 rfl rfl rfl (by omega) | exact fr_add rfl rfl rfl) rfl rfl rfl ?_
          refine ExL.pures 1 rfl ?_
          refine ExL.nil ?_
          refine Hand.mk (j + 1) 3 [0, 1, 2] ⟨rfl, trivial⟩ ⟨rfl, rfl, rfl, rfl, rfl, rfl, rfl, rfl, rfl, rfl, rfl, rfl, rfl, trivial⟩ (rfl) rfl (by omega) (by omega)
        · refine ExD.take (i := 13) rfl (by kernel_rfl) (pureVal_ok rfl) ((List.Sublist.refl _)) rfl rfl rfl ?_
          refine ExD.cmp_gtr (i := 14) rfl (by kernel_rfl) rfl rfl rfl ((List.Sublist.refl _)) rfl rfl rfl (fun h7 => ?_) (fun h7 => ?_)
          · refine ExD.take (i := 15) rfl (by kernel_rfl) (pureVal_ok rfl) ((List.Sublist.refl _)) rfl rfl rfl ?_
            refine ExD.take (i := 16) rfl (by kernel_rfl) (pureVal_ok rfl) ((List.Sublist.refl _)) rfl rfl rfl ?_
            refine ExD.take (i := 17) rfl (by kernel_rfl) (pureVal_ok rfl) ((List.Sublist.refl _)) rfl rfl rfl ?_
            refine ExD.take (i := 18) rfl (by kernel_rfl) (by first | exact fr_sub64 rfl rfl rfl (by omega) | exact fr_sub rfl rfl rfl) ((List.Sublist.refl _)) rfl rfl rfl ?_
            refine ExD.take (i := 19) rfl (by kernel_rfl) (fr_indexAddr (sz := 1) rfl rfl rfl rfl rfl rfl (by omega)) ((List.Sublist.refl _)) rfl rfl rfl ?_
            refine ExD.take (i := 20) rfl (by kernel_rfl) (fr_load rfl rfl rfl rfl (cellE (r := J.getD (J.length - 1) zX) (i := (↑J.length - 1)) (J.length - 1) (Reads.row (i := 1) rfl) encX_len zX 0 rfl (by omega) (by rw [outX_len (by simp; omega)]; omega) (outX_old (by omega)) rfl)) ((List.Sublist.refl _)) rfl rfl rfl ?_
            refine ExD.take (i := 21) rfl (by kernel_rfl) (pureVal_ok rfl) ((List.Sublist.refl _)) rfl rfl rfl ?_
            refine ExD.take (i := 22) rfl (by kernel_rfl) (fr_indexAddrF (readsX (i := 2) rfl (k := (J.length - 1)) (by omega)) eB_len rfl rfl rfl rfl rfl rfl (by omega)) ((List.Sublist.refl _)) rfl rfl rfl ?_
            refine ExD.take (i := 23) rfl (by kernel_rfl) (fr_load rfl rfl rfl rfl (by first | exact cellN (readsX (i := 2) rfl (k := (J.length - 1)) (by omega)) eB_len false 0 rfl (by omega) rfl | exact cellF (readsX (i := 2) rfl (k := (J.length - 1)) (by omega)) eB_len false 0 rfl (by omega) rfl)) ((List.Sublist.refl _)) rfl rfl rfl ?_
            refine ExD.take (i := 24) rfl (by kernel_rfl) (pureVal_ok rfl) ((List.Sublist.refl _)) rfl rfl rfl ?_
            refine ExD.take (i := 25) rfl (by kernel_rfl) (pureVal_ok rfl) ((List.Sublist.refl _)) rfl rfl rfl ?_
            refine ExD.bool (d := 84) rfl (fun hb8 => ?_) (fun hb8 => ?_)
            · refine ExD.take (i := 26) rfl (by kernel_rfl) (pureVal_ok rfl) ((List.Sublist.refl _)) rfl rfl rfl ?_
              refine ExD.take (i := 27) rfl (by kernel_rfl) (pureVal_ok rfl) ((List.Sublist.refl _)) rfl rfl rfl ?_
              refine ExD.take (i := 28) rfl (by kernel_rfl) (pureVal_ok rfl) ((List.Sublist.refl _)) rfl rfl rfl ?_
              refine ExD.take (i := 29) rfl (by kernel_rfl) (pureVal_ok rfl) ((List.Sublist.refl _)) rfl rfl rfl ?_
              refine ExD.take (i := 30) rfl (by kernel_rfl) (fr_load rfl rfl rfl rfl (CellO.at 0 (Reads.old hpt) rfl)) ((List.Sublist.refl _)) rfl rfl rfl ?_
              refine ExD.take (i := 31) rfl (by kernel_rfl) (pureVal_ok rfl) ((List.Sublist.refl _)) rfl rfl rfl ?_
              refine ExD.take (i := 32) rfl (by kernel_rfl) (by first | exact fr_sub64 rfl rfl rfl (by omega) | exact fr_sub rfl rfl rfl) ((List.Sublist.refl _)) rfl rfl rfl ?_
              refine ExD.take (i := 33) rfl (by kernel_rfl) (fr_indexAddrF (Reads.old hKr) encX_len rfl rfl rfl rfl rfl rfl (by omega)) ((List.Sublist.refl _)) rfl rfl rfl ?_
              refine ExD.take (i := 34) rfl (by kernel_rfl) (fr_load rfl rfl rfl rfl (cellJ (i := (↑J.length - 1)) ((J.length - 1)) (Reads.old hKr) encX_len zX 0 rfl (by omega) (by omega) rfl)) ((List.Sublist.refl _)) rfl rfl rfl ?_
              refine ExD.take (i := 35) rfl (by kernel_rfl) (pureVal_ok rfl) ((List.Sublist.refl _)) rfl rfl rfl ?_
              refine ExD.take (i := 36) rfl (by kernel_rfl) (fr_indexAddrF (Reads.old (hKi (J.length - 1) (by omega))) (eI_len .i64) rfl rfl rfl rfl rfl rfl (by omega)) ((List.Sublist.refl _)) rfl rfl rfl ?_
              refine ExD.take (i := 37) rfl (by kernel_rfl) (fr_load rfl rfl rfl rfl (by first | exact cellN (Reads.old (hKi (J.length - 1) (by omega))) (eI_len .i64) 0 0 rfl (by omega) rfl | exact cellF (Reads.old (hKi (J.length - 1) (by omega))) (eI_len .i64) 0 0 rfl (by omega) rfl)) ((List.Sublist.refl _)) rfl rfl rfl ?_
              refine ExD.take (i := 38) rfl (by kernel_rfl) (pureVal_ok rfl) ((List.Sublist.refl _)) rfl rfl rfl ?_
              refine ExD.op (i := 39) rfl (by kernel_rfl) rfl (op_ret rfl rfl rfl (c_goes _ lo hi (by omega) _ ((K.getD (J.length - 1) zX).xs.getD j 0) ((K.getD J.length zX).xs.getD i 0) (by omega) (by omega)) (Reads.get (Reads.old hpt)) rfl rfl (fun x9 hx9 => ⟨(List.Sublist.refl _), ?_⟩))
              refine ExD.take (i := 40) rfl (by kernel_rfl) (pureVal_ok rfl) ((List.Sublist.refl _)) rfl rfl rfl ?_
              refine ExD.take (i := 41) rfl (by kernel_rfl) (pureVal_ok rfl) ((List.Sublist.refl _)) rfl rfl rfl ?_
              refine ExD.take (i := 42) rfl (by kernel_rfl) (fr_indexAddr (sz := 1) rfl rfl rfl rfl rfl rfl (by omega)) ((List.Sublist.refl _)) rfl rfl rfl ?_
              refine ExD.last (i := 43) rfl (by kernel_rfl) (by kernel_rfl) rfl (op_storeRowF (i := 0) rfl rfl rfl rfl rfl rfl rfl rfl (room eB_len (k := i) (by rw [rowQ_len (by omega)]; omega) (by simp) rfl) (List.cons_ne_nil _ _) rfl (rowQ_s (by omega) (by simp) (by first | exact congrArg eB (cr_st (by assumption)) | exact congrArg eB (cr_sf hR (by omega) (by omega) (by assumption) (by assumption)) | exact congrArg eB (cr_sg hR (by omega) (by omega) (by assumption) (by assumption)) | (exfalso; exact cr_z (by assumption) (by omega)))) ?_)
              refine ExD.done (by kernel_rfl) ?_
              refine Ex.region (ExL.pures 0 rfl ?_)
              refine ExL.free (by first | exact fr_add64 rfl rfl rfl (by omega) | exact fr_add rfl rfl rfl) rfl rfl rfl ?_
              refine ExL.pures 1 rfl ?_
              refine ExL.nil ?_
              refine Hand.mk (j + 1) 3 [0, 1, 2] ⟨rfl, trivial⟩ ⟨rfl, rfl, rfl, rfl, rfl, rfl, rfl, rfl, rfl, rfl, rfl, rfl, rfl, trivial⟩ (rfl) rfl (by omega) (by omega)
            · refine ExD.pass (i := 26) rfl (by kernel_rfl) ((List.Sublist.refl _)) rfl rfl rfl ?_
              refine ExD.pass (i := 27) rfl (by kernel_rfl) ((List.Sublist.refl _)) rfl rfl rfl ?_
              refine ExD.pass (i := 28) rfl (by kernel_rfl) ((List.Sublist.refl _)) rfl rfl rfl ?_
              refine ExD.pass (i := 29) rfl (by kernel_rfl) ((List.Sublist.refl _)) rfl rfl rfl ?_
              refine ExD.pass (i := 30) rfl (by kernel_rfl) ((List.Sublist.refl _)) rfl rfl rfl ?_
              refine ExD.pass (i := 31) rfl (by kernel_rfl) ((List.Sublist.refl _)) rfl rfl rfl ?_
              refine ExD.pass (i := 32) rfl (by kernel_rfl) ((List.Sublist.refl _)) rfl rfl rfl ?_
              refine ExD.pass (i := 33) rfl (by kernel_rfl) ((List.Sublist.refl _)) rfl rfl rfl ?_
              refine ExD.pass (i := 34) rfl (by kernel_rfl) ((List.Sublist.refl _)) rfl rfl rfl ?_
              refine ExD.pass (i := 35) rfl (by kernel_rfl) ((List.Sublist.refl _)) rfl rfl rfl ?_
              refine ExD.pass (i := 36) rfl (by kernel_rfl) ((List.Sublist.refl _)) rfl rfl rfl ?_
              refine ExD.pass (i := 37) rfl (by kernel_rfl) ((List.Sublist.refl _)) rfl rfl rfl ?_
              refine ExD.pass (i := 38) rfl (by kernel_rfl) ((List.Sublist.refl _)) rfl rfl rfl ?_
              refine ExD.pass (i := 39) rfl (by kernel_rfl) ((List.Sublist.refl _)) rfl rfl rfl ?_
              refine ExD.take (i := 40) rfl (by kernel_rfl) (pureVal_ok rfl) ((List.Sublist.refl _)) rfl rfl rfl ?_
              refine ExD.take (i := 41) rfl (by kernel_rfl) (pureVal_ok rfl) ((List.Sublist.refl _)) rfl rfl rfl ?_
              refine ExD.take (i := 42) rfl (by kernel_rfl) (fr_indexAddr (sz := 1) rfl rfl rfl rfl rfl rfl (by omega)) ((List.Sublist.refl _)) rfl rfl rfl ?_
              refine ExD.last (i := 43) rfl (by kernel_rfl) (by kernel_rfl) rfl (op_storeRowF (i := 0) rfl rfl rfl rfl rfl rfl rfl rfl (room eB_len (k := i) (by rw [rowQ_len (by omega)]; omega) (by simp) rfl) (List.cons_ne_nil _ _) rfl (rowQ_s (by omega) (by simp) (by first | exact congrArg eB (cr_st (by assumption)) | exact congrArg eB (cr_sf hR (by omega) (by omega) (by assumption) (by assumption)) | exact congrArg eB (cr_sg hR (by omega) (by omega) (by assumption) (by assumption)) | (exfalso; exact cr_z (by assumption) (by omega)))) ?_)
              refine ExD.done (by kernel_rfl) ?_
              refine Ex.region (ExL.pures 0 rfl ?_)
              refine ExL.free (by first | exact fr_add64 rfl rfl rfl (by omega) | exact fr_add rfl rfl rfl) rfl rfl rfl ?_
              refine ExL.pures 1 rfl ?_
              refine ExL.nil ?_
              refine Hand.mk (j + 1) 3 [0, 1, 2] ⟨rfl, trivial⟩ ⟨rfl, rfl, rfl, rfl, rfl, rfl, rfl, rfl, rfl, rfl, rfl, rfl, rfl, trivial⟩ (rfl) rfl (by omega) (by omega)
          · refine ExD.take (i := 15) rfl (by kernel_rfl) (pureVal_ok rfl) ((List.Sublist.refl _)) rfl rfl rfl ?_
            refine ExD.pass (i := 16) rfl (by kernel_rfl) ((List.Sublist.refl _)) rfl rfl rfl ?_
            refine ExD.pass (i := 17) rfl (by kernel_rfl) ((List.Sublist.refl _)) rfl rfl rfl ?_
            refine ExD.pass (i := 18) rfl (by kernel_rfl) ((List.Sublist.refl _)) rfl rfl rfl ?_
            refine ExD.pass (i := 19) rfl (by kernel_rfl) ((List.Sublist.refl _)) rfl rfl rfl ?_
            refine ExD.pass (i := 20) rfl (by kernel_rfl) ((List.Sublist.refl _)) rfl rfl rfl ?_
            refine ExD.pass (i := 21) rfl (by kernel_rfl) ((List.Sublist.refl _)) rfl rfl rfl ?_
            refine ExD.pass (i := 22) rfl (by kernel_rfl) ((List.Sublist.refl _)) rfl rfl rfl ?_
            refine ExD.pass (i := 23) rfl (by kernel_rfl) ((List.Sublist.refl _)) rfl rfl rfl ?_
            refine ExD.take (i := 24) rfl (by kernel_rfl) (pureVal_ok rfl) ((List.Sublist.refl _)) rfl rfl rfl ?_
            refine ExD.take (i := 25) rfl (by kernel_rfl) (pureVal_ok rfl) ((List.Sublist.refl _)) rfl rfl rfl ?_
            refine ExD.pass (i := 26) rfl (by kernel_rfl) ((List.Sublist.refl _)) rfl rfl rfl ?_
            refine ExD.pass (i := 27) rfl (by kernel_rfl) ((List.Sublist.refl _)) rfl rfl rfl ?_
            refine ExD.pass (i := 28) rfl (by kernel_rfl) ((List.Sublist.refl _)) rfl rfl rfl ?_
            refine ExD.pass (i := 29) rfl (by kernel_rfl) ((List.Sublist.refl _)) rfl rfl rfl ?_
            refine ExD.pass (i := 30) rfl (by kernel_rfl) ((List.Sublist.refl _)) rfl rfl rfl ?_
            refine ExD.pass (i := 31) rfl (by kernel_rfl) ((List.Sublist.refl _)) rfl rfl rfl ?_
            refine ExD.pass (i := 32) rfl (by kernel_rfl) ((List.Sublist.refl _)) rfl rfl rfl ?_
            refine ExD.pass (i := 33) rfl (by kernel_rfl) ((List.Sublist.refl _)) rfl rfl rfl ?_
            refine ExD.pass (i := 34) rfl (by kernel_rfl) ((List.Sublist.refl _)) rfl rfl rfl ?_
            refine ExD.pass (i := 35) rfl (by kernel_rfl) ((List.Sublist.refl _)) rfl rfl rfl ?_
            refine ExD.pass (i := 36) rfl (by kernel_rfl) ((List.Sublist.refl _)) rfl rfl rfl ?_
            refine ExD.pass (i := 37) rfl (by kernel_rfl) ((List.Sublist.refl _)) rfl rfl rfl ?_
            refine ExD.pass (i := 38) rfl (by kernel_rfl) ((List.Sublist.refl _)) rfl rfl rfl ?_
            refine ExD.pass (i := 39) rfl (by kernel_rfl) ((List.Sublist.refl _)) rfl rfl rfl ?_
            refine ExD.take (i := 40) rfl (by kernel_rfl) (pureVal_ok rfl) ((List.Sublist.refl _)) rfl rfl rfl ?_
            refine ExD.take (i := 41) rfl (by kernel_rfl) (pureVal_ok rfl) ((List.Sublist.refl _)) rfl rfl rfl ?_
            refine ExD.take (i := 42) rfl (by kernel_rfl) (fr_indexAddr (sz := 1) rfl rfl rfl rfl rfl rfl (by omega)) ((List.Sublist.refl _)) rfl rfl rfl ?_
            refine ExD.last (i := 43) rfl (by kernel_rfl) (by kernel_rfl) rfl (op_storeRowF (i := 0) rfl rfl rfl rfl rfl rfl rfl rfl (room eB_len (k := i) (by rw [rowQ_len (by omega)]; omega) (by simp) rfl) (List.cons_ne_nil _ _) rfl (rowQ_s (by omega) (by simp) (by first | exact congrArg eB (cr_st (by assumption)) | exact congrArg eB (cr_sf hR (by omega) (by omega) (by assumption) (by assumption)) | exact congrArg eB (cr_sg hR (by omega) (by omega) (by assumption) (by assumption)) | (exfalso; exact cr_z (by assumption) (by omega)))) ?_)
            refine ExD.done (by kernel_rfl) ?_
            refine Ex.region (ExL.pures 0 rfl ?_)
            refine ExL.free (by first | exact fr_add64 rfl rfl rfl (by omega) | exact fr_add rfl rfl rfl) rfl rfl rfl ?_
            refine ExL.pures 1 rfl ?_
            refine ExL.nil ?_
            refine Hand.mk (j + 1) 3 [0, 1, 2] ⟨rfl, trivial⟩ ⟨rfl, rfl, rfl, rfl, rfl, rfl, rfl, rfl, rfl, rfl, rfl, rfl, rfl, trivial⟩ (rfl) rfl (by omega) (by omega)
      · refine ExL.nil ?_
        refine Ex.seq ?_
        refine Ex.cond_f rfl ?_
        refine Ex.exit ?_
        obtain rfl : j = (K.getD (J.length - 1) zX).xs.length := (by omega)
        rw [rowQ_fin hii (cr_len hii rfl)]
        refine Ex.region (ExL.pures 0 rfl ?_)
        refine ExL.free (by first | exact fr_add64 rfl rfl rfl (by omega) | exact fr_add rfl rfl rfl) rfl rfl rfl ?_
        refine ExL.pures 1 rfl ?_
        refine ExL.nil ?_
        refine Hand.mk (i + 1) 3 [0, 1, 2] ⟨rfl, trivial⟩ ⟨rfl, rfl, rfl, rfl, rfl, rfl, rfl, rfl, rfl, trivial⟩ (rfl) rfl (by omega) (by omega)
    · refine ExL.nil ?_
      refine Ex.seq ?_
      refine Ex.cond_f rfl ?_
      refine Ex.exit ?_
      obtain rfl : i = (K.getD J.length zX).xs.length := (by omega)
      rw [part_full rfl]
      refine Ex.conv (layX (reach_len lo hi (fun k => (K.getD k zX).xs) J.length) (perm_lt (i := 0) (j := 2) rfl rfl rfl)) ?_
      refine Ex.region (ExL.pures 0 rfl ?_)
      refine ExL.free (by first | exact fr_add64 rfl rfl rfl (by omega) | exact fr_add rfl rfl rfl) rfl rfl rfl ?_
      refine ExL.pures 1 rfl ?_
      refine ExL.nil ?_
      have hJn : (J ++ [(⟨(some ⟨r3, 0, none⟩), (K.getD J.length zX).xs.length, (reachL lo hi (fun k => (K.getD k zX).xs) J.length)⟩ : VX Bool)]).length = J.length + 1 := by simp
      refine Hand.mk (J ++ [(⟨(some ⟨r3, 0, none⟩), (K.getD J.length zX).xs.length, (reachL lo hi (fun k => (K.getD k zX).xs) J.length)⟩ : VX Bool)]) 2 [1, 0] ⟨agI (by rw [hJn]; rfl), trivial⟩ ⟨rfl, rfl, rfl, rfl, rfl, trivial⟩ (rfl) rfl (⟨by rw [hJn]; omega, rk_snoc hR⟩) (by rw [hJn]; omega)
  · refine ExL.nil ?_
    refine Ex.seq ?_
    refine Ex.cond_f rfl ?_
    refine Ex.exit ?_
    have hJn : J.length = K.length := by omega
    refine Ex.regSeq (ExL.pures 2 rfl ?_)
    refine ExL.nil ?_
    refine Ex.ret ?_
    refine RetQ.mk (r1, J) rfl (.tmp rfl .nil) (rfl) [0, 1] (by rw [outX_all hJn]; rfl) rfl (⟨hJn, hR⟩)
theorem e_116 : Enters Try.prog 116 := Enters.of Try.func116 rfl
theorem c_blIndex (s : List Bool) (As : Option Addr) (cs : Nat) (hls : s.length ≤ maxLen) : Ret Try.prog 116 [.slice As s.length cs, .bool true] (fun w => Rd w As (s.flatMap eB)) (fun x : Unit => .int .i64 (idxF id s)) (fun x => []) (fun x => True) := by
  refine Ret.of e_116 Try.func116 rfl Try.ntmps116 rfl rfl (fun w hpre => ?_)
  have hs := hpre.base
  have hm0 : maxLen = 9223372036854775807 := rfl
  refine Ex.regSeq (ExL.pures 1 rfl ?_)
  refine ExL.nil ?_
  refine Ex.seq ?_
  refine Ex.regSeq (ExL.pures 3 rfl ?_)
  refine ExL.nil ?_
  refine Ex.block ?_
  refine Ex.loopK (X := Nat) (fun k => [(8, .int .i64 k)]) (fun k => []) (fun k => k ≤ s.length ∧ ∀ i, i < k → id (s.getD i false) = false) (fun k => s.length - k) 0 [(0, _), (1, _), (7, _)] [] 0 [] ⟨rfl, trivial⟩ ⟨rfl, rfl, rfl, trivial⟩ (rfl) rfl ⟨Nat.zero_le _, fun i hi => by omega⟩ (fun k hI => ?_)
  have hI : k ≤ s.length ∧ ∀ i, i < k → id (s.getD i false) = false := hI
  obtain ⟨hk, hall⟩ := hI
  refine Ex.regSeq (ExL.pures 0 rfl ?_)
  refine ExL.lss rfl rfl rfl rfl rfl rfl (fun h1 => ?_) (fun h1 => ?_)
  · refine ExL.nil ?_
    refine Ex.seq ?_
    refine Ex.cond_t rfl ?_
    refine Ex.skip ?_
    refine Ex.seq ?_
    refine Ex.block ?_
    refine Ex.regSeq (ExL.pures 2 rfl ?_)
    refine ExL.nil ?_
    refine Ex.regSeq (ExL.pures 3 rfl ?_)
    refine ExL.free (fr_indexAddrF (Reads.old hs) eB_len rfl rfl rfl rfl rfl rfl (by omega)) rfl rfl rfl ?_
    refine ExL.free (fr_load rfl rfl rfl rfl (by first | exact cellN (Reads.old hs) eB_len false 0 rfl (by omega) rfl | exact cellF (Reads.old hs) eB_len false 0 rfl (by omega) rfl)) rfl rfl rfl ?_
    refine ExL.free (fr_eql_bool rfl rfl rfl rfl) rfl rfl rfl ?_
    refine ExL.nil ?_
    refine Ex.cond rfl (fun hb2 => ?_) (fun hb2 => ?_)
    · refine Ex.regSeq (ExL.pures 2 rfl ?_)
      refine ExL.nil ?_
      refine Ex.ret ?_
      refine RetQ.mk () rfl (.tmp rfl .nil) (tI (by first | exact (idx_hit (p := id) (d := false) (by omega) hall (by simp_all; done)).symm | exact (idx_none (p := id) (d := false) (by omega) hall).symm)) [] (rfl) rfl (trivial)
    · refine Ex.skip ?_
      refine Ex.region (ExL.pures 0 rfl ?_)
      refine ExL.free (by first | exact fr_add64 rfl rfl rfl (by omega) | exact fr_add rfl rfl rfl) rfl rfl rfl ?_
      refine ExL.pures 1 rfl ?_
      refine ExL.nil ?_
      refine Hand.mk (k + 1) 0 [] ⟨rfl, trivial⟩ ⟨rfl, rfl, rfl, trivial⟩ (rfl) rfl (⟨by omega, all_snoc hall (by first | assumption | (simp_all; done))⟩) (by omega)
  · refine ExL.nil ?_
    refine Ex.seq ?_
    refine Ex.cond_f rfl ?_
    refine Ex.exit ?_
    refine Ex.regSeq (ExL.pures 1 rfl ?_)
    refine ExL.nil ?_
    refine Ex.ret ?_
    refine RetQ.mk () rfl (.tmp rfl .nil) (tI (by first | exact (idx_hit (p := id) (d := false) (by omega) hall (by simp_all; done)).symm | exact (idx_none (p := id) (d := false) (by omega) hall).symm)) [] (rfl) rfl (trivial)
theorem e_81 : Enters Try.prog 81 := Enters.of Try.func81 rfl
theorem c_blContains (s : List Bool) (As : Option Addr) (cs : Nat) (hls : s.length ≤ maxLen) : Ret Try.prog 81 [.slice As s.length cs, .bool true] (fun w => Rd w As (s.flatMap eB)) (fun x : Unit => .bool (s.any id)) (fun x => []) (fun x => True) := by
  refine Ret.of e_81 Try.func81 rfl Try.ntmps81 rfl rfl (fun w hpre => ?_)
  have hs := hpre.base
  have hm0 : maxLen = 9223372036854775807 := rfl
  refine Ex.regSeq (ExL.pures 1 rfl ?_)
  refine ExL.nil ?_
  refine Ex.regSeq (ExL.pures 2 rfl ?_)
  refine ExL.op rfl (op_ret rfl rfl rfl (c_blIndex s _ _ (by omega)) (Reads.get (Reads.old hs)) rfl rfl (fun x1 hx1 => ?_))
  refine ExL.geq rfl rfl rfl rfl rfl rfl (fun h2 => ?_) (fun h2 => ?_)
  · refine ExL.pures 1 rfl ?_
    refine ExL.nil ?_
    refine Ex.ret ?_
    refine RetQ.mk () rfl (.tmp rfl .nil) (tB (by rw [any_idx]; first | exact dec_t (by omega) | exact dec_f (by omega) | rfl)) [] (rfl) rfl (trivial)
  · refine ExL.pures 1 rfl ?_
    refine ExL.nil ?_
    refine Ex.ret ?_
    refine RetQ.mk () rfl (.tmp rfl .nil) (tB (by rw [any_idx]; first | exact dec_t (by omega) | exact dec_f (by omega) | rfl)) [] (rfl) rfl (trivial)
theorem e_79 : Enters Try.prog 79 := Enters.of Try.func79 rfl
theorem c_l05Any (s : List Bool) (As : Option Addr) (cs : Nat) (hls : s.length ≤ maxLen) : Ret Try.prog 79 [.slice As s.length cs] (fun w => Rd w As (s.flatMap eB)) (fun x : Unit => .bool (s.any id)) (fun x => []) (fun x => True) := by
  refine Ret.of e_79 Try.func79 rfl Try.ntmps79 rfl rfl (fun w hpre => ?_)
  have hs := hpre.base
  have hm0 : maxLen = 9223372036854775807 := rfl
  refine Ex.regSeq (ExL.pures 1 rfl ?_)
  refine ExL.nil ?_
  refine Ex.seq ?_
  refine Ex.regSeq (ExL.pures 1 rfl ?_)
  refine ExL.nil ?_
  refine Ex.block ?_
  refine Ex.loopK (X := Nat) (fun k => [(3, .int .i64 k)]) (fun k => []) (fun k => k ≤ s.length ∧ ∀ i, i < k → s.getD i false = false) (fun k => s.length - k) 0 [(0, _)] [] 0 [] ⟨rfl, trivial⟩ ⟨rfl, trivial⟩ (rfl) rfl ⟨Nat.zero_le _, fun i hi => by omega⟩ (fun k hI => ?_)
  have hI : k ≤ s.length ∧ ∀ i, i < k → s.getD i false = false := hI
  obtain ⟨hk, hall⟩ := hI
  refine Ex.seq ?_
  refine Ex.regSeq (ExL.pures 3 rfl ?_)
  refine ExL.lss rfl rfl rfl rfl rfl rfl (fun h1 => ?_) (fun h1 => ?_)
  · refine ExL.nil ?_
    refine Ex.cond_t rfl ?_
    refine Ex.skip ?_
    refine Ex.seq ?_
    refine Ex.block ?_
    refine Ex.regSeq (ExL.pures 2 rfl ?_)
    refine ExL.free (fr_indexAddrF (Reads.old hs) eB_len rfl rfl rfl rfl rfl rfl (by omega)) rfl rfl rfl ?_
    refine ExL.free (fr_load rfl rfl rfl rfl (by first | exact cellN (Reads.old hs) eB_len false 0 rfl (by omega) rfl | exact cellF (Reads.old hs) eB_len false 0 rfl (by omega) rfl)) rfl rfl rfl ?_
    refine ExL.nil ?_
    refine Ex.cond rfl (fun hb2 => ?_) (fun hb2 => ?_)
    · refine Ex.regSeq (ExL.pures 1 rfl ?_)
      refine ExL.nil ?_
      refine Ex.ret ?_
      refine RetQ.mk () rfl (.tmp rfl .nil) (tB (by first | exact any_yesB (k := k) (by omega) (by assumption) | exact any_noB (k := k) (by omega) hall)) [] (rfl) rfl (trivial)
    · refine Ex.skip ?_
      refine Ex.region (ExL.pures 1 rfl ?_)
      refine ExL.free (by first | exact fr_add64 rfl rfl rfl (by omega) | exact fr_add rfl rfl rfl) rfl rfl rfl ?_
      refine ExL.pures 1 rfl ?_
      refine ExL.nil ?_
      refine Hand.mk (k + 1) 0 [] ⟨rfl, trivial⟩ ⟨rfl, trivial⟩ (rfl) rfl (⟨by omega, all_snoc hall (by first | assumption | (simp_all; done))⟩) (by omega)
  · refine ExL.nil ?_
    refine Ex.cond_f rfl ?_
    refine Ex.exit ?_
    refine Ex.regSeq (ExL.pures 1 rfl ?_)
    refine ExL.nil ?_
    refine Ex.ret ?_
    refine RetQ.mk () rfl (.tmp rfl .nil) (tB (by first | exact any_yesB (k := k) (by omega) (by assumption) | exact any_noB (k := k) (by omega) hall)) [] (rfl) rfl (trivial)
theorem e_78 : Enters Try.prog 78 := Enters.of Try.func78 rfl
theorem c_reached (v0 : Value) (K : List (VX Int)) (n : Nat) (hfk : FK K n) (lo hi : Int) (hlh : 0 ≤ lo ∧ hi ≤ 1000000000000) (AK : Option Addr) (cK b : Nat) : Ret Try.prog 78 [.pointer (some ⟨b, 0, none⟩)] (fun w => Rd w (some ⟨b, 0, none⟩) [v0, .slice AK K.length cK, .int .i64 lo, .int .i64 hi] ∧ Rd w AK (K.flatMap encX) ∧ ∀ k, k < K.length → Rd w (K.getD k zX).A ((K.getD k zX).xs.flatMap (eI .i64))) (fun x : GSt => .slice x.A K.length x.c) (fun x => [.row (.slice x.A K.length x.c) 110 1 K.length (x.J.flatMap encX), .pile (x.J.map (rwX eB 4 1))]) (fun x => x.J.length = K.length ∧ ∀ i, i < x.J.length → (x.J.getD i zX).xs = reachL lo hi (fun k => (K.getD k zX).xs) i) := by
  refine Ret.of e_78 Try.func78 rfl Try.ntmps78 rfl rfl (fun w hpre => ?_)
  have hpt := hpre.1.base
  have hKr := hpre.2.1.base
  have hKi := fun k hk => (hpre.2.2 k hk).base
  obtain rfl : n = K.length := hfk.len.symm
  have hfl := hfk.vl
  have hfv := hfk.v
  have hn1 := hfk.n1
  have hm0 : maxLen = 9223372036854775807 := rfl
  refine Ex.regSeq (ExL.pures 1 rfl ?_)
  refine ExL.nil ?_
  refine Ex.regSeq (ExL.pures 0 rfl ?_)
  refine ExL.op rfl (op_buildSlice (sz := 1) rfl rfl rfl rfl rfl rfl rfl rfl (by decide) rfl rfl rfl (fun r1 => ?_))
  refine ExL.pures 1 rfl ?_
  refine ExL.nil ?_
  refine Ex.seq ?_
  refine Ex.pile0 ?_
  refine Ex.regSeq (ExL.pures 1 rfl ?_)
  refine ExL.nil ?_
  refine Ex.block ?_
  refine Ex.loopK (X := GSt) (fun q => [(3, .slice q.A q.J.length q.c), (4, .int .i64 q.J.length)]) (fun q => [.row (.slice q.A q.J.length q.c) 110 1 q.J.length (q.J.flatMap encX), .pile (q.J.map (rwX eB 4 1))]) (fun q => q.J.length ≤ K.length ∧ ∀ i, i < q.J.length → (q.J.getD i zX).xs = reachL lo hi (fun k => (K.getD k zX).xs) i) (fun q => K.length - q.J.length) (⟨(some ⟨r1, 0, none⟩), 0, []⟩ : GSt) [(0, _), (2, _)] [] 2 [1, 0] ⟨rfl, rfl, trivial⟩ ⟨rfl, rfl, trivial⟩ (rfl) rfl ⟨Nat.zero_le _, fun i hi => by simp at hi⟩ (fun q hI => ?_)
  have hI : q.J.length ≤ K.length ∧ ∀ i, i < q.J.length → (q.J.getD i zX).xs = reachL lo hi (fun k => (K.getD k zX).xs) i := hI
  obtain ⟨hJ, hR⟩ := hI
  refine Ex.seq ?_
  refine Ex.regSeq (ExL.pures 4 rfl ?_)
  refine ExL.free (fr_load rfl rfl rfl rfl (CellO.at 1 (Reads.old hpt) rfl)) rfl rfl rfl ?_
  refine ExL.pures 1 rfl ?_
  refine ExL.lss rfl rfl rfl rfl rfl rfl (fun h2 => ?_) (fun h2 => ?_)
  · refine ExL.nil ?_
    refine Ex.cond_t rfl ?_
    refine Ex.skip ?_
    refine Ex.seq ?_
    refine Ex.block ?_
    have hJK : q.J.length < K.length := by omega
    have hvl := hfl q.J.length hJK
    have hvl1 := hfl (q.J.length - 1) (by omega)
    have hrl : 0 < q.J.length → (q.J.getD (q.J.length - 1) zX).xs.length = (K.getD (q.J.length - 1) zX).xs.length := fun h => by rw [hR _ (by omega), reach_len]
    refine Ex.regSeq (ExL.pures 3 rfl ?_)
    refine ExL.free (fr_load rfl rfl rfl rfl (CellO.at 1 (Reads.old hpt) rfl)) rfl rfl rfl ?_
    refine ExL.pures 1 rfl ?_
    refine ExL.free (fr_indexAddrF (Reads.old hKr) encX_len rfl rfl rfl rfl rfl rfl (by omega)) rfl rfl rfl ?_
    refine ExL.free (fr_load rfl rfl rfl rfl (cellJ (i := ↑q.J.length) (q.J.length) (Reads.old hKr) encX_len zX 0 rfl (by omega) (by omega) rfl)) rfl rfl rfl ?_
    refine ExL.pures 1 rfl ?_
    refine ExL.op rfl (op_makeSlice (sz := 1) rfl rfl rfl rfl rfl rfl rfl rfl (⟨by omega, by unfold maxLen; omega⟩) rfl rfl (fun r3 => ?_))
    refine ExL.pures 1 rfl ?_
    refine ExL.nil ?_
    refine Ex.seq ?_
    refine Ex.regSeq (ExL.pures 1 rfl ?_)
    refine ExL.nil ?_
    refine Ex.block ?_
    refine Ex.loopK (X := Nat) (fun i => [(6, .int .i64 i)]) (fun i => [.row (.slice (some ⟨r3, 0, none⟩) (K.getD q.J.length zX).xs.length (K.getD q.J.length zX).xs.length) 4 1 (K.getD q.J.length zX).xs.length ((Sx.part false (reachL lo hi (fun k => (K.getD k zX).xs) q.J.length) i).flatMap eB)]) (fun i => i ≤ (K.getD q.J.length zX).xs.length) (fun i => (K.getD q.J.length zX).xs.length - i) 0 [(0, _), (2, _), (3, _), (4, _), (5, _)] [_, _] 3 [0, 1, 2] ⟨rfl, trivial⟩ ⟨rfl, rfl, rfl, rfl, rfl, trivial⟩ (pkR (zrow rfl)) rfl (Nat.zero_le _) (fun i hI => ?_)
    have hI : i ≤ (K.getD q.J.length zX).xs.length := hI
    refine Ex.seq ?_
    refine Ex.regSeq (ExL.pures 3 rfl ?_)
    refine ExL.lss rfl rfl rfl rfl rfl rfl (fun h4 => ?_) (fun h4 => ?_)
    · refine ExL.nil ?_
      refine Ex.cond_t rfl ?_
      refine Ex.skip ?_
      refine Ex.seq ?_
      refine Ex.block ?_
      have hvi := hfv q.J.length i hJK
      refine Ex.regSeq (ExL.pures 3 rfl ?_)
      refine ExL.free (fr_eql rfl rfl rfl) rfl rfl rfl ?_
      refine ExL.free (fr_indexAddr (sz := 1) rfl rfl rfl rfl rfl rfl (by omega)) rfl rfl rfl ?_
      refine ExL.op rfl (op_storeRowF (i := 0) rfl rfl rfl rfl rfl rfl rfl rfl (room eB_len (k := i) (by rw [part_len _ _ _ (by rw [reach_len]; omega), reach_len]; omega) (by simp) rfl) (List.cons_ne_nil _ _) rfl (rowQ_0 (by omega) (by simp) rfl) ?_)
      refine ExL.nil ?_
      refine Ex.regSeq (ExL.pures 1 rfl ?_)
      refine ExL.nil ?_
      refine Ex.block ?_
      have hii : i < (K.getD q.J.length zX).xs.length := by omega
      refine Ex.loopK (X := Nat) (fun j => [(7, .int .i64 j)]) (fun j => [.row (.slice (some ⟨r3, 0, none⟩) (K.getD q.J.length zX).xs.length (K.getD q.J.length zX).xs.length) 4 1 (K.getD q.J.length zX).xs.length ((rowQ lo hi (fun k => (K.getD k zX).xs) q.J.length i j).flatMap eB)]) (fun j => j ≤ (K.getD (q.J.length - 1) zX).xs.length) (fun j => (K.getD (q.J.length - 1) zX).xs.length - j) 0 [(0, _), (2, _), (3, _), (4, _), (5, _), (6, _)] [_, _] 3 [0, 1, 2] ⟨rfl, trivial⟩ ⟨rfl, rfl, rfl, rfl, rfl, rfl, trivial⟩ (rfl) rfl (Nat.zero_le _) (fun j hI => ?_)
      have hI : j ≤ (K.getD (q.J.length - 1) zX).xs.length := hI
      refine Ex.seq ?_
      refine Ex.regSeq (ExL.pures 1 rfl ?_)
      refine ExL.gtr rfl rfl rfl rfl rfl rfl (fun h5 => ?_) (fun h5 => ?_)
      · refine ExL.pures 5 rfl ?_
        refine ExL.free (fr_load rfl rfl rfl rfl (CellO.at 1 (Reads.old hpt) rfl)) rfl rfl rfl ?_
        refine ExL.pures 1 rfl ?_
        refine ExL.free (by first | exact fr_sub64 rfl rfl rfl (by omega) | exact fr_sub rfl rfl rfl) rfl rfl rfl ?_
        refine ExL.free (fr_indexAddrF (Reads.old hKr) encX_len rfl rfl rfl rfl rfl rfl (by omega)) rfl rfl rfl ?_
        refine ExL.free (fr_load rfl rfl rfl rfl (cellJ (i := (↑q.J.length - 1)) ((q.J.length - 1)) (Reads.old hKr) encX_len zX 0 rfl (by omega) (by omega) rfl)) rfl rfl rfl ?_
        refine ExL.pures 1 rfl ?_
        refine ExL.lss rfl rfl rfl rfl rfl rfl (fun h6 => ?_) (fun h6 => ?_)
        · refine ExL.pures 4 rfl ?_
          refine ExL.free (fr_indexAddr (sz := 1) rfl rfl rfl rfl rfl rfl (by omega)) rfl rfl rfl ?_
          refine ExL.free (fr_load rfl rfl rfl rfl (cellW (v := .bool (curR lo hi (fun k => (K.getD k zX).xs) q.J.length i j)) (i := ↑i) i (Reads.row (i := 0) rfl) eB_len false 0 rfl (by omega) (by rw [rowQ_len (by omega)]; omega) (rowQ_at (by omega)) rfl)) rfl rfl rfl ?_
          refine ExL.pures 2 rfl ?_
          refine ExL.nil ?_
          refine Ex.cond rfl (fun hb7 => ?_) (fun hb7 => ?_)
          · replace hb7 := nb_t hb7
            refine Ex.skip ?_
            refine Ex.seq ?_
            refine Ex.block ?_
            have hvj := hfv (q.J.length - 1) j (by omega)
            refine Ex.drawM rfl ?_
            refine ExD.take (i := 0) rfl (by kernel_rfl) (pureVal_ok rfl) ((List.Sublist.refl _)) rfl rfl rfl ?_
            refine ExD.take (i := 1) rfl (by kernel_rfl) (pureVal_ok rfl) ((List.Sublist.refl _)) rfl rfl rfl ?_
            refine ExD.take (i := 2) rfl (by kernel_rfl) (pureVal_ok rfl) ((List.Sublist.refl _)) rfl rfl rfl ?_
            refine ExD.take (i := 3) rfl (by kernel_rfl) (pureVal_ok rfl) ((List.Sublist.refl _)) rfl rfl rfl ?_
            refine ExD.take (i := 4) rfl (by kernel_rfl) (by first | exact fr_sub64 rfl rfl rfl (by omega) | exact fr_sub rfl rfl rfl) ((List.Sublist.refl _)) rfl rfl rfl ?_
            refine ExD.take (i := 5) rfl (by kernel_rfl) (fr_indexAddrR (sz := 1) 1 rfl rfl rfl rfl rfl rfl (by omega)) ((List.Sublist.refl _)) rfl rfl rfl ?_
            refine ExD.take (i := 6) rfl (by kernel_rfl) (fr_load rfl rfl rfl rfl (cellJ (i := (↑q.J.length - 1)) ((q.J.length - 1)) (Reads.row (i := 1) rfl) encX_len zX 0 rfl (by omega) (by omega) rfl)) ((List.Sublist.refl _)) rfl rfl rfl ?_
            refine ExD.take (i := 7) rfl (by kernel_rfl) (pureVal_ok rfl) ((List.Sublist.refl _)) rfl rfl rfl ?_
            refine ExD.take (i := 8) rfl (by kernel_rfl) (fr_indexAddrF (readsX (i := 2) rfl (k := (q.J.length - 1)) (by omega)) eB_len rfl rfl rfl rfl rfl rfl (by omega)) ((List.Sublist.refl _)) rfl rfl rfl ?_
            refine ExD.take (i := 9) rfl (by kernel_rfl) (fr_load rfl rfl rfl rfl (by first | exact cellN (readsX (i := 2) rfl (k := (q.J.length - 1)) (by omega)) eB_len false 0 rfl (by omega) rfl | exact cellF (readsX (i := 2) rfl (k := (q.J.length - 1)) (by omega)) eB_len false 0 rfl (by omega) rfl)) ((List.Sublist.refl _)) rfl rfl rfl ?_
            refine ExD.take (i := 10) rfl (by kernel_rfl) (pureVal_ok rfl) ((List.Sublist.refl _)) rfl rfl rfl ?_
            refine ExD.bool (d := 72) rfl (fun hb8 => ?_) (fun hb8 => ?_)
            · refine ExD.take (i := 11) rfl (by kernel_rfl) (pureVal_ok rfl) ((List.Sublist.refl _)) rfl rfl rfl ?_
              refine ExD.take (i := 12) rfl (by kernel_rfl) (pureVal_ok rfl) ((List.Sublist.refl _)) rfl rfl rfl ?_
              refine ExD.take (i := 13) rfl (by kernel_rfl) (pureVal_ok rfl) ((List.Sublist.refl _)) rfl rfl rfl ?_
              refine ExD.take (i := 14) rfl (by kernel_rfl) (pureVal_ok rfl) ((List.Sublist.refl _)) rfl rfl rfl ?_
              refine ExD.take (i := 15) rfl (by kernel_rfl) (fr_load rfl rfl rfl rfl (CellO.at 1 (Reads.old hpt) rfl)) ((List.Sublist.refl _)) rfl rfl rfl ?_
              refine ExD.take (i := 16) rfl (by kernel_rfl) (pureVal_ok rfl) ((List.Sublist.refl _)) rfl rfl rfl ?_
              refine ExD.take (i := 17) rfl (by kernel_rfl) (by first | exact fr_sub64 rfl rfl rfl (by omega) | exact fr_sub rfl rfl rfl) ((List.Sublist.refl _)) rfl rfl rfl ?_
              refine ExD.take (i := 18) rfl (by kernel_rfl) (fr_indexAddrF (Reads.old hKr) encX_len rfl rfl rfl rfl rfl rfl (by omega)) ((List.Sublist.refl _)) rfl rfl rfl ?_
              refine ExD.take (i := 19) rfl (by kernel_rfl) (fr_load rfl rfl rfl rfl (cellJ (i := (↑q.J.length - 1)) ((q.J.length - 1)) (Reads.old hKr) encX_len zX 0 rfl (by omega) (by omega) rfl)) ((List.Sublist.refl _)) rfl rfl rfl ?_
              refine ExD.take (i := 20) rfl (by kernel_rfl) (pureVal_ok rfl) ((List.Sublist.refl _)) rfl rfl rfl ?_
              refine ExD.take (i := 21) rfl (by kernel_rfl) (fr_indexAddrF (Reads.old (hKi (q.J.length - 1) (by omega))) (eI_len .i64) rfl rfl rfl rfl rfl rfl (by omega)) ((List.Sublist.refl _)) rfl rfl rfl ?_
              refine ExD.take (i := 22) rfl (by kernel_rfl) (fr_load rfl rfl rfl rfl (by first | exact cellN (Reads.old (hKi (q.J.length - 1) (by omega))) (eI_len .i64) 0 0 rfl (by omega) rfl | exact cellF (Reads.old (hKi (q.J.length - 1) (by omega))) (eI_len .i64) 0 0 rfl (by omega) rfl)) ((List.Sublist.refl _)) rfl rfl rfl ?_
              refine ExD.take (i := 23) rfl (by kernel_rfl) (pureVal_ok rfl) ((List.Sublist.refl _)) rfl rfl rfl ?_
              refine ExD.take (i := 24) rfl (by kernel_rfl) (pureVal_ok rfl) ((List.Sublist.refl _)) rfl rfl rfl ?_
              refine ExD.take (i := 25) rfl (by kernel_rfl) (pureVal_ok rfl) ((List.Sublist.refl _)) rfl rfl rfl ?_
              refine ExD.take (i := 26) rfl (by kernel_rfl) (fr_load rfl rfl rfl rfl (CellO.at 1 (Reads.old hpt) rfl)) ((List.Sublist.refl _)) rfl rfl rfl ?_
              refine ExD.take (i := 27) rfl (by kernel_rfl) (pureVal_ok rfl) ((List.Sublist.refl _)) rfl rfl rfl ?_
              refine ExD.take (i := 28) rfl (by kernel_rfl) (fr_indexAddrF (Reads.old hKr) encX_len rfl rfl rfl rfl rfl rfl (by omega)) ((List.Sublist.refl _)) rfl rfl rfl ?_
              refine ExD.take (i := 29) rfl (by kernel_rfl) (fr_load rfl rfl rfl rfl (cellJ (i := ↑q.J.length) (q.J.length) (Reads.old hKr) encX_len zX 0 rfl (by omega) (by omega) rfl)) ((List.Sublist.refl _)) rfl rfl rfl ?_
              refine ExD.take (i := 30) rfl (by kernel_rfl) (pureVal_ok rfl) ((List.Sublist.refl _)) rfl rfl rfl ?_
              refine ExD.take (i := 31) rfl (by kernel_rfl) (fr_indexAddrF (Reads.old (hKi q.J.length (by omega))) (eI_len .i64) rfl rfl rfl rfl rfl rfl (by omega)) ((List.Sublist.refl _)) rfl rfl rfl ?_
              refine ExD.take (i := 32) rfl (by kernel_rfl) (fr_load rfl rfl rfl rfl (by first | exact cellN (Reads.old (hKi q.J.length (by omega))) (eI_len .i64) 0 0 rfl (by omega) rfl | exact cellF (Reads.old (hKi q.J.length (by omega))) (eI_len .i64) 0 0 rfl (by omega) rfl)) ((List.Sublist.refl _)) rfl rfl rfl ?_
              refine ExD.op (i := 33) rfl (by kernel_rfl) rfl (op_ret rfl rfl rfl (c_follows _ _ lo hi (by omega) _ ((K.getD (q.J.length - 1) zX).xs.getD j 0) ((K.getD q.J.length zX).xs.getD i 0) (by omega) (by omega)) (Reads.get (Reads.old hpt)) rfl rfl (fun x9 hx9 => ⟨(List.Sublist.refl _), ?_⟩))
              refine ExD.take (i := 34) rfl (by kernel_rfl) (pureVal_ok rfl) ((List.Sublist.refl _)) rfl rfl rfl ?_
              refine ExD.take (i := 35) rfl (by kernel_rfl) (fr_indexAddr (sz := 1) rfl rfl rfl rfl rfl rfl (by omega)) ((List.Sublist.refl _)) rfl rfl rfl ?_
              refine ExD.last (i := 36) rfl (by kernel_rfl) (by kernel_rfl) rfl (op_storeRowF (i := 0) rfl rfl rfl rfl rfl rfl rfl rfl (room eB_len (k := i) (by rw [rowQ_len (by omega)]; omega) (by simp) rfl) (List.cons_ne_nil _ _) rfl (rowQ_s (by omega) (by simp) (by first | exact congrArg eB (cr_st (by assumption)) | exact congrArg eB (cr_sf hR (by omega) (by omega) (by assumption) (by assumption)) | exact congrArg eB (cr_sg hR (by omega) (by omega) (by assumption) (by assumption)) | (exfalso; exact cr_z (by assumption) (by omega)))) ?_)
              refine ExD.done (by kernel_rfl) ?_
              refine Ex.region (ExL.pures 1 rfl ?_)
              refine ExL.free (by first | exact fr_add64 rfl rfl rfl (by omega) | exact fr_add rfl rfl rfl) rfl rfl rfl ?_
              refine ExL.pures 1 rfl ?_
              refine ExL.nil ?_
              refine Hand.mk (j + 1) 3 [0, 1, 2] ⟨rfl, trivial⟩ ⟨rfl, rfl, rfl, rfl, rfl, rfl, trivial⟩ (rfl) rfl (by omega) (by omega)
            · refine ExD.pass (i := 11) rfl (by kernel_rfl) ((List.Sublist.refl _)) rfl rfl rfl ?_
              refine ExD.pass (i := 12) rfl (by kernel_rfl) ((List.Sublist.refl _)) rfl rfl rfl ?_
              refine ExD.pass (i := 13) rfl (by kernel_rfl) ((List.Sublist.refl _)) rfl rfl rfl ?_
              refine ExD.pass (i := 14) rfl (by kernel_rfl) ((List.Sublist.refl _)) rfl rfl rfl ?_
              refine ExD.pass (i := 15) rfl (by kernel_rfl) ((List.Sublist.refl _)) rfl rfl rfl ?_
              refine ExD.pass (i := 16) rfl (by kernel_rfl) ((List.Sublist.refl _)) rfl rfl rfl ?_
              refine ExD.pass (i := 17) rfl (by kernel_rfl) ((List.Sublist.refl _)) rfl rfl rfl ?_
              refine ExD.pass (i := 18) rfl (by kernel_rfl) ((List.Sublist.refl _)) rfl rfl rfl ?_
              refine ExD.pass (i := 19) rfl (by kernel_rfl) ((List.Sublist.refl _)) rfl rfl rfl ?_
              refine ExD.pass (i := 20) rfl (by kernel_rfl) ((List.Sublist.refl _)) rfl rfl rfl ?_
              refine ExD.pass (i := 21) rfl (by kernel_rfl) ((List.Sublist.refl _)) rfl rfl rfl ?_
              refine ExD.pass (i := 22) rfl (by kernel_rfl) ((List.Sublist.refl _)) rfl rfl rfl ?_
              refine ExD.pass (i := 23) rfl (by kernel_rfl) ((List.Sublist.refl _)) rfl rfl rfl ?_
              refine ExD.pass (i := 24) rfl (by kernel_rfl) ((List.Sublist.refl _)) rfl rfl rfl ?_
              refine ExD.pass (i := 25) rfl (by kernel_rfl) ((List.Sublist.refl _)) rfl rfl rfl ?_
              refine ExD.pass (i := 26) rfl (by kernel_rfl) ((List.Sublist.refl _)) rfl rfl rfl ?_
              refine ExD.pass (i := 27) rfl (by kernel_rfl) ((List.Sublist.refl _)) rfl rfl rfl ?_
              refine ExD.pass (i := 28) rfl (by kernel_rfl) ((List.Sublist.refl _)) rfl rfl rfl ?_
              refine ExD.pass (i := 29) rfl (by kernel_rfl) ((List.Sublist.refl _)) rfl rfl rfl ?_
              refine ExD.pass (i := 30) rfl (by kernel_rfl) ((List.Sublist.refl _)) rfl rfl rfl ?_
              refine ExD.pass (i := 31) rfl (by kernel_rfl) ((List.Sublist.refl _)) rfl rfl rfl ?_
              refine ExD.pass (i := 32) rfl (by kernel_rfl) ((List.Sublist.refl _)) rfl rfl rfl ?_
              refine ExD.pass (i := 33) rfl (by kernel_rfl) ((List.Sublist.refl _)) rfl rfl rfl ?_
              refine ExD.take (i := 34) rfl (by kernel_rfl) (pureVal_ok rfl) ((List.Sublist.refl _)) rfl rfl rfl ?_
              refine ExD.take (i := 35) rfl (by kernel_rfl) (fr_indexAddr (sz := 1) rfl rfl rfl rfl rfl rfl (by omega)) ((List.Sublist.refl _)) rfl rfl rfl ?_
              refine ExD.last (i := 36) rfl (by kernel_rfl) (by kernel_rfl) rfl (op_storeRowF (i := 0) rfl rfl rfl rfl rfl rfl rfl rfl (room eB_len (k := i) (by rw [rowQ_len (by omega)]; omega) (by simp) rfl) (List.cons_ne_nil _ _) rfl (rowQ_s (by omega) (by simp) (by first | exact congrArg eB (cr_st (by assumption)) | exact congrArg eB (cr_sf hR (by omega) (by omega) (by assumption) (by assumption)) | exact congrArg eB (cr_sg hR (by omega) (by omega) (by assumption) (by assumption)) | (exfalso; exact cr_z (by assumption) (by omega)))) ?_)
              refine ExD.done (by kernel_rfl) ?_
              refine Ex.region (ExL.pures 1 rfl ?_)
              refine ExL.free (by first | exact fr_add64 rfl rfl rfl (by omega) | exact fr_add rfl rfl rfl) rfl rfl rfl ?_
              refine ExL.pures 1 rfl ?_
              refine ExL.nil ?_
              refine Hand.mk (j + 1) 3 [0, 1, 2] ⟨rfl, trivial⟩ ⟨rfl, rfl, rfl, rfl, rfl, rfl, trivial⟩ (rfl) rfl (by omega) (by omega)
          · replace hb7 := nb_f hb7
            refine Ex.exit ?_
            rw [rowQ_fin hii (by first | exact cr_0 hii (by omega) | exact cr_len hii (by omega) | exact cr_t hii (by omega) (by assumption))]
            refine Ex.region (ExL.pures 1 rfl ?_)
            refine ExL.free (by first | exact fr_add64 rfl rfl rfl (by omega) | exact fr_add rfl rfl rfl) rfl rfl rfl ?_
            refine ExL.pures 1 rfl ?_
            refine ExL.nil ?_
            refine Hand.mk (i + 1) 3 [0, 1, 2] ⟨rfl, trivial⟩ ⟨rfl, rfl, rfl, rfl, rfl, trivial⟩ (rfl) rfl (by omega) (by omega)
        · refine ExL.pures 8 rfl ?_
          refine ExL.nil ?_
          refine Ex.cond_f rfl ?_
          refine Ex.exit ?_
          rw [rowQ_fin hii (by first | exact cr_0 hii (by omega) | exact cr_len hii (by omega) | exact cr_t hii (by omega) (by assumption))]
          refine Ex.region (ExL.pures 1 rfl ?_)
          refine ExL.free (by first | exact fr_add64 rfl rfl rfl (by omega) | exact fr_add rfl rfl rfl) rfl rfl rfl ?_
          refine ExL.pures 1 rfl ?_
          refine ExL.nil ?_
          refine Hand.mk (i + 1) 3 [0, 1, 2] ⟨rfl, trivial⟩ ⟨rfl, rfl, rfl, rfl, rfl, trivial⟩ (rfl) rfl (by omega) (by omega)
      · refine ExL.pures 20 rfl ?_
        refine ExL.nil ?_
        refine Ex.cond_f rfl ?_
        refine Ex.exit ?_
        rw [rowQ_fin hii (by first | exact cr_0 hii (by omega) | exact cr_len hii (by omega) | exact cr_t hii (by omega) (by assumption))]
        refine Ex.region (ExL.pures 1 rfl ?_)
        refine ExL.free (by first | exact fr_add64 rfl rfl rfl (by omega) | exact fr_add rfl rfl rfl) rfl rfl rfl ?_
        refine ExL.pures 1 rfl ?_
        refine ExL.nil ?_
        refine Hand.mk (i + 1) 3 [0, 1, 2] ⟨rfl, trivial⟩ ⟨rfl, rfl, rfl, rfl, rfl, trivial⟩ (rfl) rfl (by omega) (by omega)
    · refine ExL.nil ?_
      refine Ex.cond_f rfl ?_
      refine Ex.exit ?_
      obtain rfl : i = (K.getD q.J.length zX).xs.length := (by omega)
      rw [part_full rfl]
      refine Ex.region (ExL.pures 2 rfl ?_)
      refine ExL.op rfl (op_buildSlice (sz := 1) rfl rfl rfl rfl rfl rfl rfl rfl (by decide) rfl rfl rfl (fun r10 => ?_))
      refine ExL.op rfl (op_append (sz := 1) (bytes := 24) (i := 2) rfl rfl rfl rfl (Reads.row (i := 0) rfl) rfl (fun e => nomatch e) rfl rfl rfl rfl (by constructor <;> first | omega | (unfold maxLen; omega)) rfl rfl (fun A11 cA11 => ?_))
      refine ExL.pures 1 rfl ?_
      refine ExL.nil ?_
      refine Ex.conv (layX (reach_len lo hi (fun k => (K.getD k zX).xs) q.J.length) (perm_lt (i := 1) (j := 3) rfl rfl rfl)) ?_
      refine Ex.region (ExL.pures 1 rfl ?_)
      refine ExL.free (by first | exact fr_add64 rfl rfl rfl (by omega) | exact fr_add rfl rfl rfl) rfl rfl rfl ?_
      refine ExL.pures 1 rfl ?_
      refine ExL.nil ?_
      have hJn : (q.J ++ [(⟨some ⟨r3, 0, none⟩, (K.getD q.J.length zX).xs.length, (reachL lo hi (fun k => (K.getD k zX).xs) q.J.length)⟩ : VX Bool)]).length = q.J.length + 1 := by simp
      refine Hand.mk ((⟨A11, cA11, q.J ++ [(⟨some ⟨r3, 0, none⟩, (K.getD q.J.length zX).xs.length, (reachL lo hi (fun k => (K.getD k zX).xs) q.J.length)⟩ : VX Bool)]⟩ : GSt)) 3 [2, 0] ⟨(by first | rfl | (dsimp only; rw [hJn]; rfl)), agI (by dsimp only; rw [hJn]; rfl), trivial⟩ ⟨rfl, rfl, trivial⟩ (by first | rfl | (simp only [List.map_append, List.flatMap_append, hJn, encX, List.flatMap_cons, List.flatMap_nil, reach_len]; rfl)) rfl (⟨by dsimp only; omega, rk_snoc hR⟩) (by dsimp only; omega)
  · refine ExL.nil ?_
    refine Ex.cond_f rfl ?_
    refine Ex.exit ?_
    have hJn : q.J.length = K.length := by omega
    refine Ex.regSeq (ExL.pures 2 rfl ?_)
    refine ExL.nil ?_
    refine Ex.ret ?_
    refine RetQ.mk q rfl (.tmp rfl .nil) ((by rw [← hJn]; rfl)) [0, 1] (by rw [← hJn]; rfl) rfl (⟨hJn, hR⟩)
end Go.Proofs.Ytplljnddhkleaaa
