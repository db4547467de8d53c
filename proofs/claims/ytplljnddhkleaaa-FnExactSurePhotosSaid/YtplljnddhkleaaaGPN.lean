/- What these functions of the program hand back, each proved by walking its operations. -/
import Derived.Test.YtplljnddhkleaaaProg
import Derived.Test.YtplljnddhkleaaaFw
import Derived.Test.YtplljnddhkleaaaM45
import Derived.Test.YtplljnddhkleaaaGPL
set_option linter.unusedVariables false
set_option linter.unusedSimpArgs false
set_option maxRecDepth 4000
namespace Go.Proofs.Ytplljnddhkleaaa
open Go Go.Sx Go.RowKit Go.W Go.Proofs
attribute [local irreducible] Ex ExL ExD Op1 Free RetQ MutQ Reads CellO SegO LoadsAs
theorem e_85 : Enters Try.prog 85 := Enters.of Try.func85 rfl
theorem c_absW (a : Int) (ha : -8000000000000000000 ≤ a ∧ a ≤ 8000000000000000000) : Ret Try.prog 85 [.int .i64 a] (fun w => True) (fun x : Unit => .int .i64 (absW a)) (fun x => []) (fun x => True) := by
  refine Ret.of e_85 Try.func85 rfl Try.ntmps85 rfl rfl (fun w hpre => ?_)
  refine Ex.regSeq (ExL.pures 1 rfl ?_)
  refine ExL.nil ?_
  refine Ex.regSeq (ExL.pures 2 rfl ?_)
  refine ExL.free (by first | exact fr_neg64 rfl rfl (by omega) | exact fr_neg rfl rfl) rfl rfl rfl ?_
  refine ExL.free (fr_max rfl rfl rfl) rfl rfl rfl ?_
  refine ExL.pures 1 rfl ?_
  refine ExL.nil ?_
  refine Ex.ret ?_
  refine RetQ.mk () rfl (.tmp rfl .nil) (tI (by unfold absW; first | (split <;> omega) | (rw [if_pos (by omega)]) | (rw [if_neg (by omega)]))) [] (rfl) rfl (trivial)
theorem e_83 : Enters Try.prog 83 := Enters.of Try.func83 rfl
theorem c_l05Size (a : Int) (ha : -8000000000000000000 ≤ a ∧ a ≤ 8000000000000000000) : Ret Try.prog 83 [.int .i64 a] (fun w => True) (fun x : Unit => .int .i64 (absW a)) (fun x => []) (fun x => True) := by
  refine Ret.of e_83 Try.func83 rfl Try.ntmps83 rfl rfl (fun w hpre => ?_)
  refine Ex.regSeq (ExL.pures 1 rfl ?_)
  refine ExL.nil ?_
  refine Ex.seq ?_
  refine Ex.regSeq (ExL.pures 1 rfl ?_)
  refine ExL.lss rfl rfl rfl rfl rfl rfl (fun h1 => ?_) (fun h1 => ?_)
  · refine ExL.nil ?_
    refine Ex.cond_t rfl ?_
    refine Ex.regSeq (ExL.pures 1 rfl ?_)
    refine ExL.free (by first | exact fr_neg64 rfl rfl (by omega) | exact fr_neg rfl rfl) rfl rfl rfl ?_
    refine ExL.pures 1 rfl ?_
    refine ExL.nil ?_
    refine Ex.ret ?_
    refine RetQ.mk () rfl (.tmp rfl .nil) (tI (by unfold absW; first | (split <;> omega) | (rw [if_pos (by omega)]) | (rw [if_neg (by omega)]))) [] (rfl) rfl (trivial)
  · refine ExL.nil ?_
    refine Ex.cond_f rfl ?_
    refine Ex.skip ?_
    refine Ex.regSeq (ExL.pures 2 rfl ?_)
    refine ExL.nil ?_
    refine Ex.ret ?_
    refine RetQ.mk () rfl (.tmp rfl .nil) (tI (by unfold absW; first | (split <;> omega) | (rw [if_pos (by omega)]) | (rw [if_neg (by omega)]))) [] (rfl) rfl (trivial)
theorem e_84 : Enters Try.prog 84 := Enters.of Try.func84 rfl
set_option maxHeartbeats 800000 in
theorem c_sums (K : List (VX Int)) (n : Nat) (hfk : FK K n) (lo hi : Int) (hlh : 0 ≤ lo ∧ hi ≤ 1000000000000) (AK : Option Addr) (cK b : Nat) (us : Int) (hus : 0 ≤ us ∧ us ≤ 1000000000000) : Ret Try.prog 84 [.pointer (some ⟨b, 0, none⟩), .int .i64 us] (fun w => Rd w (some ⟨b, 0, none⟩) [.slice AK K.length cK, .int .i64 lo, .int .i64 hi] ∧ Rd w AK (K.flatMap encX) ∧ ∀ k, k < K.length → Rd w (K.getD k zX).A ((K.getD k zX).xs.flatMap (eI .i64))) (fun x : Nat × List (VX Int) => .slice (some ⟨x.1, 0, none⟩) K.length K.length) (fun x => [.row (.slice (some ⟨x.1, 0, none⟩) K.length K.length) 39 1 K.length ((outE x.2 K.length).flatMap encX), .pile (x.2.map (rwX (eI .i64) 2 1))]) (fun x => x.2.length = K.length ∧ ∀ i, i < x.2.length → (x.2.getD i zX).xs = costL lo hi us (fun k => (K.getD k zX).xs) K.length i) := by
  refine Ret.of e_84 Try.func84 rfl Try.ntmps84 rfl rfl (fun w hpre => ?_)
  have hpt := hpre.1.base
  have hKr := hpre.2.1.base
  have hKi := fun k hk => (hpre.2.2 k hk).base
  obtain rfl : n = K.length := hfk.len.symm
  have hfl := hfk.vl
  have hfv := hfk.v
  have hn1 := hfk.n1
  have hm0 : maxLen = 9223372036854775807 := rfl
  have hFa := fk_all hfk
  have hfl := hfk.vl
  have hvl0 := hfl (K.length - 1) (by omega)
  refine Ex.regSeq (ExL.pures 1 rfl ?_)
  refine ExL.nil ?_
  refine Ex.regSeq (ExL.pures 3 rfl ?_)
  refine ExL.free (fr_load rfl rfl rfl rfl (CellO.at 0 (Reads.old hpt) rfl)) rfl rfl rfl ?_
  refine ExL.pures 1 rfl ?_
  refine ExL.free (Free.val ((K.length - 1 : Nat) : Int) (fr_sub64 rfl rfl rfl (by omega)) (by omega)) rfl rfl rfl ?_
  refine ExL.pures 1 rfl ?_
  refine ExL.nil ?_
  refine Ex.regSeq (ExL.pures 3 rfl ?_)
  refine ExL.free (fr_load rfl rfl rfl rfl (CellO.at 0 (Reads.old hpt) rfl)) rfl rfl rfl ?_
  refine ExL.pures 1 rfl ?_
  refine ExL.op rfl (op_makeSlice (sz := 24) rfl rfl rfl rfl rfl rfl rfl rfl (⟨by omega, by unfold maxLen; omega⟩) rfl rfl (fun r1 => ?_))
  refine ExL.pures 1 rfl ?_
  refine ExL.nil ?_
  refine Ex.pile0 ?_
  rw [show zerosL [Value.slice none 0 0] K.length = (outE ([] : List (VX Int)) K.length).flatMap encX from zoutE rfl]
  refine Ex.regSeq (ExL.pures 5 rfl ?_)
  refine ExL.free (fr_load rfl rfl rfl rfl (CellO.at 0 (Reads.old hpt) rfl)) rfl rfl rfl ?_
  refine ExL.pures 1 rfl ?_
  refine ExL.free (fr_indexAddrF (Reads.old hKr) encX_len rfl rfl rfl rfl rfl rfl (by omega)) rfl rfl rfl ?_
  refine ExL.free (fr_load rfl rfl rfl rfl (cellJ (i := ↑(K.length - 1)) ((K.length - 1)) (Reads.old hKr) encX_len zX 0 rfl (by omega) (by omega) rfl)) rfl rfl rfl ?_
  refine ExL.pures 1 rfl ?_
  refine ExL.op rfl (op_makeSlice (sz := 8) rfl rfl rfl rfl rfl rfl rfl rfl (⟨by omega, by unfold maxLen; omega⟩) rfl rfl (fun r2 => ?_))
  refine ExL.free (fr_indexAddr (sz := 1) rfl rfl rfl rfl rfl rfl (by omega)) rfl rfl rfl ?_
  refine ExL.op rfl (op_storeRowF (i := 2) rfl rfl rfl rfl rfl rfl rfl rfl (room encX_len (k := K.length - 1) (by rw [outE_len]; omega) (by simp) rfl) (List.cons_ne_nil _ _) rfl (outE_put (J := []) (⟨(some ⟨r2, 0, none⟩), (K.getD (K.length - 1) zX).xs.length, costL lo hi us (fun k => (K.getD k zX).xs) K.length 0⟩ : VX Int) (by simp; omega) (by simp) (by unfold encX; rw [cost_ln (by omega)]; rfl)) ?_)
  refine ExL.nil ?_
  refine Ex.seq ?_
  have hz0 : zerosL [Value.int .i64 0] (K.getD (K.length - 1) zX).xs.length = (costL lo hi us (fun k => (K.getD k zX).xs) K.length 0).flatMap (eI .i64) := zrowC0 (by omega) rfl
  rw [hz0]
  refine Ex.conv (layX (K := []) (show (costL lo hi us (fun k => (K.getD k zX).xs) K.length 0).length = (K.getD (K.length - 1) zX).xs.length from cost_ln (t := 0) (by omega)) (perm_lt (i := 0) (j := 1) rfl rfl rfl)) ?_
  refine Ex.regSeq (ExL.pures 1 rfl ?_)
  refine ExL.free (by first | exact fr_sub64 rfl rfl rfl (by omega) | exact fr_sub rfl rfl rfl) rfl rfl rfl ?_
  refine ExL.pures 1 rfl ?_
  refine ExL.nil ?_
  refine Ex.block ?_
  refine Ex.loopK (X := List (VX Int)) (fun J => [(7, .int .i64 ((K.length : Int) - 1 - J.length))]) (fun J => [.row (.slice (some ⟨r1, 0, none⟩) K.length K.length) 39 1 K.length ((outE J K.length).flatMap encX), .pile (J.map (rwX (eI .i64) 2 1))]) (fun J => 1 ≤ J.length ∧ J.length ≤ K.length ∧ ∀ i, i < J.length → (J.getD i zX).xs = costL lo hi us (fun k => (K.getD k zX).xs) K.length i) (fun J => K.length - J.length) ([(⟨(some ⟨r2, 0, none⟩), (K.getD (K.length - 1) zX).xs.length, costL lo hi us (fun k => (K.getD k zX).xs) K.length 0⟩ : VX Int)]) [(0, _), (1, _), (4, _), (6, _)] [] 2 [1, 0] ⟨agI (by simp; omega), trivial⟩ ⟨rfl, rfl, rfl, rfl, trivial⟩ (rfl) rfl ⟨Nat.le_refl _, hn1.1, rk_one⟩ (fun J hI => ?_)
  have hI : 1 ≤ J.length ∧ J.length ≤ K.length ∧ ∀ i, i < J.length → (J.getD i zX).xs = costL lo hi us (fun k => (K.getD k zX).xs) K.length i := hI
  obtain ⟨hJ0, hJ, hR⟩ := hI
  refine Ex.seq ?_
  refine Ex.regSeq (ExL.pures 1 rfl ?_)
  refine ExL.geq rfl rfl rfl rfl rfl rfl (fun h3 => ?_) (fun h3 => ?_)
  · refine ExL.nil ?_
    refine Ex.cond_t rfl ?_
    refine Ex.skip ?_
    refine Ex.seq ?_
    refine Ex.block ?_
    have hJK : J.length < K.length := by omega
    have hvl := hfl (K.length - 1 - J.length) (by omega)
    have hvl1 := hfl ((K.length - 1 - J.length) + 1) (by omega)
    have hrl : (J.getD (J.length - 1) zX).xs.length = (K.getD ((K.length - 1 - J.length) + 1) zX).xs.length := by rw [hR _ (by omega), cost_ln (by omega)]; show (K.getD (K.length - 1 - (J.length - 1)) zX).xs.length = _; rw [show K.length - 1 - (J.length - 1) = (K.length - 1 - J.length) + 1 by omega]
    rw [show (K.length : Int) - 1 - J.length = ((K.length - 1 - J.length : Nat) : Int) by omega]
    refine Ex.regSeq (ExL.pures 2 rfl ?_)
    refine ExL.op rfl (op_buildSlice (sz := 1) rfl rfl rfl rfl rfl rfl rfl rfl (by decide) rfl rfl rfl (fun r4 => ?_))
    refine ExL.pures 3 rfl ?_
    refine ExL.free (fr_load rfl rfl rfl rfl (CellO.at 0 (Reads.old hpt) rfl)) rfl rfl rfl ?_
    refine ExL.pures 1 rfl ?_
    refine ExL.free (fr_indexAddrF (Reads.old hKr) encX_len rfl rfl rfl rfl rfl rfl (by omega)) rfl rfl rfl ?_
    refine ExL.free (fr_load rfl rfl rfl rfl (cellJ (i := ↑(K.length - 1 - J.length)) ((K.length - 1 - J.length)) (Reads.old hKr) encX_len zX 0 rfl (by omega) (by omega) rfl)) rfl rfl rfl ?_
    refine ExL.pures 1 rfl ?_
    refine ExL.op rfl (op_ret rfl rfl rfl (c_Repeat (-1) _ _ (K.getD (K.length - 1 - J.length) zX).xs.length (by omega)) (Reads.get (Reads.row (i := 0) rfl)) rfl rfl (fun x5 hx5 => ?_))
    refine ExL.free (fr_indexAddr (sz := 1) rfl rfl rfl rfl rfl rfl (by omega)) rfl rfl rfl ?_
    refine ExL.op rfl (op_storeRowF (i := 2) rfl rfl rfl rfl rfl rfl rfl rfl (room encX_len (k := (K.length - 1 - J.length)) (by rw [outE_len]; omega) (by simp) rfl) (List.cons_ne_nil _ _) rfl (outE_put (⟨(some ⟨x5, 0, none⟩), (K.getD (K.length - 1 - J.length) zX).xs.length, costL lo hi us (fun k => (K.getD k zX).xs) K.length J.length⟩ : VX Int) (by omega) (by simp) (by unfold encX; rw [cost_ln (by omega)])) ?_)
    refine ExL.nil ?_
    rw [repC (lo := lo) (hi := hi) (us := us) (F := (fun k => (K.getD k zX).xs)) (n := K.length) (t := J.length) (by omega) rfl]
    refine Ex.regSeq (ExL.pures 3 rfl ?_)
    refine ExL.free (fr_load rfl rfl rfl rfl (CellO.at 0 (Reads.old hpt) rfl)) rfl rfl rfl ?_
    refine ExL.pures 1 rfl ?_
    refine ExL.free (fr_indexAddrF (Reads.old hKr) encX_len rfl rfl rfl rfl rfl rfl (by omega)) rfl rfl rfl ?_
    refine ExL.free (fr_load rfl rfl rfl rfl (cellJ (i := ↑(K.length - 1 - J.length)) ((K.length - 1 - J.length)) (Reads.old hKr) encX_len zX 0 rfl (by omega) (by omega) rfl)) rfl rfl rfl ?_
    refine ExL.pures 2 rfl ?_
    refine ExL.nil ?_
    refine Ex.block ?_
    refine Ex.loopK (X := Nat) (fun i => [(64, .int .i64 i)]) (fun i => [.row (.slice (some ⟨x5, 0, none⟩) (K.getD (K.length - 1 - J.length) zX).xs.length (K.getD (K.length - 1 - J.length) zX).xs.length) 2 1 (K.getD (K.length - 1 - J.length) zX).xs.length ((Sx.part (-1) (costL lo hi us (fun k => (K.getD k zX).xs) K.length J.length) i).flatMap (eI .i64))]) (fun i => i ≤ (K.getD (K.length - 1 - J.length) zX).xs.length) (fun i => (K.getD (K.length - 1 - J.length) zX).xs.length - i) 0 [(0, _), (1, _), (4, _), (6, _), (7, _), (62, _), (63, _)] [_, _] 4 [0, 2, 3] ⟨rfl, trivial⟩ ⟨rfl, rfl, rfl, rfl, rfl, rfl, rfl, trivial⟩ (rfl) rfl (Nat.zero_le _) (fun i hI => ?_)
    have hI : i ≤ (K.getD (K.length - 1 - J.length) zX).xs.length := hI
    refine Ex.regSeq (ExL.pures 0 rfl ?_)
    refine ExL.lss rfl rfl rfl rfl rfl rfl (fun h6 => ?_) (fun h6 => ?_)
    · refine ExL.nil ?_
      refine Ex.seq ?_
      refine Ex.cond_t rfl ?_
      refine Ex.skip ?_
      refine Ex.seq ?_
      refine Ex.block ?_
      have hii : i < (K.getD (K.length - 1 - J.length) zX).xs.length := by omega
      have hvi := hFa (K.length - 1 - J.length) i
      refine Ex.regSeq (ExL.pures 1 rfl ?_)
      refine ExL.free (fr_indexAddrF (Reads.old (hKi (K.length - 1 - J.length) (by omega))) (eI_len .i64) rfl rfl rfl rfl rfl rfl (by omega)) rfl rfl rfl ?_
      refine ExL.free (fr_load rfl rfl rfl rfl (by first | exact cellN (Reads.old (hKi (K.length - 1 - J.length) (by omega))) (eI_len .i64) 0 0 rfl (by omega) rfl | exact cellF (Reads.old (hKi (K.length - 1 - J.length) (by omega))) (eI_len .i64) 0 0 rfl (by omega) rfl)) rfl rfl rfl ?_
      refine ExL.pures 2 rfl ?_
      refine ExL.nil ?_
      refine Ex.regSeq (ExL.pures 3 rfl ?_)
      refine ExL.free (fr_load rfl rfl rfl rfl (CellO.at 0 (Reads.old hpt) rfl)) rfl rfl rfl ?_
      refine ExL.pures 1 rfl ?_
      refine ExL.free (Free.val (((K.length - 1 - J.length) + 1 : Nat) : Int) (fr_add64 rfl rfl rfl (by omega)) (by omega)) rfl rfl rfl ?_
      refine ExL.free (fr_indexAddrF (Reads.old hKr) encX_len rfl rfl rfl rfl rfl rfl (by omega)) rfl rfl rfl ?_
      refine ExL.free (fr_load rfl rfl rfl rfl (cellJ (i := ↑((K.length - 1 - J.length) + 1)) (((K.length - 1 - J.length) + 1)) (Reads.old hKr) encX_len zX 0 rfl (by omega) (by omega) rfl)) rfl rfl rfl ?_
      refine ExL.pures 2 rfl ?_
      refine ExL.nil ?_
      refine Ex.block ?_
      refine Ex.loopK (X := Nat) (fun j => [(78, .int .i64 j)]) (fun j => [.row (.slice (some ⟨x5, 0, none⟩) (K.getD (K.length - 1 - J.length) zX).xs.length (K.getD (K.length - 1 - J.length) zX).xs.length) 2 1 (K.getD (K.length - 1 - J.length) zX).xs.length ((rowC (-1) lo hi us (fun k => (K.getD k zX).xs) K.length J.length i j).flatMap (eI .i64))]) (fun j => j ≤ (K.getD ((K.length - 1 - J.length) + 1) zX).xs.length) (fun j => (K.getD ((K.length - 1 - J.length) + 1) zX).xs.length - j) 0 [(0, _), (1, _), (4, _), (6, _), (7, _), (8, _), (9, _), (62, _), (63, _), (64, _), (76, _), (77, _)] [_, _] 3 [0, 1, 2] ⟨rfl, trivial⟩ ⟨rfl, rfl, rfl, rfl, rfl, rfl, rfl, rfl, rfl, rfl, rfl, rfl, trivial⟩ (pkR (congrArg (fun z => List.flatMap (eI .i64) z) (rowC_0 (by omega) (by omega)))) rfl (Nat.zero_le _) (fun j hI => ?_)
      have hI : j ≤ (K.getD ((K.length - 1 - J.length) + 1) zX).xs.length := hI
      refine Ex.regSeq (ExL.pures 0 rfl ?_)
      refine ExL.lss rfl rfl rfl rfl rfl rfl (fun h7 => ?_) (fun h7 => ?_)
      · refine ExL.nil ?_
        refine Ex.seq ?_
        refine Ex.cond_t rfl ?_
        refine Ex.skip ?_
        refine Ex.seq ?_
        refine Ex.block ?_
        have hvj := hFa ((K.length - 1 - J.length) + 1) j
        have hcb := cur_bd (i := i) (j := j) (t := J.length) (n := K.length) (lo := lo) (hi := hi) hFa hus (by omega)
        have hob := co_bd hFa hus hR (by omega) (show J.length - 1 < J.length by omega) j
        have hab := abs_bd hvi hvj hus
        refine Ex.regSeq (ExL.pures 1 rfl ?_)
        refine ExL.free (fr_indexAddrF (Reads.old (hKi (((K.length - 1 - J.length) + 1)) (by omega))) (eI_len .i64) rfl rfl rfl rfl rfl rfl (by omega)) rfl rfl rfl ?_
        refine ExL.free (fr_load rfl rfl rfl rfl (by first | exact cellN (Reads.old (hKi (((K.length - 1 - J.length) + 1)) (by omega))) (eI_len .i64) 0 0 rfl (by omega) rfl | exact cellF (Reads.old (hKi (((K.length - 1 - J.length) + 1)) (by omega))) (eI_len .i64) 0 0 rfl (by omega) rfl)) rfl rfl rfl ?_
        refine ExL.pures 2 rfl ?_
        refine ExL.nil ?_
        refine Ex.seq ?_
        refine Ex.regSeq (ExL.pures 2 rfl ?_)
        refine ExL.free (Free.val (((K.length - 1 - J.length) + 1 : Nat) : Int) (fr_add64 rfl rfl rfl (by omega)) (by omega)) rfl rfl rfl ?_
        refine ExL.free (fr_indexAddr (sz := 1) rfl rfl rfl rfl rfl rfl (by omega)) rfl rfl rfl ?_
        refine ExL.free (fr_load rfl rfl rfl rfl (cellE (r := J.getD (J.length - 1) zX) (i := ↑((K.length - 1 - J.length) + 1)) ((K.length - 1 - J.length) + 1) (Reads.row (i := 1) rfl) encX_len zX 0 rfl (by omega) (by rw [outE_len]; omega) (outE_next (by omega) (by omega)) rfl)) rfl rfl rfl ?_
        refine ExL.pures 1 rfl ?_
        refine ExL.free (fr_indexAddrF (readsX (i := 2) rfl (k := (J.length - 1)) (by omega)) (eI_len .i64) rfl rfl rfl rfl rfl rfl (by omega)) rfl rfl rfl ?_
        refine ExL.free (fr_load rfl rfl rfl rfl (by first | exact cellN (readsX (i := 2) rfl (k := (J.length - 1)) (by omega)) (eI_len .i64) 0 0 rfl (by omega) rfl | exact cellF (readsX (i := 2) rfl (k := (J.length - 1)) (by omega)) (eI_len .i64) 0 0 rfl (by omega) rfl)) rfl rfl rfl ?_
        refine ExL.lss rfl rfl rfl rfl rfl rfl (fun h8 => ?_) (fun h8 => ?_)
        · refine ExL.pures 7 rfl ?_
          refine ExL.nil ?_
          refine Ex.cond_t rfl ?_
          refine Ex.exit ?_
          refine Ex.region (ExL.pures 0 rfl ?_)
          refine ExL.free (by first | exact fr_add64 rfl rfl rfl (by omega) | exact fr_add rfl rfl rfl) rfl rfl rfl ?_
          refine ExL.pures 1 rfl ?_
          refine ExL.nil ?_
          refine Hand.mk (j + 1) 3 [0, 1, 2] ⟨rfl, trivial⟩ ⟨rfl, rfl, rfl, rfl, rfl, rfl, rfl, rfl, rfl, rfl, rfl, rfl, trivial⟩ (by first | rfl | exact pkR (congrArg (fun z => List.flatMap (eI .i64) z) (by first | exact cc_n (F := (fun k => (K.getD k zX).xs)) (n := K.length) hR (by omega) (.inl (by assumption)) | exact cc_n (F := (fun k => (K.getD k zX).xs)) (n := K.length) hR (by omega) (.inr (by first | assumption | exact goes_f (by assumption))) | exact cc_k (F := (fun k => (K.getD k zX).xs)) (n := K.length) hR (by omega) (by omega)))) rfl (by omega) (by omega)
        · refine ExL.pures 4 rfl ?_
          refine ExL.op rfl (op_ret rfl rfl rfl (c_goes _ lo hi (by omega) _ ((K.getD (K.length - 1 - J.length) zX).xs.getD i 0) ((K.getD (((K.length - 1 - J.length) + 1)) zX).xs.getD j 0) (by omega) (by omega)) (Reads.get (Reads.old hpt)) rfl rfl (fun x9 hx9 => ?_))
          refine ExL.pures 2 rfl ?_
          refine ExL.nil ?_
          refine Ex.cond rfl (fun hb10 => ?_) (fun hb10 => ?_)
          · replace hb10 := nb_t hb10
            refine Ex.exit ?_
            refine Ex.region (ExL.pures 0 rfl ?_)
            refine ExL.free (by first | exact fr_add64 rfl rfl rfl (by omega) | exact fr_add rfl rfl rfl) rfl rfl rfl ?_
            refine ExL.pures 1 rfl ?_
            refine ExL.nil ?_
            refine Hand.mk (j + 1) 3 [0, 1, 2] ⟨rfl, trivial⟩ ⟨rfl, rfl, rfl, rfl, rfl, rfl, rfl, rfl, rfl, rfl, rfl, rfl, trivial⟩ (by first | rfl | exact pkR (congrArg (fun z => List.flatMap (eI .i64) z) (by first | exact cc_n (F := (fun k => (K.getD k zX).xs)) (n := K.length) hR (by omega) (.inl (by assumption)) | exact cc_n (F := (fun k => (K.getD k zX).xs)) (n := K.length) hR (by omega) (.inr (by first | assumption | exact goes_f (by assumption))) | exact cc_k (F := (fun k => (K.getD k zX).xs)) (n := K.length) hR (by omega) (by omega)))) rfl (by omega) (by omega)
          · replace hb10 := nb_f hb10
            refine Ex.skip ?_
            refine Ex.drawSeqM rfl ?_
            refine ExD.take (i := 0) rfl (by kernel_rfl) (pureVal_ok rfl) ((List.Sublist.refl _)) rfl rfl rfl ?_
            refine ExD.take (i := 1) rfl (by kernel_rfl) (pureVal_ok rfl) ((List.Sublist.refl _)) rfl rfl rfl ?_
            refine ExD.take (i := 2) rfl (by kernel_rfl) (Free.val (((K.length - 1 - J.length) + 1 : Nat) : Int) (fr_add64 rfl rfl rfl (by omega)) (by omega)) ((List.Sublist.refl _)) rfl rfl rfl ?_
            refine ExD.take (i := 3) rfl (by kernel_rfl) (fr_indexAddr (sz := 1) rfl rfl rfl rfl rfl rfl (by omega)) ((List.Sublist.refl _)) rfl rfl rfl ?_
            refine ExD.take (i := 4) rfl (by kernel_rfl) (fr_load rfl rfl rfl rfl (cellE (r := J.getD (J.length - 1) zX) (i := ↑((K.length - 1 - J.length) + 1)) ((K.length - 1 - J.length) + 1) (Reads.row (i := 1) rfl) encX_len zX 0 rfl (by omega) (by rw [outE_len]; omega) (outE_next (by omega) (by omega)) rfl)) ((List.Sublist.refl _)) rfl rfl rfl ?_
            refine ExD.take (i := 5) rfl (by kernel_rfl) (pureVal_ok rfl) ((List.Sublist.refl _)) rfl rfl rfl ?_
            refine ExD.take (i := 6) rfl (by kernel_rfl) (fr_indexAddrF (readsX (i := 2) rfl (k := (J.length - 1)) (by omega)) (eI_len .i64) rfl rfl rfl rfl rfl rfl (by omega)) ((List.Sublist.refl _)) rfl rfl rfl ?_
            refine ExD.take (i := 7) rfl (by kernel_rfl) (fr_load rfl rfl rfl rfl (by first | exact cellN (readsX (i := 2) rfl (k := (J.length - 1)) (by omega)) (eI_len .i64) 0 0 rfl (by omega) rfl | exact cellF (readsX (i := 2) rfl (k := (J.length - 1)) (by omega)) (eI_len .i64) 0 0 rfl (by omega) rfl)) ((List.Sublist.refl _)) rfl rfl rfl ?_
            refine ExD.take (i := 8) rfl (by kernel_rfl) (pureVal_ok rfl) ((List.Sublist.refl _)) rfl rfl rfl ?_
            refine ExD.take (i := 9) rfl (by kernel_rfl) (pureVal_ok rfl) ((List.Sublist.refl _)) rfl rfl rfl ?_
            refine ExD.take (i := 10) rfl (by kernel_rfl) (by first | exact fr_sub64 rfl rfl rfl (by omega) | exact fr_sub rfl rfl rfl) ((List.Sublist.refl _)) rfl rfl rfl ?_
            refine ExD.take (i := 11) rfl (by kernel_rfl) (pureVal_ok rfl) ((List.Sublist.refl _)) rfl rfl rfl ?_
            refine ExD.take (i := 12) rfl (by kernel_rfl) (by first | exact fr_sub64 rfl rfl rfl (by omega) | exact fr_sub rfl rfl rfl) ((List.Sublist.refl _)) rfl rfl rfl ?_
            refine ExD.op (i := 13) rfl (by kernel_rfl) rfl (op_ret rfl rfl rfl (c_absW ((((K.getD (((K.length - 1 - J.length) + 1)) zX).xs.getD j 0) - ((K.getD (K.length - 1 - J.length) zX).xs.getD i 0)) - us) (by omega)) (fun _ _ => trivial) rfl rfl (fun x11 hx11 => ⟨(List.Sublist.refl _), ?_⟩))
            refine ExD.take (i := 14) rfl (by kernel_rfl) (by first | exact fr_add64 rfl rfl rfl (by omega) | exact fr_add rfl rfl rfl) ((List.Sublist.refl _)) rfl rfl rfl ?_
            refine ExD.take (i := 15) rfl (by kernel_rfl) (pureVal_ok rfl) ((List.Sublist.refl _)) rfl rfl rfl ?_
            refine ExD.done (by kernel_rfl) ?_
            refine Ex.regSeq (ExL.pures 2 rfl ?_)
            refine ExL.free (fr_indexAddr (sz := 1) rfl rfl rfl rfl rfl rfl (by omega)) rfl rfl rfl ?_
            refine ExL.free (fr_load rfl rfl rfl rfl (cellE (v := .slice (some ⟨x5, 0, none⟩) (K.getD (K.length - 1 - J.length) zX).xs.length (K.getD (K.length - 1 - J.length) zX).xs.length) (i := ↑(K.length - 1 - J.length)) (K.length - 1 - J.length) (Reads.row (i := 1) rfl) encX_len zX 0 rfl (by omega) (by rw [outE_len]; omega) (outE_last (by omega)) (by unfold encX; rw [cost_ln (by omega)]; rfl))) rfl rfl rfl ?_
            refine ExL.pures 1 rfl ?_
            refine ExL.free (fr_indexAddr (sz := 1) rfl rfl rfl rfl rfl rfl (by omega)) rfl rfl rfl ?_
            refine ExL.free (fr_load rfl rfl rfl rfl (cellW (v := .int .i64 (curC lo hi us (fun k => (K.getD k zX).xs) K.length J.length i j)) (i := ↑i) i (Reads.row (i := 0) rfl) (eI_len .i64) 0 0 rfl (by omega) (by rw [rowC_len (by omega) (by omega)]; omega) (rowC_at (by omega) (by omega)) rfl)) rfl rfl rfl ?_
            refine ExL.lss rfl rfl rfl rfl rfl rfl (fun h12 => ?_) (fun h12 => ?_)
            · refine ExL.pures 11 rfl ?_
              refine ExL.nil ?_
              refine Ex.cond_t rfl ?_
              refine Ex.region (ExL.pures 2 rfl ?_)
              refine ExL.free (fr_indexAddr (sz := 1) rfl rfl rfl rfl rfl rfl (by omega)) rfl rfl rfl ?_
              refine ExL.free (fr_load rfl rfl rfl rfl (cellE (v := .slice (some ⟨x5, 0, none⟩) (K.getD (K.length - 1 - J.length) zX).xs.length (K.getD (K.length - 1 - J.length) zX).xs.length) (i := ↑(K.length - 1 - J.length)) (K.length - 1 - J.length) (Reads.row (i := 1) rfl) encX_len zX 0 rfl (by omega) (by rw [outE_len]; omega) (outE_last (by omega)) (by unfold encX; rw [cost_ln (by omega)]; rfl))) rfl rfl rfl ?_
              refine ExL.pures 2 rfl ?_
              refine ExL.free (fr_indexAddr (sz := 1) rfl rfl rfl rfl rfl rfl (by omega)) rfl rfl rfl ?_
              refine ExL.op rfl (op_storeRowF (i := 0) rfl rfl rfl rfl rfl rfl rfl rfl (room (eI_len .i64) (k := i) (by rw [rowC_len (by omega) (by omega)]; omega) (by simp) rfl) (List.cons_ne_nil _ _) rfl (rowC_s (by omega) (by omega) (by simp) (congrArg (eI .i64) (cc_y (F := (fun k => (K.getD k zX).xs)) (n := K.length) (lo := lo) (hi := hi) (us := us) (J := J) (i := i) (j := j) hR (by omega) (by omega) (by first | assumption | exact goes_t (by assumption)) (by omega)))) ?_)
              refine ExL.nil ?_
              refine Ex.region (ExL.pures 0 rfl ?_)
              refine ExL.free (by first | exact fr_add64 rfl rfl rfl (by omega) | exact fr_add rfl rfl rfl) rfl rfl rfl ?_
              refine ExL.pures 1 rfl ?_
              refine ExL.nil ?_
              refine Hand.mk (j + 1) 3 [0, 1, 2] ⟨rfl, trivial⟩ ⟨rfl, rfl, rfl, rfl, rfl, rfl, rfl, rfl, rfl, rfl, rfl, rfl, trivial⟩ (by first | rfl | exact pkR (congrArg (fun z => List.flatMap (eI .i64) z) (by first | exact cc_n (F := (fun k => (K.getD k zX).xs)) (n := K.length) hR (by omega) (.inl (by assumption)) | exact cc_n (F := (fun k => (K.getD k zX).xs)) (n := K.length) hR (by omega) (.inr (by first | assumption | exact goes_f (by assumption))) | exact cc_k (F := (fun k => (K.getD k zX).xs)) (n := K.length) hR (by omega) (by omega)))) rfl (by omega) (by omega)
            · refine ExL.pures 4 rfl ?_
              refine ExL.free (fr_indexAddr (sz := 1) rfl rfl rfl rfl rfl rfl (by omega)) rfl rfl rfl ?_
              refine ExL.free (fr_load rfl rfl rfl rfl (cellE (v := .slice (some ⟨x5, 0, none⟩) (K.getD (K.length - 1 - J.length) zX).xs.length (K.getD (K.length - 1 - J.length) zX).xs.length) (i := ↑(K.length - 1 - J.length)) (K.length - 1 - J.length) (Reads.row (i := 1) rfl) encX_len zX 0 rfl (by omega) (by rw [outE_len]; omega) (outE_last (by omega)) (by unfold encX; rw [cost_ln (by omega)]; rfl))) rfl rfl rfl ?_
              refine ExL.pures 1 rfl ?_
              refine ExL.free (fr_indexAddr (sz := 1) rfl rfl rfl rfl rfl rfl (by omega)) rfl rfl rfl ?_
              refine ExL.free (fr_load rfl rfl rfl rfl (cellW (v := .int .i64 (curC lo hi us (fun k => (K.getD k zX).xs) K.length J.length i j)) (i := ↑i) i (Reads.row (i := 0) rfl) (eI_len .i64) 0 0 rfl (by omega) (by rw [rowC_len (by omega) (by omega)]; omega) (rowC_at (by omega) (by omega)) rfl)) rfl rfl rfl ?_
              refine ExL.lss rfl rfl rfl rfl rfl rfl (fun h13 => ?_) (fun h13 => ?_)
              · refine ExL.pures 1 rfl ?_
                refine ExL.nil ?_
                refine Ex.cond_t rfl ?_
                refine Ex.region (ExL.pures 2 rfl ?_)
                refine ExL.free (fr_indexAddr (sz := 1) rfl rfl rfl rfl rfl rfl (by omega)) rfl rfl rfl ?_
                refine ExL.free (fr_load rfl rfl rfl rfl (cellE (v := .slice (some ⟨x5, 0, none⟩) (K.getD (K.length - 1 - J.length) zX).xs.length (K.getD (K.length - 1 - J.length) zX).xs.length) (i := ↑(K.length - 1 - J.length)) (K.length - 1 - J.length) (Reads.row (i := 1) rfl) encX_len zX 0 rfl (by omega) (by rw [outE_len]; omega) (outE_last (by omega)) (by unfold encX; rw [cost_ln (by omega)]; rfl))) rfl rfl rfl ?_
                refine ExL.pures 2 rfl ?_
                refine ExL.free (fr_indexAddr (sz := 1) rfl rfl rfl rfl rfl rfl (by omega)) rfl rfl rfl ?_
                refine ExL.op rfl (op_storeRowF (i := 0) rfl rfl rfl rfl rfl rfl rfl rfl (room (eI_len .i64) (k := i) (by rw [rowC_len (by omega) (by omega)]; omega) (by simp) rfl) (List.cons_ne_nil _ _) rfl (rowC_s (by omega) (by omega) (by simp) (congrArg (eI .i64) (cc_y (F := (fun k => (K.getD k zX).xs)) (n := K.length) (lo := lo) (hi := hi) (us := us) (J := J) (i := i) (j := j) hR (by omega) (by omega) (by first | assumption | exact goes_t (by assumption)) (by omega)))) ?_)
                refine ExL.nil ?_
                refine Ex.region (ExL.pures 0 rfl ?_)
                refine ExL.free (by first | exact fr_add64 rfl rfl rfl (by omega) | exact fr_add rfl rfl rfl) rfl rfl rfl ?_
                refine ExL.pures 1 rfl ?_
                refine ExL.nil ?_
                refine Hand.mk (j + 1) 3 [0, 1, 2] ⟨rfl, trivial⟩ ⟨rfl, rfl, rfl, rfl, rfl, rfl, rfl, rfl, rfl, rfl, rfl, rfl, trivial⟩ (by first | rfl | exact pkR (congrArg (fun z => List.flatMap (eI .i64) z) (by first | exact cc_n (F := (fun k => (K.getD k zX).xs)) (n := K.length) hR (by omega) (.inl (by assumption)) | exact cc_n (F := (fun k => (K.getD k zX).xs)) (n := K.length) hR (by omega) (.inr (by first | assumption | exact goes_f (by assumption))) | exact cc_k (F := (fun k => (K.getD k zX).xs)) (n := K.length) hR (by omega) (by omega)))) rfl (by omega) (by omega)
              · refine ExL.pures 1 rfl ?_
                refine ExL.nil ?_
                refine Ex.cond_f rfl ?_
                refine Ex.skip ?_
                refine Ex.region (ExL.pures 0 rfl ?_)
                refine ExL.free (by first | exact fr_add64 rfl rfl rfl (by omega) | exact fr_add rfl rfl rfl) rfl rfl rfl ?_
                refine ExL.pures 1 rfl ?_
                refine ExL.nil ?_
                refine Hand.mk (j + 1) 3 [0, 1, 2] ⟨rfl, trivial⟩ ⟨rfl, rfl, rfl, rfl, rfl, rfl, rfl, rfl, rfl, rfl, rfl, rfl, trivial⟩ (by first | rfl | exact pkR (congrArg (fun z => List.flatMap (eI .i64) z) (by first | exact cc_n (F := (fun k => (K.getD k zX).xs)) (n := K.length) hR (by omega) (.inl (by assumption)) | exact cc_n (F := (fun k => (K.getD k zX).xs)) (n := K.length) hR (by omega) (.inr (by first | assumption | exact goes_f (by assumption))) | exact cc_k (F := (fun k => (K.getD k zX).xs)) (n := K.length) hR (by omega) (by omega)))) rfl (by omega) (by omega)
      · refine ExL.nil ?_
        refine Ex.seq ?_
        refine Ex.cond_f rfl ?_
        refine Ex.exit ?_
        obtain rfl : j = (K.getD ((K.length - 1 - J.length) + 1) zX).xs.length := (by omega)
        rw [rowC_fin (by omega) (by omega) (by omega) rfl]
        refine Ex.region (ExL.pures 0 rfl ?_)
        refine ExL.free (by first | exact fr_add64 rfl rfl rfl (by omega) | exact fr_add rfl rfl rfl) rfl rfl rfl ?_
        refine ExL.pures 1 rfl ?_
        refine ExL.nil ?_
        refine Hand.mk (i + 1) 3 [0, 1, 2] ⟨rfl, trivial⟩ ⟨rfl, rfl, rfl, rfl, rfl, rfl, rfl, trivial⟩ (rfl) rfl (by omega) (by omega)
    · refine ExL.nil ?_
      refine Ex.seq ?_
      refine Ex.cond_f rfl ?_
      refine Ex.exit ?_
      obtain rfl : i = (K.getD (K.length - 1 - J.length) zX).xs.length := (by omega)
      rw [partC_full (by omega) rfl]
      refine Ex.conv (layX (show (costL lo hi us (fun k => (K.getD k zX).xs) K.length J.length).length = (K.getD (K.length - 1 - J.length) zX).xs.length from cost_ln (by omega)) (perm_lt (i := 0) (j := 2) rfl rfl rfl)) ?_
      refine Ex.region (ExL.pures 1 rfl ?_)
      refine ExL.free (by first | exact fr_sub64 rfl rfl rfl (by omega) | exact fr_sub rfl rfl rfl) rfl rfl rfl ?_
      refine ExL.pures 1 rfl ?_
      refine ExL.nil ?_
      have hJn : (J ++ [(⟨(some ⟨x5, 0, none⟩), (K.getD (K.length - 1 - J.length) zX).xs.length, costL lo hi us (fun k => (K.getD k zX).xs) K.length J.length⟩ : VX Int)]).length = J.length + 1 := by simp
      refine Hand.mk (J ++ [(⟨(some ⟨x5, 0, none⟩), (K.getD (K.length - 1 - J.length) zX).xs.length, costL lo hi us (fun k => (K.getD k zX).xs) K.length J.length⟩ : VX Int)]) 2 [1, 0] ⟨agI (by rw [hJn]; omega), trivial⟩ ⟨rfl, rfl, rfl, rfl, trivial⟩ (rfl) rfl (⟨by rw [hJn]; omega, by rw [hJn]; omega, rk_cost hR⟩) (by rw [hJn]; omega)
  · refine ExL.nil ?_
    refine Ex.cond_f rfl ?_
    refine Ex.exit ?_
    have hJn : J.length = K.length := by omega
    refine Ex.regSeq (ExL.pures 2 rfl ?_)
    refine ExL.nil ?_
    refine Ex.ret ?_
    refine RetQ.mk (r1, J) rfl (.tmp rfl .nil) (rfl) [0, 1] (rfl) rfl (⟨hJn, hR⟩)
theorem e_82 : Enters Try.prog 82 := Enters.of Try.func82 rfl
set_option maxHeartbeats 800000 in
theorem c_costs (v0 : Value) (K : List (VX Int)) (n : Nat) (hfk : FK K n) (lo hi : Int) (hlh : 0 ≤ lo ∧ hi ≤ 1000000000000) (AK : Option Addr) (cK b : Nat) (us : Int) (hus : 0 ≤ us ∧ us ≤ 1000000000000) : Ret Try.prog 82 [.pointer (some ⟨b, 0, none⟩), .int .i64 us] (fun w => Rd w (some ⟨b, 0, none⟩) [v0, .slice AK K.length cK, .int .i64 lo, .int .i64 hi] ∧ Rd w AK (K.flatMap encX) ∧ ∀ k, k < K.length → Rd w (K.getD k zX).A ((K.getD k zX).xs.flatMap (eI .i64))) (fun x : Nat × List (VX Int) => .slice (some ⟨x.1, 0, none⟩) K.length K.length) (fun x => [.row (.slice (some ⟨x.1, 0, none⟩) K.length K.length) 39 1 K.length ((outE x.2 K.length).flatMap encX), .pile (x.2.map (rwX (eI .i64) 2 1))]) (fun x => x.2.length = K.length ∧ ∀ i, i < x.2.length → (x.2.getD i zX).xs = costL lo hi us (fun k => (K.getD k zX).xs) K.length i) := by
  refine Ret.of e_82 Try.func82 rfl Try.ntmps82 rfl rfl (fun w hpre => ?_)
  have hpt := hpre.1.base
  have hKr := hpre.2.1.base
  have hKi := fun k hk => (hpre.2.2 k hk).base
  obtain rfl : n = K.length := hfk.len.symm
  have hfl := hfk.vl
  have hfv := hfk.v
  have hn1 := hfk.n1
  have hm0 : maxLen = 9223372036854775807 := rfl
  have hFa := fk_all hfk
  have hfl := hfk.vl
  have hvl0 := hfl (K.length - 1) (by omega)
  refine Ex.regSeq (ExL.pures 1 rfl ?_)
  refine ExL.nil ?_
  refine Ex.regSeq (ExL.pures 3 rfl ?_)
  refine ExL.free (fr_load rfl rfl rfl rfl (CellO.at 1 (Reads.old hpt) rfl)) rfl rfl rfl ?_
  refine ExL.pures 2 rfl ?_
  refine ExL.nil ?_
  refine Ex.regSeq (ExL.pures 1 rfl ?_)
  refine ExL.op rfl (op_makeSlice (sz := 24) rfl rfl rfl rfl rfl rfl rfl rfl (⟨by omega, by unfold maxLen; omega⟩) rfl rfl (fun r1 => ?_))
  refine ExL.pures 1 rfl ?_
  refine ExL.nil ?_
  refine Ex.seq ?_
  refine Ex.pile0 ?_
  rw [show zerosL [Value.slice none 0 0] K.length = (outE ([] : List (VX Int)) K.length).flatMap encX from zoutE rfl]
  refine Ex.regSeq (ExL.pures 1 rfl ?_)
  refine ExL.free (by first | exact fr_sub64 rfl rfl rfl (by omega) | exact fr_sub rfl rfl rfl) rfl rfl rfl ?_
  refine ExL.pures 1 rfl ?_
  refine ExL.nil ?_
  refine Ex.block ?_
  refine Ex.loopK (X := List (VX Int)) (fun J => [(7, .int .i64 ((K.length : Int) - 1 - J.length))]) (fun J => [.row (.slice (some ⟨r1, 0, none⟩) K.length K.length) 39 1 K.length ((outE J K.length).flatMap encX), .pile (J.map (rwX (eI .i64) 2 1))]) (fun J => J.length ≤ K.length ∧ ∀ i, i < J.length → (J.getD i zX).xs = costL lo hi us (fun k => (K.getD k zX).xs) K.length i) (fun J => K.length - J.length) [] [(0, _), (1, _), (4, _), (5, _), (6, _)] [] 2 [1, 0] ⟨agI (by simp), trivial⟩ ⟨rfl, rfl, rfl, rfl, rfl, trivial⟩ (rfl) rfl ⟨Nat.zero_le _, fun i hi => by simp at hi⟩ (fun J hI => ?_)
  have hI : J.length ≤ K.length ∧ ∀ i, i < J.length → (J.getD i zX).xs = costL lo hi us (fun k => (K.getD k zX).xs) K.length i := hI
  obtain ⟨hJ, hR⟩ := hI
  refine Ex.seq ?_
  refine Ex.regSeq (ExL.pures 1 rfl ?_)
  refine ExL.geq rfl rfl rfl rfl rfl rfl (fun h2 => ?_) (fun h2 => ?_)
  · refine ExL.nil ?_
    refine Ex.cond_t rfl ?_
    refine Ex.skip ?_
    refine Ex.seq ?_
    refine Ex.block ?_
    have hJK : J.length < K.length := by omega
    have hvl := hfl (K.length - 1 - J.length) (by omega)
    have hvl1 : 0 < J.length → 1 ≤ (K.getD ((K.length - 1 - J.length) + 1) zX).xs.length ∧ (K.getD ((K.length - 1 - J.length) + 1) zX).xs.length ≤ 400 := fun h => hfl ((K.length - 1 - J.length) + 1) (by omega)
    have hrl : 0 < J.length → (J.getD (J.length - 1) zX).xs.length = (K.getD ((K.length - 1 - J.length) + 1) zX).xs.length := fun h => by rw [hR _ (by omega), cost_ln (by omega)]; show (K.getD (K.length - 1 - (J.length - 1)) zX).xs.length = _; rw [show K.length - 1 - (J.length - 1) = (K.length - 1 - J.length) + 1 by omega]
    rw [show (K.length : Int) - 1 - J.length = ((K.length - 1 - J.length : Nat) : Int) by omega]
    refine Ex.regSeq (ExL.pures 3 rfl ?_)
    refine ExL.free (fr_load rfl rfl rfl rfl (CellO.at 1 (Reads.old hpt) rfl)) rfl rfl rfl ?_
    refine ExL.pures 1 rfl ?_
    refine ExL.free (fr_indexAddrF (Reads.old hKr) encX_len rfl rfl rfl rfl rfl rfl (by omega)) rfl rfl rfl ?_
    refine ExL.free (fr_load rfl rfl rfl rfl (cellJ (i := ↑(K.length - 1 - J.length)) ((K.length - 1 - J.length)) (Reads.old hKr) encX_len zX 0 rfl (by omega) (by omega) rfl)) rfl rfl rfl ?_
    refine ExL.pures 1 rfl ?_
    refine ExL.op rfl (op_makeSlice (sz := 8) rfl rfl rfl rfl rfl rfl rfl rfl (⟨by omega, by unfold maxLen; omega⟩) rfl rfl (fun r3 => ?_))
    refine ExL.pures 1 rfl ?_
    refine ExL.nil ?_
    refine Ex.seq ?_
    refine Ex.regSeq (ExL.pures 1 rfl ?_)
    refine ExL.nil ?_
    refine Ex.block ?_
    refine Ex.loopK (X := Nat) (fun i => [(9, .int .i64 i)]) (fun i => [.row (.slice (some ⟨r3, 0, none⟩) (K.getD (K.length - 1 - J.length) zX).xs.length (K.getD (K.length - 1 - J.length) zX).xs.length) 2 1 (K.getD (K.length - 1 - J.length) zX).xs.length ((Sx.part 0 (costL lo hi us (fun k => (K.getD k zX).xs) K.length J.length) i).flatMap (eI .i64))]) (fun i => i ≤ (K.getD (K.length - 1 - J.length) zX).xs.length) (fun i => (K.getD (K.length - 1 - J.length) zX).xs.length - i) 0 [(0, _), (1, _), (4, _), (5, _), (6, _), (7, _), (8, _)] [_, _] 3 [0, 1, 2] ⟨rfl, trivial⟩ ⟨rfl, rfl, rfl, rfl, rfl, rfl, rfl, trivial⟩ (pkR (zrowC (by omega) rfl)) rfl (Nat.zero_le _) (fun i hI => ?_)
    have hI : i ≤ (K.getD (K.length - 1 - J.length) zX).xs.length := hI
    refine Ex.seq ?_
    refine Ex.regSeq (ExL.pures 3 rfl ?_)
    refine ExL.lss rfl rfl rfl rfl rfl rfl (fun h4 => ?_) (fun h4 => ?_)
    · refine ExL.pures 3 rfl ?_
      refine ExL.free (by first | exact fr_sub64 rfl rfl rfl (by omega) | exact fr_sub rfl rfl rfl) rfl rfl rfl ?_
      refine ExL.lss rfl rfl rfl rfl rfl rfl (fun h5 => ?_) (fun h5 => ?_)
      · refine ExL.pures 1 rfl ?_
        refine ExL.nil ?_
        refine Ex.cond_t rfl ?_
        refine Ex.skip ?_
        refine Ex.seq ?_
        refine Ex.block ?_
        have hii : i < (K.getD (K.length - 1 - J.length) zX).xs.length := by omega
        have hvi := hFa (K.length - 1 - J.length) i
        have hJ0 : 0 < J.length := by omega
        have hvl2 := hvl1 hJ0
        have hrl2 := hrl hJ0
        refine Ex.regSeq (ExL.pures 2 rfl ?_)
        refine ExL.free (fr_indexAddr (sz := 1) rfl rfl rfl rfl rfl rfl (by omega)) rfl rfl rfl ?_
        refine ExL.op rfl (op_storeRowF (i := 0) rfl rfl rfl rfl rfl rfl rfl rfl (room (eI_len .i64) (k := i) (by rw [partC_len (by omega) (by omega)]; omega) (by simp) rfl) (List.cons_ne_nil _ _) rfl (rowC_00 (by omega) (by omega) (by simp) rfl) ?_)
        refine ExL.nil ?_
        refine Ex.regSeq (ExL.pures 1 rfl ?_)
        refine ExL.nil ?_
        refine Ex.block ?_
        refine Ex.loopK (X := Nat) (fun j => [(10, .int .i64 j)]) (fun j => [.row (.slice (some ⟨r3, 0, none⟩) (K.getD (K.length - 1 - J.length) zX).xs.length (K.getD (K.length - 1 - J.length) zX).xs.length) 2 1 (K.getD (K.length - 1 - J.length) zX).xs.length ((rowC (0) lo hi us (fun k => (K.getD k zX).xs) K.length J.length i j).flatMap (eI .i64))]) (fun j => j ≤ (K.getD ((K.length - 1 - J.length) + 1) zX).xs.length) (fun j => (K.getD ((K.length - 1 - J.length) + 1) zX).xs.length - j) 0 [(0, _), (1, _), (4, _), (5, _), (6, _), (7, _), (8, _), (9, _)] [_, _] 3 [0, 1, 2] ⟨rfl, trivial⟩ ⟨rfl, rfl, rfl, rfl, rfl, rfl, rfl, rfl, trivial⟩ (rfl) rfl (Nat.zero_le _) (fun j hI => ?_)
        have hI : j ≤ (K.getD ((K.length - 1 - J.length) + 1) zX).xs.length := hI
        refine Ex.seq ?_
        refine Ex.regSeq (ExL.pures 4 rfl ?_)
        refine ExL.free (fr_load rfl rfl rfl rfl (CellO.at 1 (Reads.old hpt) rfl)) rfl rfl rfl ?_
        refine ExL.pures 1 rfl ?_
        refine ExL.free (Free.val (((K.length - 1 - J.length) + 1 : Nat) : Int) (fr_add64 rfl rfl rfl (by omega)) (by omega)) rfl rfl rfl ?_
        refine ExL.free (fr_indexAddrF (Reads.old hKr) encX_len rfl rfl rfl rfl rfl rfl (by omega)) rfl rfl rfl ?_
        refine ExL.free (fr_load rfl rfl rfl rfl (cellJ (i := ↑((K.length - 1 - J.length) + 1)) (((K.length - 1 - J.length) + 1)) (Reads.old hKr) encX_len zX 0 rfl (by omega) (by omega) rfl)) rfl rfl rfl ?_
        refine ExL.pures 1 rfl ?_
        refine ExL.lss rfl rfl rfl rfl rfl rfl (fun h6 => ?_) (fun h6 => ?_)
        · refine ExL.nil ?_
          refine Ex.cond_t rfl ?_
          refine Ex.skip ?_
          refine Ex.seq ?_
          refine Ex.block ?_
          have hvj := hFa ((K.length - 1 - J.length) + 1) j
          have hcb := cur_bd (i := i) (j := j) (t := J.length) (n := K.length) (lo := lo) (hi := hi) hFa hus (by omega)
          have hob := co_bd hFa hus hR (by omega) (show J.length - 1 < J.length by omega) j
          have hab := abs_bd hvi hvj hus
          refine Ex.drawSeqM rfl ?_
          refine ExD.take (i := 0) rfl (by kernel_rfl) (pureVal_ok rfl) ((List.Sublist.refl _)) rfl rfl rfl ?_
          refine ExD.take (i := 1) rfl (by kernel_rfl) (pureVal_ok rfl) ((List.Sublist.refl _)) rfl rfl rfl ?_
          refine ExD.take (i := 2) rfl (by kernel_rfl) (pureVal_ok rfl) ((List.Sublist.refl _)) rfl rfl rfl ?_
          refine ExD.take (i := 3) rfl (by kernel_rfl) (fr_load rfl rfl rfl rfl (CellO.at 1 (Reads.old hpt) rfl)) ((List.Sublist.refl _)) rfl rfl rfl ?_
          refine ExD.take (i := 4) rfl (by kernel_rfl) (pureVal_ok rfl) ((List.Sublist.refl _)) rfl rfl rfl ?_
          refine ExD.take (i := 5) rfl (by kernel_rfl) (Free.val (((K.length - 1 - J.length) + 1 : Nat) : Int) (fr_add64 rfl rfl rfl (by omega)) (by omega)) ((List.Sublist.refl _)) rfl rfl rfl ?_
          refine ExD.take (i := 6) rfl (by kernel_rfl) (fr_indexAddrF (Reads.old hKr) encX_len rfl rfl rfl rfl rfl rfl (by omega)) ((List.Sublist.refl _)) rfl rfl rfl ?_
          refine ExD.take (i := 7) rfl (by kernel_rfl) (fr_load rfl rfl rfl rfl (cellJ (i := ↑((K.length - 1 - J.length) + 1)) (((K.length - 1 - J.length) + 1)) (Reads.old hKr) encX_len zX 0 rfl (by omega) (by omega) rfl)) ((List.Sublist.refl _)) rfl rfl rfl ?_
          refine ExD.take (i := 8) rfl (by kernel_rfl) (pureVal_ok rfl) ((List.Sublist.refl _)) rfl rfl rfl ?_
          refine ExD.take (i := 9) rfl (by kernel_rfl) (fr_indexAddrF (Reads.old (hKi (((K.length - 1 - J.length) + 1)) (by omega))) (eI_len .i64) rfl rfl rfl rfl rfl rfl (by omega)) ((List.Sublist.refl _)) rfl rfl rfl ?_
          refine ExD.take (i := 10) rfl (by kernel_rfl) (fr_load rfl rfl rfl rfl (by first | exact cellN (Reads.old (hKi (((K.length - 1 - J.length) + 1)) (by omega))) (eI_len .i64) 0 0 rfl (by omega) rfl | exact cellF (Reads.old (hKi (((K.length - 1 - J.length) + 1)) (by omega))) (eI_len .i64) 0 0 rfl (by omega) rfl)) ((List.Sublist.refl _)) rfl rfl rfl ?_
          refine ExD.take (i := 11) rfl (by kernel_rfl) (pureVal_ok rfl) ((List.Sublist.refl _)) rfl rfl rfl ?_
          refine ExD.take (i := 12) rfl (by kernel_rfl) (pureVal_ok rfl) ((List.Sublist.refl _)) rfl rfl rfl ?_
          refine ExD.take (i := 13) rfl (by kernel_rfl) (pureVal_ok rfl) ((List.Sublist.refl _)) rfl rfl rfl ?_
          refine ExD.take (i := 14) rfl (by kernel_rfl) (fr_load rfl rfl rfl rfl (CellO.at 1 (Reads.old hpt) rfl)) ((List.Sublist.refl _)) rfl rfl rfl ?_
          refine ExD.take (i := 15) rfl (by kernel_rfl) (pureVal_ok rfl) ((List.Sublist.refl _)) rfl rfl rfl ?_
          refine ExD.take (i := 16) rfl (by kernel_rfl) (fr_indexAddrF (Reads.old hKr) encX_len rfl rfl rfl rfl rfl rfl (by omega)) ((List.Sublist.refl _)) rfl rfl rfl ?_
          refine ExD.take (i := 17) rfl (by kernel_rfl) (fr_load rfl rfl rfl rfl (cellJ (i := ↑(K.length - 1 - J.length)) ((K.length - 1 - J.length)) (Reads.old hKr) encX_len zX 0 rfl (by omega) (by omega) rfl)) ((List.Sublist.refl _)) rfl rfl rfl ?_
          refine ExD.take (i := 18) rfl (by kernel_rfl) (pureVal_ok rfl) ((List.Sublist.refl _)) rfl rfl rfl ?_
          refine ExD.take (i := 19) rfl (by kernel_rfl) (fr_indexAddrF (Reads.old (hKi (K.length - 1 - J.length) (by omega))) (eI_len .i64) rfl rfl rfl rfl rfl rfl (by omega)) ((List.Sublist.refl _)) rfl rfl rfl ?_
          refine ExD.take (i := 20) rfl (by kernel_rfl) (fr_load rfl rfl rfl rfl (by first | exact cellN (Reads.old (hKi (K.length - 1 - J.length) (by omega))) (eI_len .i64) 0 0 rfl (by omega) rfl | exact cellF (Reads.old (hKi (K.length - 1 - J.length) (by omega))) (eI_len .i64) 0 0 rfl (by omega) rfl)) ((List.Sublist.refl _)) rfl rfl rfl ?_
          refine ExD.take (i := 21) rfl (by kernel_rfl) (by first | exact fr_sub64 rfl rfl rfl (by omega) | exact fr_sub rfl rfl rfl) ((List.Sublist.refl _)) rfl rfl rfl ?_
          refine ExD.take (i := 22) rfl (by kernel_rfl) (pureVal_ok rfl) ((List.Sublist.refl _)) rfl rfl rfl ?_
          refine ExD.done (by kernel_rfl) ?_
          refine Ex.seq ?_
          refine Ex.drawSeqM rfl ?_
          refine ExD.take (i := 0) rfl (by kernel_rfl) (pureVal_ok rfl) ((List.Sublist.refl _)) rfl rfl rfl ?_
          refine ExD.take (i := 1) rfl (by kernel_rfl) (pureVal_ok rfl) ((List.Sublist.refl _)) rfl rfl rfl ?_
          refine ExD.take (i := 2) rfl (by kernel_rfl) (Free.val (((K.length - 1 - J.length) + 1 : Nat) : Int) (fr_add64 rfl rfl rfl (by omega)) (by omega)) ((List.Sublist.refl _)) rfl rfl rfl ?_
          refine ExD.take (i := 3) rfl (by kernel_rfl) (fr_indexAddr (sz := 1) rfl rfl rfl rfl rfl rfl (by omega)) ((List.Sublist.refl _)) rfl rfl rfl ?_
          refine ExD.take (i := 4) rfl (by kernel_rfl) (fr_load rfl rfl rfl rfl (cellE (r := J.getD (J.length - 1) zX) (i := ↑((K.length - 1 - J.length) + 1)) ((K.length - 1 - J.length) + 1) (Reads.row (i := 1) rfl) encX_len zX 0 rfl (by omega) (by rw [outE_len]; omega) (outE_prev (by omega) (by omega)) rfl)) ((List.Sublist.refl _)) rfl rfl rfl ?_
          refine ExD.take (i := 5) rfl (by kernel_rfl) (pureVal_ok rfl) ((List.Sublist.refl _)) rfl rfl rfl ?_
          refine ExD.take (i := 6) rfl (by kernel_rfl) (fr_indexAddrF (readsX (i := 2) rfl (k := (J.length - 1)) (by omega)) (eI_len .i64) rfl rfl rfl rfl rfl rfl (by omega)) ((List.Sublist.refl _)) rfl rfl rfl ?_
          refine ExD.take (i := 7) rfl (by kernel_rfl) (fr_load rfl rfl rfl rfl (by first | exact cellN (readsX (i := 2) rfl (k := (J.length - 1)) (by omega)) (eI_len .i64) 0 0 rfl (by omega) rfl | exact cellF (readsX (i := 2) rfl (k := (J.length - 1)) (by omega)) (eI_len .i64) 0 0 rfl (by omega) rfl)) ((List.Sublist.refl _)) rfl rfl rfl ?_
          refine ExD.cmp_lss (i := 8) rfl (by kernel_rfl) rfl rfl rfl ((List.Sublist.refl _)) rfl rfl rfl (fun h7 => ?_) (fun h7 => ?_)
          · refine ExD.take (i := 9) rfl (by kernel_rfl) (pureVal_ok rfl) ((List.Sublist.refl _)) rfl rfl rfl ?_
            refine ExD.pass (i := 10) rfl (by kernel_rfl) ((List.Sublist.refl _)) rfl rfl rfl ?_
            refine ExD.pass (i := 11) rfl (by kernel_rfl) ((List.Sublist.refl _)) rfl rfl rfl ?_
            refine ExD.pass (i := 12) rfl (by kernel_rfl) ((List.Sublist.refl _)) rfl rfl rfl ?_
            refine ExD.pass (i := 13) rfl (by kernel_rfl) ((List.Sublist.refl _)) rfl rfl rfl ?_
            refine ExD.pass (i := 14) rfl (by kernel_rfl) ((List.Sublist.refl _)) rfl rfl rfl ?_
            refine ExD.pass (i := 15) rfl (by kernel_rfl) ((List.Sublist.refl _)) rfl rfl rfl ?_
            refine ExD.pass (i := 16) rfl (by kernel_rfl) ((List.Sublist.refl _)) rfl rfl rfl ?_
            refine ExD.pass (i := 17) rfl (by kernel_rfl) ((List.Sublist.refl _)) rfl rfl rfl ?_
            refine ExD.pass (i := 18) rfl (by kernel_rfl) ((List.Sublist.refl _)) rfl rfl rfl ?_
            refine ExD.pass (i := 19) rfl (by kernel_rfl) ((List.Sublist.refl _)) rfl rfl rfl ?_
            refine ExD.pass (i := 20) rfl (by kernel_rfl) ((List.Sublist.refl _)) rfl rfl rfl ?_
            refine ExD.take (i := 21) rfl (by kernel_rfl) (pureVal_ok rfl) ((List.Sublist.refl _)) rfl rfl rfl ?_
            refine ExD.done (by kernel_rfl) ?_
            refine Ex.cond_t rfl ?_
            refine Ex.exit ?_
            refine Ex.region (ExL.pures 1 rfl ?_)
            refine ExL.free (by first | exact fr_add64 rfl rfl rfl (by omega) | exact fr_add rfl rfl rfl) rfl rfl rfl ?_
            refine ExL.pures 1 rfl ?_
            refine ExL.nil ?_
            refine Hand.mk (j + 1) 3 [0, 1, 2] ⟨rfl, trivial⟩ ⟨rfl, rfl, rfl, rfl, rfl, rfl, rfl, rfl, trivial⟩ (by first | rfl | exact pkR (congrArg (fun z => List.flatMap (eI .i64) z) (by first | exact cc_n (F := (fun k => (K.getD k zX).xs)) (n := K.length) hR (by omega) (.inl (by assumption)) | exact cc_n (F := (fun k => (K.getD k zX).xs)) (n := K.length) hR (by omega) (.inr (by first | assumption | exact goes_f (by assumption))) | exact cc_k (F := (fun k => (K.getD k zX).xs)) (n := K.length) hR (by omega) (by omega)))) rfl (by omega) (by omega)
          · refine ExD.take (i := 9) rfl (by kernel_rfl) (pureVal_ok rfl) ((List.Sublist.refl _)) rfl rfl rfl ?_
            refine ExD.take (i := 10) rfl (by kernel_rfl) (pureVal_ok rfl) ((List.Sublist.refl _)) rfl rfl rfl ?_
            refine ExD.take (i := 11) rfl (by kernel_rfl) (pureVal_ok rfl) ((List.Sublist.refl _)) rfl rfl rfl ?_
            refine ExD.take (i := 12) rfl (by kernel_rfl) (pureVal_ok rfl) ((List.Sublist.refl _)) rfl rfl rfl ?_
            refine ExD.take (i := 13) rfl (by kernel_rfl) (pureVal_ok rfl) ((List.Sublist.refl _)) rfl rfl rfl ?_
            refine ExD.take (i := 14) rfl (by kernel_rfl) (fr_load rfl rfl rfl rfl (CellO.at 2 (Reads.old hpt) rfl)) ((List.Sublist.refl _)) rfl rfl rfl ?_
            refine ExD.take (i := 15) rfl (by kernel_rfl) (pureVal_ok rfl) ((List.Sublist.refl _)) rfl rfl rfl ?_
            refine ExD.take (i := 16) rfl (by kernel_rfl) (pureVal_ok rfl) ((List.Sublist.refl _)) rfl rfl rfl ?_
            refine ExD.take (i := 17) rfl (by kernel_rfl) (pureVal_ok rfl) ((List.Sublist.refl _)) rfl rfl rfl ?_
            refine ExD.take (i := 18) rfl (by kernel_rfl) (fr_load rfl rfl rfl rfl (CellO.at 3 (Reads.old hpt) rfl)) ((List.Sublist.refl _)) rfl rfl rfl ?_
            refine ExD.op (i := 19) rfl (by kernel_rfl) rfl (op_ret rfl rfl rfl (c_l00In _ _ _) (fun _ _ => trivial) rfl rfl (fun x8 hx8 => ⟨(List.Sublist.refl _), ?_⟩))
            refine ExD.take (i := 20) rfl (by kernel_rfl) (pureVal_ok rfl) ((List.Sublist.refl _)) rfl rfl rfl ?_
            refine ExD.take (i := 21) rfl (by kernel_rfl) (pureVal_ok rfl) ((List.Sublist.refl _)) rfl rfl rfl ?_
            refine ExD.done (by kernel_rfl) ?_
            refine Ex.cond rfl (fun hb9 => ?_) (fun hb9 => ?_)
            · replace hb9 := nd_t hb9
              refine Ex.exit ?_
              refine Ex.region (ExL.pures 1 rfl ?_)
              refine ExL.free (by first | exact fr_add64 rfl rfl rfl (by omega) | exact fr_add rfl rfl rfl) rfl rfl rfl ?_
              refine ExL.pures 1 rfl ?_
              refine ExL.nil ?_
              refine Hand.mk (j + 1) 3 [0, 1, 2] ⟨rfl, trivial⟩ ⟨rfl, rfl, rfl, rfl, rfl, rfl, rfl, rfl, trivial⟩ (by first | rfl | exact pkR (congrArg (fun z => List.flatMap (eI .i64) z) (by first | exact cc_n (F := (fun k => (K.getD k zX).xs)) (n := K.length) hR (by omega) (.inl (by assumption)) | exact cc_n (F := (fun k => (K.getD k zX).xs)) (n := K.length) hR (by omega) (.inr (by first | assumption | exact goes_f (by assumption))) | exact cc_k (F := (fun k => (K.getD k zX).xs)) (n := K.length) hR (by omega) (by omega)))) rfl (by omega) (by omega)
            · replace hb9 := nd_f hb9
              refine Ex.skip ?_
              refine Ex.drawSeqM rfl ?_
              refine ExD.take (i := 0) rfl (by kernel_rfl) (pureVal_ok rfl) ((List.Sublist.refl _)) rfl rfl rfl ?_
              refine ExD.take (i := 1) rfl (by kernel_rfl) (pureVal_ok rfl) ((List.Sublist.refl _)) rfl rfl rfl ?_
              refine ExD.take (i := 2) rfl (by kernel_rfl) (Free.val (((K.length - 1 - J.length) + 1 : Nat) : Int) (fr_add64 rfl rfl rfl (by omega)) (by omega)) ((List.Sublist.refl _)) rfl rfl rfl ?_
              refine ExD.take (i := 3) rfl (by kernel_rfl) (fr_indexAddr (sz := 1) rfl rfl rfl rfl rfl rfl (by omega)) ((List.Sublist.refl _)) rfl rfl rfl ?_
              refine ExD.take (i := 4) rfl (by kernel_rfl) (fr_load rfl rfl rfl rfl (cellE (r := J.getD (J.length - 1) zX) (i := ↑((K.length - 1 - J.length) + 1)) ((K.length - 1 - J.length) + 1) (Reads.row (i := 1) rfl) encX_len zX 0 rfl (by omega) (by rw [outE_len]; omega) (outE_prev (by omega) (by omega)) rfl)) ((List.Sublist.refl _)) rfl rfl rfl ?_
              refine ExD.take (i := 5) rfl (by kernel_rfl) (pureVal_ok rfl) ((List.Sublist.refl _)) rfl rfl rfl ?_
              refine ExD.take (i := 6) rfl (by kernel_rfl) (fr_indexAddrF (readsX (i := 2) rfl (k := (J.length - 1)) (by omega)) (eI_len .i64) rfl rfl rfl rfl rfl rfl (by omega)) ((List.Sublist.refl _)) rfl rfl rfl ?_
              refine ExD.take (i := 7) rfl (by kernel_rfl) (fr_load rfl rfl rfl rfl (by first | exact cellN (readsX (i := 2) rfl (k := (J.length - 1)) (by omega)) (eI_len .i64) 0 0 rfl (by omega) rfl | exact cellF (readsX (i := 2) rfl (k := (J.length - 1)) (by omega)) (eI_len .i64) 0 0 rfl (by omega) rfl)) ((List.Sublist.refl _)) rfl rfl rfl ?_
              refine ExD.take (i := 8) rfl (by kernel_rfl) (pureVal_ok rfl) ((List.Sublist.refl _)) rfl rfl rfl ?_
              refine ExD.take (i := 9) rfl (by kernel_rfl) (pureVal_ok rfl) ((List.Sublist.refl _)) rfl rfl rfl ?_
              refine ExD.take (i := 10) rfl (by kernel_rfl) (by first | exact fr_sub64 rfl rfl rfl (by omega) | exact fr_sub rfl rfl rfl) ((List.Sublist.refl _)) rfl rfl rfl ?_
              refine ExD.op (i := 11) rfl (by kernel_rfl) rfl (op_ret rfl rfl rfl (c_l05Size ((((K.getD (((K.length - 1 - J.length) + 1)) zX).xs.getD j 0) - ((K.getD (K.length - 1 - J.length) zX).xs.getD i 0)) - us) (by omega)) (fun _ _ => trivial) rfl rfl (fun x10 hx10 => ⟨(List.Sublist.refl _), ?_⟩))
              refine ExD.take (i := 12) rfl (by kernel_rfl) (by first | exact fr_add64 rfl rfl rfl (by omega) | exact fr_add rfl rfl rfl) ((List.Sublist.refl _)) rfl rfl rfl ?_
              refine ExD.take (i := 13) rfl (by kernel_rfl) (pureVal_ok rfl) ((List.Sublist.refl _)) rfl rfl rfl ?_
              refine ExD.done (by kernel_rfl) ?_
              refine Ex.regSeq (ExL.pures 2 rfl ?_)
              refine ExL.free (fr_indexAddr (sz := 1) rfl rfl rfl rfl rfl rfl (by omega)) rfl rfl rfl ?_
              refine ExL.free (fr_load rfl rfl rfl rfl (cellW (v := .int .i64 (curC lo hi us (fun k => (K.getD k zX).xs) K.length J.length i j)) (i := ↑i) i (Reads.row (i := 0) rfl) (eI_len .i64) 0 0 rfl (by omega) (by rw [rowC_len (by omega) (by omega)]; omega) (rowC_at (by omega) (by omega)) rfl)) rfl rfl rfl ?_
              refine ExL.lss rfl rfl rfl rfl rfl rfl (fun h11 => ?_) (fun h11 => ?_)
              · refine ExL.pures 8 rfl ?_
                refine ExL.nil ?_
                refine Ex.cond_t rfl ?_
                refine Ex.region (ExL.pures 3 rfl ?_)
                refine ExL.free (fr_indexAddr (sz := 1) rfl rfl rfl rfl rfl rfl (by omega)) rfl rfl rfl ?_
                refine ExL.op rfl (op_storeRowF (i := 0) rfl rfl rfl rfl rfl rfl rfl rfl (room (eI_len .i64) (k := i) (by rw [rowC_len (by omega) (by omega)]; omega) (by simp) rfl) (List.cons_ne_nil _ _) rfl (rowC_s (by omega) (by omega) (by simp) (congrArg (eI .i64) (cc_y (F := (fun k => (K.getD k zX).xs)) (n := K.length) (lo := lo) (hi := hi) (us := us) (J := J) (i := i) (j := j) hR (by omega) (by omega) (by first | assumption | exact goes_t (by assumption)) (by omega)))) ?_)
                refine ExL.nil ?_
                refine Ex.region (ExL.pures 1 rfl ?_)
                refine ExL.free (by first | exact fr_add64 rfl rfl rfl (by omega) | exact fr_add rfl rfl rfl) rfl rfl rfl ?_
                refine ExL.pures 1 rfl ?_
                refine ExL.nil ?_
                refine Hand.mk (j + 1) 3 [0, 1, 2] ⟨rfl, trivial⟩ ⟨rfl, rfl, rfl, rfl, rfl, rfl, rfl, rfl, trivial⟩ (by first | rfl | exact pkR (congrArg (fun z => List.flatMap (eI .i64) z) (by first | exact cc_n (F := (fun k => (K.getD k zX).xs)) (n := K.length) hR (by omega) (.inl (by assumption)) | exact cc_n (F := (fun k => (K.getD k zX).xs)) (n := K.length) hR (by omega) (.inr (by first | assumption | exact goes_f (by assumption))) | exact cc_k (F := (fun k => (K.getD k zX).xs)) (n := K.length) hR (by omega) (by omega)))) rfl (by omega) (by omega)
              · refine ExL.pures 4 rfl ?_
                refine ExL.free (fr_indexAddr (sz := 1) rfl rfl rfl rfl rfl rfl (by omega)) rfl rfl rfl ?_
                refine ExL.free (fr_load rfl rfl rfl rfl (cellW (v := .int .i64 (curC lo hi us (fun k => (K.getD k zX).xs) K.length J.length i j)) (i := ↑i) i (Reads.row (i := 0) rfl) (eI_len .i64) 0 0 rfl (by omega) (by rw [rowC_len (by omega) (by omega)]; omega) (rowC_at (by omega) (by omega)) rfl)) rfl rfl rfl ?_
                refine ExL.lss rfl rfl rfl rfl rfl rfl (fun h12 => ?_) (fun h12 => ?_)
                · refine ExL.pures 1 rfl ?_
                  refine ExL.nil ?_
                  refine Ex.cond_t rfl ?_
                  refine Ex.region (ExL.pures 3 rfl ?_)
                  refine ExL.free (fr_indexAddr (sz := 1) rfl rfl rfl rfl rfl rfl (by omega)) rfl rfl rfl ?_
                  refine ExL.op rfl (op_storeRowF (i := 0) rfl rfl rfl rfl rfl rfl rfl rfl (room (eI_len .i64) (k := i) (by rw [rowC_len (by omega) (by omega)]; omega) (by simp) rfl) (List.cons_ne_nil _ _) rfl (rowC_s (by omega) (by omega) (by simp) (congrArg (eI .i64) (cc_y (F := (fun k => (K.getD k zX).xs)) (n := K.length) (lo := lo) (hi := hi) (us := us) (J := J) (i := i) (j := j) hR (by omega) (by omega) (by first | assumption | exact goes_t (by assumption)) (by omega)))) ?_)
                  refine ExL.nil ?_
                  refine Ex.region (ExL.pures 1 rfl ?_)
                  refine ExL.free (by first | exact fr_add64 rfl rfl rfl (by omega) | exact fr_add rfl rfl rfl) rfl rfl rfl ?_
                  refine ExL.pures 1 rfl ?_
                  refine ExL.nil ?_
                  refine Hand.mk (j + 1) 3 [0, 1, 2] ⟨rfl, trivial⟩ ⟨rfl, rfl, rfl, rfl, rfl, rfl, rfl, rfl, trivial⟩ (by first | rfl | exact pkR (congrArg (fun z => List.flatMap (eI .i64) z) (by first | exact cc_n (F := (fun k => (K.getD k zX).xs)) (n := K.length) hR (by omega) (.inl (by assumption)) | exact cc_n (F := (fun k => (K.getD k zX).xs)) (n := K.length) hR (by omega) (.inr (by first | assumption | exact goes_f (by assumption))) | exact cc_k (F := (fun k => (K.getD k zX).xs)) (n := K.length) hR (by omega) (by omega)))) rfl (by omega) (by omega)
                · refine ExL.pures 1 rfl ?_
                  refine ExL.nil ?_
                  refine Ex.cond_f rfl ?_
                  refine Ex.skip ?_
                  refine Ex.region (ExL.pures 1 rfl ?_)
                  refine ExL.free (by first | exact fr_add64 rfl rfl rfl (by omega) | exact fr_add rfl rfl rfl) rfl rfl rfl ?_
                  refine ExL.pures 1 rfl ?_
                  refine ExL.nil ?_
                  refine Hand.mk (j + 1) 3 [0, 1, 2] ⟨rfl, trivial⟩ ⟨rfl, rfl, rfl, rfl, rfl, rfl, rfl, rfl, trivial⟩ (by first | rfl | exact pkR (congrArg (fun z => List.flatMap (eI .i64) z) (by first | exact cc_n (F := (fun k => (K.getD k zX).xs)) (n := K.length) hR (by omega) (.inl (by assumption)) | exact cc_n (F := (fun k => (K.getD k zX).xs)) (n := K.length) hR (by omega) (.inr (by first | assumption | exact goes_f (by assumption))) | exact cc_k (F := (fun k => (K.getD k zX).xs)) (n := K.length) hR (by omega) (by omega)))) rfl (by omega) (by omega)
        · refine ExL.nil ?_
          refine Ex.cond_f rfl ?_
          refine Ex.exit ?_
          obtain rfl : j = (K.getD ((K.length - 1 - J.length) + 1) zX).xs.length := (by omega)
          rw [rowC_fin (by omega) (by omega) (by omega) rfl]
          refine Ex.region (ExL.pures 1 rfl ?_)
          refine ExL.free (by first | exact fr_add64 rfl rfl rfl (by omega) | exact fr_add rfl rfl rfl) rfl rfl rfl ?_
          refine ExL.pures 1 rfl ?_
          refine ExL.nil ?_
          refine Hand.mk (i + 1) 3 [0, 1, 2] ⟨rfl, trivial⟩ ⟨rfl, rfl, rfl, rfl, rfl, rfl, rfl, trivial⟩ (rfl) rfl (by omega) (by omega)
      · refine ExL.pures 1 rfl ?_
        refine ExL.nil ?_
        refine Ex.cond_f rfl ?_
        refine Ex.exit ?_
        rw [partC_any (by omega) (by omega)]
        refine Ex.region (ExL.pures 3 rfl ?_)
        refine ExL.free (fr_indexAddr (sz := 1) rfl rfl rfl rfl rfl rfl (by omega)) rfl rfl rfl ?_
        refine ExL.op rfl (op_storeRowF (i := 1) rfl rfl rfl rfl rfl rfl rfl rfl (room encX_len (k := (K.length - 1 - J.length)) (by rw [outE_len]; omega) (by simp) rfl) (List.cons_ne_nil _ _) rfl (outE_put (⟨(some ⟨r3, 0, none⟩), (K.getD (K.length - 1 - J.length) zX).xs.length, costL lo hi us (fun k => (K.getD k zX).xs) K.length J.length⟩ : VX Int) (by omega) (by simp) (by unfold encX; rw [cost_ln (by omega)])) ?_)
        refine ExL.nil ?_
        refine Ex.conv (layX (show (costL lo hi us (fun k => (K.getD k zX).xs) K.length J.length).length = (K.getD (K.length - 1 - J.length) zX).xs.length from cost_ln (by omega)) (perm_lt (i := 0) (j := 2) rfl rfl rfl)) ?_
        refine Ex.region (ExL.pures 1 rfl ?_)
        refine ExL.free (by first | exact fr_sub64 rfl rfl rfl (by omega) | exact fr_sub rfl rfl rfl) rfl rfl rfl ?_
        refine ExL.pures 1 rfl ?_
        refine ExL.nil ?_
        have hJn : (J ++ [(⟨(some ⟨r3, 0, none⟩), (K.getD (K.length - 1 - J.length) zX).xs.length, costL lo hi us (fun k => (K.getD k zX).xs) K.length J.length⟩ : VX Int)]).length = J.length + 1 := by simp
        refine Hand.mk (J ++ [(⟨(some ⟨r3, 0, none⟩), (K.getD (K.length - 1 - J.length) zX).xs.length, costL lo hi us (fun k => (K.getD k zX).xs) K.length J.length⟩ : VX Int)]) 2 [1, 0] ⟨agI (by rw [hJn]; omega), trivial⟩ ⟨rfl, rfl, rfl, rfl, rfl, trivial⟩ (rfl) rfl (⟨by rw [hJn]; omega, rk_cost hR⟩) (by rw [hJn]; omega)
    · refine ExL.pures 6 rfl ?_
      refine ExL.nil ?_
      refine Ex.cond_f rfl ?_
      refine Ex.exit ?_
      rw [partC_any (by omega) (by omega)]
      refine Ex.region (ExL.pures 3 rfl ?_)
      refine ExL.free (fr_indexAddr (sz := 1) rfl rfl rfl rfl rfl rfl (by omega)) rfl rfl rfl ?_
      refine ExL.op rfl (op_storeRowF (i := 1) rfl rfl rfl rfl rfl rfl rfl rfl (room encX_len (k := (K.length - 1 - J.length)) (by rw [outE_len]; omega) (by simp) rfl) (List.cons_ne_nil _ _) rfl (outE_put (⟨(some ⟨r3, 0, none⟩), (K.getD (K.length - 1 - J.length) zX).xs.length, costL lo hi us (fun k => (K.getD k zX).xs) K.length J.length⟩ : VX Int) (by omega) (by simp) (by unfold encX; rw [cost_ln (by omega)])) ?_)
      refine ExL.nil ?_
      refine Ex.conv (layX (show (costL lo hi us (fun k => (K.getD k zX).xs) K.length J.length).length = (K.getD (K.length - 1 - J.length) zX).xs.length from cost_ln (by omega)) (perm_lt (i := 0) (j := 2) rfl rfl rfl)) ?_
      refine Ex.region (ExL.pures 1 rfl ?_)
      refine ExL.free (by first | exact fr_sub64 rfl rfl rfl (by omega) | exact fr_sub rfl rfl rfl) rfl rfl rfl ?_
      refine ExL.pures 1 rfl ?_
      refine ExL.nil ?_
      have hJn : (J ++ [(⟨(some ⟨r3, 0, none⟩), (K.getD (K.length - 1 - J.length) zX).xs.length, costL lo hi us (fun k => (K.getD k zX).xs) K.length J.length⟩ : VX Int)]).length = J.length + 1 := by simp
      refine Hand.mk (J ++ [(⟨(some ⟨r3, 0, none⟩), (K.getD (K.length - 1 - J.length) zX).xs.length, costL lo hi us (fun k => (K.getD k zX).xs) K.length J.length⟩ : VX Int)]) 2 [1, 0] ⟨agI (by rw [hJn]; omega), trivial⟩ ⟨rfl, rfl, rfl, rfl, rfl, trivial⟩ (rfl) rfl (⟨by rw [hJn]; omega, rk_cost hR⟩) (by rw [hJn]; omega)
  · refine ExL.nil ?_
    refine Ex.cond_f rfl ?_
    refine Ex.exit ?_
    have hJn : J.length = K.length := by omega
    refine Ex.regSeq (ExL.pures 2 rfl ?_)
    refine ExL.nil ?_
    refine Ex.ret ?_
    refine RetQ.mk (r1, J) rfl (.tmp rfl .nil) (rfl) [0, 1] (rfl) rfl (⟨hJn, hR⟩)
end Go.Proofs.Ytplljnddhkleaaa
