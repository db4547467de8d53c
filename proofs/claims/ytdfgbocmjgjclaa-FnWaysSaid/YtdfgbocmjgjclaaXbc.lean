/- Several texts, one behind the other. -/
import Derived.Test.YtdfgbocmjgjclaaProg
import Derived.Test.YtdfgbocmjgjclaaXaa
import Derived.Test.YtdfgbocmjgjclaaXab
import Derived.Test.YtdfgbocmjgjclaaXba
import Derived.Test.YtdfgbocmjgjclaaXbb
/- What these functions of the program hand back, each proved by walking its operations. -/
set_option linter.unusedVariables false
set_option linter.unusedSimpArgs false
set_option maxRecDepth 4000
namespace Go.Proofs.Ytdfgbocmjgjclaa
open Go Go.Sx Go.RowKit Go.W Go.Proofs
attribute [local irreducible] Ex ExL ExD Op1 Free RetQ MutQ Reads CellO SegO LoadsAs
theorem e_34 : Enters Try.prog 34 := Enters.of Try.func34 rfl
theorem c_absW (a : Int) (ha : -8000000000000000000 ≤ a ∧ a ≤ 8000000000000000000) : Ret Try.prog 34 [.int .i64 a] (fun w => True) (fun x : Unit => .int .i64 (absW a)) (fun x => []) (fun x => True) := by
  refine Ret.of e_34 Try.func34 rfl Try.ntmps34 rfl rfl (fun w hpre => ?_)
  refine Ex.regSeq (ExL.pures 1 rfl ?_)
  refine ExL.nil ?_
  refine Ex.regSeq (ExL.pures 2 rfl ?_)
  refine ExL.free (by first | exact fr_neg64 rfl rfl (by omega) | exact fr_neg rfl rfl) rfl rfl rfl ?_
  refine ExL.free (fr_max rfl rfl rfl) rfl rfl rfl ?_
  refine ExL.pures 1 rfl ?_
  refine ExL.nil ?_
  refine Ex.ret ?_
  refine RetQ.mk () rfl (.tmp rfl .nil) (tI (by unfold absW; first | (split <;> omega) | (rw [if_pos (by omega)]) | (rw [if_neg (by omega)]))) [] (rfl) rfl (trivial)
theorem e_37 : Enters Try.prog 37 := Enters.of Try.func37 rfl
theorem c_l05Size (a : Int) (ha : -8000000000000000000 ≤ a ∧ a ≤ 8000000000000000000) : Ret Try.prog 37 [.int .i64 a] (fun w => True) (fun x : Unit => .int .i64 (absW a)) (fun x => []) (fun x => True) := by
  refine Ret.of e_37 Try.func37 rfl Try.ntmps37 rfl rfl (fun w hpre => ?_)
  refine Ex.regSeq (ExL.pures 1 rfl ?_)
  refine ExL.nil ?_
  refine Ex.seq ?_
  refine Ex.regSeq (ExL.pures 1 rfl ?_)
  refine ExL.lss rfl rfl rfl rfl rfl rfl (fun h1 => ?_) (fun h1 => ?_)
  · refine ExL.nil ?_
    refine Ex.cond_t rfl ?_
    refine Ex.regSeq (ExL.pures 1 rfl ?_)
    refine ExL.free (by first | exact fr_neg64 rfl rfl (by omega) | exact fr_neg rfl rfl) rfl rfl rfl ?_
    refine ExL.pures 1 rfl ?_
    refine ExL.nil ?_
    refine Ex.ret ?_
    refine RetQ.mk () rfl (.tmp rfl .nil) (tI (by unfold absW; first | (split <;> omega) | (rw [if_pos (by omega)]) | (rw [if_neg (by omega)]))) [] (rfl) rfl (trivial)
  · refine ExL.nil ?_
    refine Ex.cond_f rfl ?_
    refine Ex.skip ?_
    refine Ex.regSeq (ExL.pures 2 rfl ?_)
    refine ExL.nil ?_
    refine Ex.ret ?_
    refine RetQ.mk () rfl (.tmp rfl .nil) (tI (by unfold absW; first | (split <;> omega) | (rw [if_pos (by omega)]) | (rw [if_neg (by omega)]))) [] (rfl) rfl (trivial)
theorem e_33 : Enters Try.prog 33 := Enters.of Try.func33 rfl
set_option maxHeartbeats 800000 in
theorem c_sums (K : List (VX Int)) (n : Nat) (hfk : FK K n) (lo hi : Int) (hlh : 0 ≤ lo ∧ hi ≤ 1000000000000) (AK : Option Addr) (cK b : Nat) (us : Int) (hus : 0 ≤ us ∧ us ≤ 1000000000000) : Ret Try.prog 33 [.pointer (some ⟨b, 0, none⟩), .int .i64 us] (fun w => Rd w (some ⟨b, 0, none⟩) [.slice AK K.length cK, .int .i64 lo, .int .i64 hi] ∧ Rd w AK (K.flatMap encX) ∧ ∀ k, k < K.length → Rd w (K.getD k zX).A ((K.getD k zX).xs.flatMap (eI .i64))) (fun x : Nat × List (VX Int) => .slice (some ⟨x.1, 0, none⟩) K.length K.length) (fun x => [.row (.slice (some ⟨x.1, 0, none⟩) K.length K.length) 26 1 K.length ((outE x.2 K.length).flatMap encX), .pile (x.2.map (rwX (eI .i64) 2 1))]) (fun x => x.2.length = K.length ∧ ∀ i, i < x.2.length → (x.2.getD i zX).xs = costL lo hi us (fun k => (K.getD k zX).xs) K.length i) := by
  refine Ret.of e_33 Try.func33 rfl Try.ntmps33 rfl rfl (fun w hpre => ?_)
  have hpt := hpre.1.base
  have hKr := hpre.2.1.base
  have hKi := fun k hk => (hpre.2.2 k hk).base
  obtain rfl : n = K.length := hfk.len.symm
  have hfl := hfk.vl
  have hfv := hfk.v
  have hn1 := hfk.n1
  have hm0 : maxLen = 9223372036854775807 := rfl
  have hFa := fk_all hfk
  have hfl := hfk.vl
  have hvl0 := hfl (K.length - 1) (by omega)
  refine Ex.regSeq (ExL.pures 1 rfl ?_)
  refine ExL.nil ?_
  refine Ex.regSeq (ExL.pures 3 rfl ?_)
  refine ExL.free (fr_load rfl rfl rfl rfl (CellO.at 0 (Reads.old hpt) rfl)) rfl rfl rfl ?_
  refine ExL.pures 1 rfl ?_
  refine ExL.free (Free.val ((K.length - 1 : Nat) : Int) (fr_sub64 rfl rfl rfl (by omega)) (by omega)) rfl rfl rfl ?_
  refine ExL.pures 1 rfl ?_
  refine ExL.nil ?_
  refine Ex.regSeq (ExL.pures 3 rfl ?_)
  refine ExL.free (fr_load rfl rfl rfl rfl (CellO.at 0 (Reads.old hpt) rfl)) rfl rfl rfl ?_
  refine ExL.pures 1 rfl ?_
  refine ExL.op rfl (op_makeSlice (sz := 24) rfl rfl rfl rfl rfl rfl rfl rfl (⟨by omega, by unfold maxLen; omega⟩) rfl rfl (fun r1 => ?_))
  refine ExL.pures 1 rfl ?_
  refine ExL.nil ?_
  refine Ex.pile0 ?_
  rw [show zerosL [Value.slice none 0 0] K.length = (outE ([] : List (VX Int)) K.length).flatMap encX from zoutE rfl]
  refine Ex.regSeq (ExL.pures 5 rfl ?_)
  refine ExL.free (fr_load rfl rfl rfl rfl (CellO.at 0 (Reads.old hpt) rfl)) rfl rfl rfl ?_
  refine ExL.pures 1 rfl ?_
  refine ExL.free (fr_indexAddrF (Reads.old hKr) encX_len rfl rfl rfl rfl rfl rfl (by omega)) rfl rfl rfl ?_
  refine ExL.free (fr_load rfl rfl rfl rfl (cellJ (i := ↑(K.length - 1)) ((K.length - 1)) (Reads.old hKr) encX_len zX 0 rfl (by omega) (by omega) rfl)) rfl rfl rfl ?_
  refine ExL.pures 1 rfl ?_
  refine ExL.op rfl (op_makeSlice (sz := 8) rfl rfl rfl rfl rfl rfl rfl rfl (⟨by omega, by unfold maxLen; omega⟩) rfl rfl (fun r2 => ?_))
  refine ExL.free (fr_indexAddr (sz := 1) rfl rfl rfl rfl rfl rfl (by omega)) rfl rfl rfl ?_
  refine ExL.op rfl (op_storeRowF (i := 2) rfl rfl rfl rfl rfl rfl rfl rfl (room encX_len (k := K.length - 1) (by rw [outE_len]; omega) (by simp) rfl) (List.cons_ne_nil _ _) rfl (outE_put (J := []) (⟨(some ⟨r2, 0, none⟩), (K.getD (K.length - 1) zX).xs.length, costL lo hi us (fun k => (K.getD k zX).xs) K.length 0⟩ : VX Int) (by simp; omega) (by simp) (by unfold encX; rw [cost_ln (by omega)]; rfl)) ?_)
  refine ExL.nil ?_
  refine Ex.seq ?_
  have hz0 : zerosL [Value.int .i64 0] (K.getD (K.length - 1) zX).xs.length = (costL lo hi us (fun k => (K.getD k zX).xs) K.length 0).flatMap (eI .i64) := zrowC0 (by omega) rfl
  rw [hz0]
  refine Ex.conv (layX (K := []) (show (costL lo hi us (fun k => (K.getD k zX).xs) K.length 0).length = (K.getD (K.length - 1) zX).xs.length from cost_ln (t := 0) (by omega)) (perm_lt (i := 0) (j := 1) rfl rfl rfl)) ?_
  refine Ex.regSeq (ExL.pures 1 rfl ?_)
  refine ExL.free (by first | exact fr_sub64 rfl rfl rfl (by omega) | exact fr_sub rfl rfl rfl) rfl rfl rfl ?_
  refine ExL.pures 1 rfl ?_
  refine ExL.nil ?_
  refine Ex.block ?_
  refine Ex.loopK (X := List (VX Int)) (fun J => [(7, .int .i64 ((K.length : Int) - 1 - J.length))]) (fun J => [.row (.slice (some ⟨r1, 0, none⟩) K.length K.length) 26 1 K.length ((outE J K.length).flatMap encX), .pile (J.map (rwX (eI .i64) 2 1))]) (fun J => 1 ≤ J.length ∧ J.length ≤ K.length ∧ ∀ i, i < J.length → (J.getD i zX).xs = costL lo hi us (fun k => (K.getD k zX).xs) K.length i) (fun J => K.length - J.length) ([(⟨(some ⟨r2, 0, none⟩), (K.getD (K.length - 1) zX).xs.length, costL lo hi us (fun k => (K.getD k zX).xs) K.length 0⟩ : VX Int)]) [(0, _), (1, _), (4, _), (6, _)] [] 2 [1, 0] ⟨agI (by simp; omega), trivial⟩ ⟨rfl, rfl, rfl, rfl, trivial⟩ (rfl) rfl ⟨Nat.le_refl _, hn1.1, rk_one⟩ (fun J hI => ?_)
  have hI : 1 ≤ J.length ∧ J.length ≤ K.length ∧ ∀ i, i < J.length → (J.getD i zX).xs = costL lo hi us (fun k => (K.getD k zX).xs) K.length i := hI
  obtain ⟨hJ0, hJ, hR⟩ := hI
  refine Ex.seq ?_
  refine Ex.regSeq (ExL.pures 1 rfl ?_)
  refine ExL.geq rfl rfl rfl rfl rfl rfl (fun h3 => ?_) (fun h3 => ?_)
  · refine ExL.nil ?_
    refine Ex.cond_t rfl ?_
    refine Ex.skip ?_
    refine Ex.seq ?_
    refine Ex.block ?_
    have hJK : J.length < K.length := by omega
    have hvl := hfl (K.length - 1 - J.length) (by omega)
    have hvl1 := hfl ((K.length - 1 - J.length) + 1) (by omega)
    have hrl : (J.getD (J.length - 1) zX).xs.length = (K.getD ((K.length - 1 - J.length) + 1) zX).xs.length := by rw [hR _ (by omega), cost_ln (by omega)]; show (K.getD (K.length - 1 - (J.length - 1)) zX).xs.length = _; rw [show K.length - 1 - (J.length - 1) = (K.length - 1 - J.length) + 1 by omega]
    rw [show (K.length : Int) - 1 - J.length = ((K.length - 1 - J.length : Nat) : Int) by omega]
    refine Ex.regSeq (ExL.pures 2 rfl ?_)
    refine ExL.op rfl (op_buildSlice (sz := 1) rfl rfl rfl rfl rfl rfl rfl rfl (by decide) rfl rfl rfl (fun r4 => ?_))
    refine ExL.pures 3 rfl ?_
    refine ExL.free (fr_load rfl rfl rfl rfl (CellO.at 0 (Reads.old hpt) rfl)) rfl rfl rfl ?_
    refine ExL.pures 1 rfl ?_
    refine ExL.free (fr_indexAddrF (Reads.old hKr) encX_len rfl rfl rfl rfl rfl rfl (by omega)) rfl rfl rfl ?_
    refine ExL.free (fr_load rfl rfl rfl rfl (cellJ (i := ↑(K.length - 1 - J.length)) ((K.length - 1 - J.length)) (Reads.old hKr) encX_len zX 0 rfl (by omega) (by omega) rfl)) rfl rfl rfl ?_
    refine ExL.pures 1 rfl ?_
    refine ExL.op rfl (op_ret rfl rfl rfl (c_Repeat (-1) _ _ (K.getD (K.length - 1 - J.length) zX).xs.length (by omega)) (Reads.get (Reads.row (i := 0) rfl)) rfl rfl (fun x5 hx5 => ?_))
    refine ExL.free (fr_indexAddr (sz := 1) rfl rfl rfl rfl rfl rfl (by omega)) rfl rfl rfl ?_
    refine ExL.op rfl (op_storeRowF (i := 2) rfl rfl rfl rfl rfl rfl rfl rfl (room encX_len (k := (K.length - 1 - J.length)) (by rw [outE_len]; omega) (by simp) rfl) (List.cons_ne_nil _ _) rfl (outE_put (⟨(some ⟨x5, 0, none⟩), (K.getD (K.length - 1 - J.length) zX).xs.length, costL lo hi us (fun k => (K.getD k zX).xs) K.length J.length⟩ : VX Int) (by omega) (by simp) (by unfold encX; rw [cost_ln (by omega)])) ?_)
    refine ExL.nil ?_
    rw [repC (lo := lo) (hi := hi) (us := us) (F := (fun k => (K.getD k zX).xs)) (n := K.length) (t := J.length) (by omega) rfl]
    refine Ex.regSeq (ExL.pures 3 rfl ?_)
    refine ExL.free (fr_load rfl rfl rfl rfl (CellO.at 0 (Reads.old hpt) rfl)) rfl rfl rfl ?_
    refine ExL.pures 1 rfl ?_
    refine ExL.free (fr_indexAddrF (Reads.old hKr) encX_len rfl rfl rfl rfl rfl rfl (by omega)) rfl rfl rfl ?_
    refine ExL.free (fr_load rfl rfl rfl rfl (cellJ (i := ↑(K.length - 1 - J.length)) ((K.length - 1 - J.length)) (Reads.old hKr) encX_len zX 0 rfl (by omega) (by omega) rfl)) rfl rfl rfl ?_
    refine ExL.pures 2 rfl ?_
    refine ExL.nil ?_
    refine Ex.block ?_
    refine Ex.loopK (X := Nat) (fun i => [(64, .int .i64 i)]) (fun i => [.row (.slice (some ⟨x5, 0, none⟩) (K.getD (K.length - 1 - J.length) zX).xs.length (K.getD (K.length - 1 - J.length) zX).xs.length) 2 1 (K.getD (K.length - 1 - J.length) zX).xs.length ((Sx.part (-1) (costL lo hi us (fun k => (K.getD k zX).xs) K.length J.length) i).flatMap (eI .i64))]) (fun i => i ≤ (K.getD (K.length - 1 - J.length) zX).xs.length) (fun i => (K.getD (K.length - 1 - J.length) zX).xs.length - i) 0 [(0, _), (1, _), (4, _), (6, _), (7, _), (62, _), (63, _)] [_, _] 4 [0, 2, 3] ⟨rfl, trivial⟩ ⟨rfl, rfl, rfl, rfl, rfl, rfl, rfl, trivial⟩ (rfl) rfl (Nat.zero_le _) (fun i hI => ?_)
    have hI : i ≤ (K.getD (K.length - 1 - J.length) zX).xs.length := hI
    refine Ex.regSeq (ExL.pures 0 rfl ?_)
    refine ExL.lss rfl rfl rfl rfl rfl rfl (fun h6 => ?_) (fun h6 => ?_)
    · refine ExL.nil ?_
      refine Ex.seq ?_
      refine Ex.cond_t rfl ?_
      refine Ex.skip ?_
      refine Ex.seq ?_
      refine Ex.block ?_
      have hii : i < (K.getD (K.length - 1 - J.length) zX).xs.length := by omega
      have hvi := hFa (K.length - 1 - J.length) i
      refine Ex.regSeq (ExL.pures 1 rfl ?_)
      refine ExL.free (fr_indexAddrF (Reads.old (hKi (K.length - 1 - J.length) (by omega))) (eI_len .i64) rfl rfl rfl rfl rfl rfl (by omega)) rfl rfl rfl ?_
      refine ExL.free (fr_load rfl rfl rfl rfl (by first | exact cellN (Reads.old (hKi (K.length - 1 - J.length) (by omega))) (eI_len .i64) 0 0 rfl (by omega) rfl | exact cellF (Reads.old (hKi (K.length - 1 - J.length) (by omega))) (eI_len .i64) 0 0 rfl (by omega) rfl)) rfl rfl rfl ?_
      refine ExL.pures 2 rfl ?_
      refine ExL.nil ?_
      refine Ex.regSeq (ExL.pures 3 rfl ?_)
      refine ExL.free (fr_load rfl rfl rfl rfl (CellO.at 0 (Reads.old hpt) rfl)) rfl rfl rfl ?_
      refine ExL.pures 1 rfl ?_
      refine ExL.free (Free.val (((K.length - 1 - J.length) + 1 : Nat) : Int) (fr_add64 rfl rfl rfl (by omega)) (by omega)) rfl rfl rfl ?_
      refine ExL.free (fr_indexAddrF (Reads.old hKr) encX_len rfl rfl rfl rfl rfl rfl (by omega)) rfl rfl rfl ?_
      refine ExL.free (fr_load rfl rfl rfl rfl (cellJ (i := ↑((K.length - 1 - J.length) + 1)) (((K.length - 1 - J.length) + 1)) (Reads.old hKr) encX_len zX 0 rfl (by omega) (by omega) rfl)) rfl rfl rfl ?_
      refine ExL.pures 2 rfl ?_
      refine ExL.nil ?_
      refine Ex.block ?_
      refine Ex.loopK (X := Nat) (fun j => [(78, .int .i64 j)]) (fun j => [.row (.slice (some ⟨x5, 0, none⟩) (K.getD (K.length - 1 - J.length) zX).xs.length (K.getD (K.length - 1 - J.length) zX).xs.length) 2 1 (K.getD (K.length - 1 - J.length) zX).xs.length ((rowC (-1) lo hi us (fun k => (K.getD k zX).xs) K.length J.length i j).flatMap (eI .i64))]) (fun j => j ≤ (K.getD ((K.length - 1 - J.length) + 1) zX).xs.length) (fun j => (K.getD ((K.length - 1 - J.length) + 1) zX).xs.length - j) 0 [(0, _), (1, _), (4, _), (6, _), (7, _), (8, _), (9, _), (62, _), (63, _), (64, _), (76, _), (77, _)] [_, _] 3 [0, 1, 2] ⟨rfl, trivial⟩ ⟨rfl, rfl, rfl, rfl, rfl, rfl, rfl, rfl, rfl, rfl, rfl, rfl, trivial⟩ (pkR (congrArg (fun z => List.flatMap (eI .i64) z) (rowC_0 (by omega) (by omega)))) rfl (Nat.zero_le _) (fun j hI => ?_)
      have hI : j ≤ (K.getD ((K.length - 1 - J.length) + 1) zX).xs.length := hI
      refine Ex.regSeq (ExL.pures 0 rfl ?_)
      refine ExL.lss rfl rfl rfl rfl rfl rfl (fun h7 => ?_) (fun h7 => ?_)
      · refine ExL.nil ?_
        refine Ex.seq ?_
        refine Ex.cond_t rfl ?_
        refine Ex.skip ?_
        refine Ex.seq ?_
        refine Ex.block ?_
        have hvj := hFa ((K.length - 1 - J.length) + 1) j
        have hcb := cur_bd (i := i) (j := j) (t := J.length) (n := K.length) (lo := lo) (hi := hi) hFa hus (by omega)
        have hob := co_bd hFa hus hR (by omega) (show J.length - 1 < J.length by omega) j
        have hab := abs_bd hvi hvj hus
        refine Ex.regSeq (ExL.pures 1 rfl ?_)
        refine ExL.free (fr_indexAddrF (Reads.old (hKi (((K.length - 1 - J.length) + 1)) (by omega))) (eI_len .i64) rfl rfl rfl rfl rfl rfl (by omega)) rfl rfl rfl ?_
        refine ExL.free (fr_load rfl rfl rfl rfl (by first | exact cellN (Reads.old (hKi (((K.length - 1 - J.length) + 1)) (by omega))) (eI_len .i64) 0 0 rfl (by omega) rfl | exact cellF (Reads.old (hKi (((K.length - 1 - J.length) + 1)) (by omega))) (eI_len .i64) 0 0 rfl (by omega) rfl)) rfl rfl rfl ?_
        refine ExL.pures 2 rfl ?_
        refine ExL.nil ?_
        refine Ex.seq ?_
        refine Ex.regSeq (ExL.pures 2 rfl ?_)
        refine ExL.free (Free.val (((K.length - 1 - J.length) + 1 : Nat) : Int) (fr_add64 rfl rfl rfl (by omega)) (by omega)) rfl rfl rfl ?_
        refine ExL.free (fr_indexAddr (sz := 1) rfl rfl rfl rfl rfl rfl (by omega)) rfl rfl rfl ?_
        refine ExL.free (fr_load rfl rfl rfl rfl (cellE (r := J.getD (J.length - 1) zX) (i := ↑((K.length - 1 - J.length) + 1)) ((K.length - 1 - J.length) + 1) (Reads.row (i := 1) rfl) encX_len zX 0 rfl (by omega) (by rw [outE_len]; omega) (outE_next (by omega) (by omega)) rfl)) rfl rfl rfl ?_
        refine ExL.pures 1 rfl ?_
        refine ExL.free (fr_indexAddrF (readsX (i := 2) rfl (k := (J.length - 1)) (by omega)) (eI_len .i64) rfl rfl rfl rfl rfl rfl (by omega)) rfl rfl rfl ?_
        refine ExL.free (fr_load rfl rfl rfl rfl (by first | exact cellN (readsX (i := 2) rfl (k := (J.length - 1)) (by omega)) (eI_len .i64) 0 0 rfl (by omega) rfl | exact cellF (readsX (i := 2) rfl (k := (J.length - 1)) (by omega)) (eI_len .i64) 0 0 rfl (by omega) rfl)) rfl rfl rfl ?_
        refine ExL.lss rfl rfl rfl rfl rfl rfl (fun h8 => ?_) (fun h8 => ?_)
        · refine ExL.pures 7 rfl ?_
          refine ExL.nil ?_
          refine Ex.cond_t rfl ?_
          refine Ex.exit ?_
          refine Ex.region (ExL.pures 0 rfl ?_)
          refine ExL.free (by first | exact fr_add64 rfl rfl rfl (by omega) | exact fr_add rfl rfl rfl) rfl rfl rfl ?_
          refine ExL.pures 1 rfl ?_
          refine ExL.nil ?_
          refine Hand.mk (j + 1) 3 [0, 1, 2] ⟨rfl, trivial⟩ ⟨rfl, rfl, rfl, rfl, rfl, rfl, rfl, rfl, rfl, rfl, rfl, rfl, trivial⟩ (by first | rfl | exact pkR (congrArg (fun z => List.flatMap (eI .i64) z) (by first | exact cc_n (F := (fun k => (K.getD k zX).xs)) (n := K.length) hR (by omega) (.inl (by assumption)) | exact cc_n (F := (fun k => (K.getD k zX).xs)) (n := K.length) hR (by omega) (.inr (by first | assumption | exact goes_f (by assumption))) | exact cc_k (F := (fun k => (K.getD k zX).xs)) (n := K.length) hR (by omega) (by omega)))) rfl (by omega) (by omega)
        · refine ExL.pures 4 rfl ?_
          refine ExL.op rfl (op_ret rfl rfl rfl (c_goes _ lo hi (by omega) _ ((K.getD (K.length - 1 - J.length) zX).xs.getD i 0) ((K.getD (((K.length - 1 - J.length) + 1)) zX).xs.getD j 0) (by omega) (by omega)) (Reads.get (Reads.old hpt)) rfl rfl (fun x9 hx9 => ?_))
          refine ExL.pures 2 rfl ?_
          refine ExL.nil ?_
          refine Ex.cond rfl (fun hb10 => ?_) (fun hb10 => ?_)
          · replace hb10 := nb_t hb10
            refine Ex.exit ?_
            refine Ex.region (ExL.pures 0 rfl ?_)
            refine ExL.free (by first | exact fr_add64 rfl rfl rfl (by omega) | exact fr_add rfl rfl rfl) rfl rfl rfl ?_
            refine ExL.pures 1 rfl ?_
            refine ExL.nil ?_
            refine Hand.mk (j + 1) 3 [0, 1, 2] ⟨rfl, trivial⟩ ⟨rfl, rfl, rfl, rfl, rfl, rfl, rfl, rfl, rfl, rfl, rfl, rfl, trivial⟩ (by first | rfl | exact pkR (congrArg (fun z => List.flatMap (eI .i64) z) (by first | exact cc_n (F := (fun k => (K.getD k zX).xs)) (n := K.length) hR (by omega) (.inl (by assumption)) | exact cc_n (F := (fun k => (K.getD k zX).xs)) (n := K.length) hR (by omega) (.inr (by first | assumption | exact goes_f (by assumption))) | exact cc_k (F := (fun k => (K.getD k zX).xs)) (n := K.length) hR (by omega) (by omega)))) rfl (by omega) (by omega)
          · replace hb10 := nb_f hb10
            refine Ex.skip ?_
            refine Ex.drawSeqM rfl ?_
            refine ExD.take (i := 0) rfl (by kernel_rfl) (pureVal_ok rfl) ((List.Sublist.refl _)) rfl rfl rfl ?_
            refine ExD.take (i := 1) rfl (by kernel_rfl) (pureVal_ok rfl) ((List.Sublist.refl _)) rfl rfl rfl ?_
            refine ExD.take (i := 2) rfl (by kernel_rfl) (Free.val (((K.length - 1 - J.length) + 1 : Nat) : Int) (fr_add64 rfl rfl rfl (by omega)) (by omega)) ((List.Sublist.refl _)) rfl rfl rfl ?_
            refine ExD.take (i := 3) rfl (by kernel_rfl) (fr_indexAddr (sz := 1) rfl rfl rfl rfl rfl rfl (by omega)) ((List.Sublist.refl _)) rfl rfl rfl ?_
            refine ExD.take (i := 4) rfl (by kernel_rfl) (fr_load rfl rfl rfl rfl (cellE (r := J.getD (J.length - 1) zX) (i := ↑((K.length - 1 - J.length) + 1)) ((K.length - 1 - J.length) + 1) (Reads.row (i := 1) rfl) encX_len zX 0 rfl (by omega) (by rw [outE_len]; omega) (outE_next (by omega) (by omega)) rfl)) ((List.Sublist.refl _)) rfl rfl rfl ?_
            refine ExD.take (i := 5) rfl (by kernel_rfl) (pureVal_ok rfl) ((List.Sublist.refl _)) rfl rfl rfl ?_
            refine ExD.take (i := 6) rfl (by kernel_rfl) (fr_indexAddrF (readsX (i := 2) rfl (k := (J.length - 1)) (by omega)) (eI_len .i64) rfl rfl rfl rfl rfl rfl (by omega)) ((List.Sublist.refl _)) rfl rfl rfl ?_
            refine ExD.take (i := 7) rfl (by kernel_rfl) (fr_load rfl rfl rfl rfl (by first | exact cellN (readsX (i := 2) rfl (k := (J.length - 1)) (by omega)) (eI_len .i64) 0 0 rfl (by omega) rfl | exact cellF (readsX (i := 2) rfl (k := (J.length - 1)) (by omega)) (eI_len .i64) 0 0 rfl (by omega) rfl)) ((List.Sublist.refl _)) rfl rfl rfl ?_
            refine ExD.take (i := 8) rfl (by kernel_rfl) (pureVal_ok rfl) ((List.Sublist.refl _)) rfl rfl rfl ?_
            refine ExD.take (i := 9) rfl (by kernel_rfl) (pureVal_ok rfl) ((List.Sublist.refl _)) rfl rfl rfl ?_
            refine ExD.take (i := 10) rfl (by kernel_rfl) (by first | exact fr_sub64 rfl rfl rfl (by omega) | exact fr_sub rfl rfl rfl) ((List.Sublist.refl _)) rfl rfl rfl ?_
            refine ExD.take (i := 11) rfl (by kernel_rfl) (pureVal_ok rfl) ((List.Sublist.refl _)) rfl rfl rfl ?_
            refine ExD.take (i := 12) rfl (by kernel_rfl) (by first | exact fr_sub64 rfl rfl rfl (by omega) | exact fr_sub rfl rfl rfl) ((List.Sublist.refl _)) rfl rfl rfl ?_
            refine ExD.op (i := 13) rfl (by kernel_rfl) rfl (op_ret rfl rfl rfl (c_absW ((((K.getD (((K.length - 1 - J.length) + 1)) zX).xs.getD j 0) - ((K.getD (K.length - 1 - J.length) zX).xs.getD i 0)) - us) (by omega)) (fun _ _ => trivial) rfl rfl (fun x11 hx11 => ⟨(List.Sublist.refl _), ?_⟩))
            refine ExD.take (i := 14) rfl (by kernel_rfl) (by first | exact fr_add64 rfl rfl rfl (by omega) | exact fr_add rfl rfl rfl) ((List.Sublist.refl _)) rfl rfl rfl ?_
            refine ExD.take (i := 15) rfl (by kernel_rfl) (pureVal_ok rfl) ((List.Sublist.refl _)) rfl rfl rfl ?_
            refine ExD.done (by kernel_rfl) ?_
            refine Ex.regSeq (ExL.pures 2 rfl ?_)
            refine ExL.free (fr_indexAddr (sz := 1) rfl rfl rfl rfl rfl rfl (by omega)) rfl rfl rfl ?_
            refine ExL.free (fr_load rfl rfl rfl rfl (cellE (v := .slice (some ⟨x5, 0, none⟩) (K.getD (K.length - 1 - J.length) zX).xs.length (K.getD (K.length - 1 - J.length) zX).xs.length) (i := ↑(K.length - 1 - J.length)) (K.length - 1 - J.length) (Reads.row (i := 1) rfl) encX_len zX 0 rfl (by omega) (by rw [outE_len]; omega) (outE_last (by omega)) (by unfold encX; rw [cost_ln (by omega)]; rfl))) rfl rfl rfl ?_
            refine ExL.pures 1 rfl ?_
            refine ExL.free (fr_indexAddr (sz := 1) rfl rfl rfl rfl rfl rfl (by omega)) rfl rfl rfl ?_
            refine ExL.free (fr_load rfl rfl rfl rfl (cellW (v := .int .i64 (curC lo hi us (fun k => (K.getD k zX).xs) K.length J.length i j)) (i := ↑i) i (Reads.row (i := 0) rfl) (eI_len .i64) 0 0 rfl (by omega) (by rw [rowC_len (by omega) (by omega)]; omega) (rowC_at (by omega) (by omega)) rfl)) rfl rfl rfl ?_
            refine ExL.lss rfl rfl rfl rfl rfl rfl (fun h12 => ?_) (fun h12 => ?_)
            · refine ExL.pures 11 rfl ?_
              refine ExL.nil ?_
              refine Ex.cond_t rfl ?_
              refine Ex.region (ExL.pures 2 rfl ?_)
              refine ExL.free (fr_indexAddr (sz := 1) rfl rfl rfl rfl rfl rfl (by omega)) rfl rfl rfl ?_
              refine ExL.free (fr_load rfl rfl rfl rfl (cellE (v := .slice (some ⟨x5, 0, none⟩) (K.getD (K.length - 1 - J.length) zX).xs.length (K.getD (K.length - 1 - J.length) zX).xs.length) (i := ↑(K.length - 1 - J.length)) (K.length - 1 - J.length) (Reads.row (i := 1) rfl) encX_len zX 0 rfl (by omega) (by rw [outE_len]; omega) (outE_last (by omega)) (by unfold encX; rw [cost_ln (by omega)]; rfl))) rfl rfl rfl ?_
              refine ExL.pures 2 rfl ?_
              refine ExL.free (fr_indexAddr (sz := 1) rfl rfl rfl rfl rfl rfl (by omega)) rfl rfl rfl ?_
              refine ExL.op rfl (op_storeRowF (i := 0) rfl rfl rfl rfl rfl rfl rfl rfl (room (eI_len .i64) (k := i) (by rw [rowC_len (by omega) (by omega)]; omega) (by simp) rfl) (List.cons_ne_nil _ _) rfl (rowC_s (by omega) (by omega) (by simp) (congrArg (eI .i64) (cc_y (F := (fun k => (K.getD k zX).xs)) (n := K.length) (lo := lo) (hi := hi) (us := us) (J := J) (i := i) (j := j) hR (by omega) (by omega) (by first | assumption | exact goes_t (by assumption)) (by omega)))) ?_)
              refine ExL.nil ?_
              refine Ex.region (ExL.pures 0 rfl ?_)
              refine ExL.free (by first | exact fr_add64 rfl rfl rfl (by omega) | exact fr_add rfl rfl rfl) rfl rfl rfl ?_
              refine ExL.pures 1 rfl ?_
              refine ExL.nil ?_
              refine Hand.mk (j + 1) 3 [0, 1, 2] ⟨rfl, trivial⟩ ⟨rfl, rfl, rfl, rfl, rfl, rfl, rfl, rfl, rfl, rfl, rfl, rfl, trivial⟩ (by first | rfl | exact pkR (congrArg (fun z => List.flatMap (eI .i64) z) (by first | exact cc_n (F := (fun k => (K.getD k zX).xs)) (n := K.length) hR (by omega) (.inl (by assumption)) | exact cc_n (F := (fun k => (K.getD k zX).xs)) (n := K.length) hR (by omega) (.inr (by first | assumption | exact goes_f (by assumption))) | exact cc_k (F := (fun k => (K.getD k zX).xs)) (n := K.length) hR (by omega) (by omega)))) rfl (by omega) (by omega)
            · refine ExL.pures 4 rfl ?_
              refine ExL.free (fr_indexAddr (sz := 1) rfl rfl rfl rfl rfl rfl (by omega)) rfl rfl rfl ?_
              refine ExL.free (fr_load rfl rfl rfl rfl (cellE (v := .slice (some ⟨x5, 0, none⟩) (K.getD (K.length - 1 - J.length) zX).xs.length (K.getD (K.length - 1 - J.length) zX).xs.length) (i := ↑(K.length - 1 - J.length)) (K.length - 1 - J.length) (Reads.row (i := 1) rfl) encX_len zX 0 rfl (by omega) (by rw [outE_len]; omega) (outE_last (by omega)) (by unfold encX; rw [cost_ln (by omega)]; rfl))) rfl rfl rfl ?_
              refine ExL.pures 1 rfl ?_
              refine ExL.free (fr_indexAddr (sz := 1) rfl rfl rfl rfl rfl rfl (by omega)) rfl rfl rfl ?_
              refine ExL.free (fr_load rfl rfl rfl rfl (cellW (v := .int .i64 (curC lo hi us (fun k => (K.getD k zX).xs) K.length J.length i j)) (i := ↑i) i (Reads.row (i := 0) rfl) (eI_len .i64) 0 0 rfl (by omega) (by rw [rowC_len (by omega) (by omega)]; omega) (rowC_at (by omega) (by omega)) rfl)) rfl rfl rfl ?_
              refine ExL.lss rfl rfl rfl rfl rfl rfl (fun h13 => ?_) (fun h13 => ?_)
              · refine ExL.pures 1 rfl ?_
                refine ExL.nil ?_
                refine Ex.cond_t rfl ?_
                refine Ex.region (ExL.pures 2 rfl ?_)
                refine ExL.free (fr_indexAddr (sz := 1) rfl rfl rfl rfl rfl rfl (by omega)) rfl rfl rfl ?_
                refine ExL.free (fr_load rfl rfl rfl rfl (cellE (v := .slice (some ⟨x5, 0, none⟩) (K.getD (K.length - 1 - J.length) zX).xs.length (K.getD (K.length - 1 - J.length) zX).xs.length) (i := ↑(K.length - 1 - J.length)) (K.length - 1 - J.length) (Reads.row (i := 1) rfl) encX_len zX 0 rfl (by omega) (by rw [outE_len]; omega) (outE_last (by omega)) (by unfold encX; rw [cost_ln (by omega)]; rfl))) rfl rfl rfl ?_
                refine ExL.pures 2 rfl ?_
                refine ExL.free (fr_indexAddr (sz := 1) rfl rfl rfl rfl rfl rfl (by omega)) rfl rfl rfl ?_
                refine ExL.op rfl (op_storeRowF (i := 0) rfl rfl rfl rfl rfl rfl rfl rfl (room (eI_len .i64) (k := i) (by rw [rowC_len (by omega) (by omega)]; omega) (by simp) rfl) (List.cons_ne_nil _ _) rfl (rowC_s (by omega) (by omega) (by simp) (congrArg (eI .i64) (cc_y (F := (fun k => (K.getD k zX).xs)) (n := K.length) (lo := lo) (hi := hi) (us := us) (J := J) (i := i) (j := j) hR (by omega) (by omega) (by first | assumption | exact goes_t (by assumption)) (by omega)))) ?_)
                refine ExL.nil ?_
                refine Ex.region (ExL.pures 0 rfl ?_)
                refine ExL.free (by first | exact fr_add64 rfl rfl rfl (by omega) | exact fr_add rfl rfl rfl) rfl rfl rfl ?_
                refine ExL.pures 1 rfl ?_
                refine ExL.nil ?_
                refine Hand.mk (j + 1) 3 [0, 1, 2] ⟨rfl, trivial⟩ ⟨rfl, rfl, rfl, rfl, rfl, rfl, rfl, rfl, rfl, rfl, rfl, rfl, trivial⟩ (by first | rfl | exact pkR (congrArg (fun z => List.flatMap (eI .i64) z) (by first | exact cc_n (F := (fun k => (K.getD k zX).xs)) (n := K.length) hR (by omega) (.inl (by assumption)) | exact cc_n (F := (fun k => (K.getD k zX).xs)) (n := K.length) hR (by omega) (.inr (by first | assumption | exact goes_f (by assumption))) | exact cc_k (F := (fun k => (K.getD k zX).xs)) (n := K.length) hR (by omega) (by omega)))) rfl (by omega) (by omega)
              · refine ExL.pures 1 rfl ?_
                refine ExL.nil ?_
                refine Ex.cond_f rfl ?_
                refine Ex.skip ?_
                refine Ex.region (ExL.pures 0 rfl ?_)
                refine ExL.free (by first | exact fr_add64 rfl rfl rfl (by omega) | exact fr_add rfl rfl rfl) rfl rfl rfl ?_
                refine ExL.pures 1 rfl ?_
                refine ExL.nil ?_
                refine Hand.mk (j + 1) 3 [0, 1, 2] ⟨rfl, trivial⟩ ⟨rfl, rfl, rfl, rfl, rfl, rfl, rfl, rfl, rfl, rfl, rfl, rfl, trivial⟩ (by first | rfl | exact pkR (congrArg (fun z => List.flatMap (eI .i64) z) (by first | exact cc_n (F := (fun k => (K.getD k zX).xs)) (n := K.length) hR (by omega) (.inl (by assumption)) | exact cc_n (F := (fun k => (K.getD k zX).xs)) (n := K.length) hR (by omega) (.inr (by first | assumption | exact goes_f (by assumption))) | exact cc_k (F := (fun k => (K.getD k zX).xs)) (n := K.length) hR (by omega) (by omega)))) rfl (by omega) (by omega)
      · refine ExL.nil ?_
        refine Ex.seq ?_
        refine Ex.cond_f rfl ?_
        refine Ex.exit ?_
        obtain rfl : j = (K.getD ((K.length - 1 - J.length) + 1) zX).xs.length := (by omega)
        rw [rowC_fin (by omega) (by omega) (by omega) rfl]
        refine Ex.region (ExL.pures 0 rfl ?_)
        refine ExL.free (by first | exact fr_add64 rfl rfl rfl (by omega) | exact fr_add rfl rfl rfl) rfl rfl rfl ?_
        refine ExL.pures 1 rfl ?_
        refine ExL.nil ?_
        refine Hand.mk (i + 1) 3 [0, 1, 2] ⟨rfl, trivial⟩ ⟨rfl, rfl, rfl, rfl, rfl, rfl, rfl, trivial⟩ (rfl) rfl (by omega) (by omega)
    · refine ExL.nil ?_
      refine Ex.seq ?_
      refine Ex.cond_f rfl ?_
      refine Ex.exit ?_
      obtain rfl : i = (K.getD (K.length - 1 - J.length) zX).xs.length := (by omega)
      rw [partC_full (by omega) rfl]
      refine Ex.conv (layX (show (costL lo hi us (fun k => (K.getD k zX).xs) K.length J.length).length = (K.getD (K.length - 1 - J.length) zX).xs.length from cost_ln (by omega)) (perm_lt (i := 0) (j := 2) rfl rfl rfl)) ?_
      refine Ex.region (ExL.pures 1 rfl ?_)
      refine ExL.free (by first | exact fr_sub64 rfl rfl rfl (by omega) | exact fr_sub rfl rfl rfl) rfl rfl rfl ?_
      refine ExL.pures 1 rfl ?_
      refine ExL.nil ?_
      have hJn : (J ++ [(⟨(some ⟨x5, 0, none⟩), (K.getD (K.length - 1 - J.length) zX).xs.length, costL lo hi us (fun k => (K.getD k zX).xs) K.length J.length⟩ : VX Int)]).length = J.length + 1 := by simp
      refine Hand.mk (J ++ [(⟨(some ⟨x5, 0, none⟩), (K.getD (K.length - 1 - J.length) zX).xs.length, costL lo hi us (fun k => (K.getD k zX).xs) K.length J.length⟩ : VX Int)]) 2 [1, 0] ⟨agI (by rw [hJn]; omega), trivial⟩ ⟨rfl, rfl, rfl, rfl, trivial⟩ (rfl) rfl (⟨by rw [hJn]; omega, by rw [hJn]; omega, rk_cost hR⟩) (by rw [hJn]; omega)
  · refine ExL.nil ?_
    refine Ex.cond_f rfl ?_
    refine Ex.exit ?_
    have hJn : J.length = K.length := by omega
    refine Ex.regSeq (ExL.pures 2 rfl ?_)
    refine ExL.nil ?_
    refine Ex.ret ?_
    refine RetQ.mk (r1, J) rfl (.tmp rfl .nil) (rfl) [0, 1] (rfl) rfl (⟨hJn, hR⟩)
theorem e_36 : Enters Try.prog 36 := Enters.of Try.func36 rfl
set_option maxHeartbeats 800000 in
theorem c_costs (v0 : Value) (K : List (VX Int)) (n : Nat) (hfk : FK K n) (lo hi : Int) (hlh : 0 ≤ lo ∧ hi ≤ 1000000000000) (AK : Option Addr) (cK b : Nat) (us : Int) (hus : 0 ≤ us ∧ us ≤ 1000000000000) : Ret Try.prog 36 [.pointer (some ⟨b, 0, none⟩), .int .i64 us] (fun w => Rd w (some ⟨b, 0, none⟩) [v0, .slice AK K.length cK, .int .i64 lo, .int .i64 hi] ∧ Rd w AK (K.flatMap encX) ∧ ∀ k, k < K.length → Rd w (K.getD k zX).A ((K.getD k zX).xs.flatMap (eI .i64))) (fun x : Nat × List (VX Int) => .slice (some ⟨x.1, 0, none⟩) K.length K.length) (fun x => [.row (.slice (some ⟨x.1, 0, none⟩) K.length K.length) 26 1 K.length ((outE x.2 K.length).flatMap encX), .pile (x.2.map (rwX (eI .i64) 2 1))]) (fun x => x.2.length = K.length ∧ ∀ i, i < x.2.length → (x.2.getD i zX).xs = costL lo hi us (fun k => (K.getD k zX).xs) K.length i) := by
  refine Ret.of e_36 Try.func36 rfl Try.ntmps36 rfl rfl (fun w hpre => ?_)
  have hpt := hpre.1.base
  have hKr := hpre.2.1.base
  have hKi := fun k hk => (hpre.2.2 k hk).base
  obtain rfl : n = K.length := hfk.len.symm
  have hfl := hfk.vl
  have hfv := hfk.v
  have hn1 := hfk.n1
  have hm0 : maxLen = 9223372036854775807 := rfl
  have hFa := fk_all hfk
  have hfl := hfk.vl
  have hvl0 := hfl (K.length - 1) (by omega)
  refine Ex.regSeq (ExL.pures 1 rfl ?_)
  refine ExL.nil ?_
  refine Ex.regSeq (ExL.pures 3 rfl ?_)
  refine ExL.free (fr_load rfl rfl rfl rfl (CellO.at 1 (Reads.old hpt) rfl)) rfl rfl rfl ?_
  refine ExL.pures 2 rfl ?_
  refine ExL.nil ?_
  refine Ex.regSeq (ExL.pures 1 rfl ?_)
  refine ExL.op rfl (op_makeSlice (sz := 24) rfl rfl rfl rfl rfl rfl rfl rfl (⟨by omega, by unfold maxLen; omega⟩) rfl rfl (fun r1 => ?_))
  refine ExL.pures 1 rfl ?_
  refine ExL.nil ?_
  refine Ex.seq ?_
  refine Ex.pile0 ?_
  rw [show zerosL [Value.slice none 0 0] K.length = (outE ([] : List (VX Int)) K.length).flatMap encX from zoutE rfl]
  refine Ex.regSeq (ExL.pures 1 rfl ?_)
  refine ExL.free (by first | exact fr_sub64 rfl rfl rfl (by omega) | exact fr_sub rfl rfl rfl) rfl rfl rfl ?_
  refine ExL.pures 1 rfl ?_
  refine ExL.nil ?_
  refine Ex.block ?_
  refine Ex.loopK (X := List (VX Int)) (fun J => [(7, .int .i64 ((K.length : Int) - 1 - J.length))]) (fun J => [.row (.slice (some ⟨r1, 0, none⟩) K.length K.length) 26 1 K.length ((outE J K.length).flatMap encX), .pile (J.map (rwX (eI .i64) 2 1))]) (fun J => J.length ≤ K.length ∧ ∀ i, i < J.length → (J.getD i zX).xs = costL lo hi us (fun k => (K.getD k zX).xs) K.length i) (fun J => K.length - J.length) [] [(0, _), (1, _), (4, _), (5, _), (6, _)] [] 2 [1, 0] ⟨agI (by simp), trivial⟩ ⟨rfl, rfl, rfl, rfl, rfl, trivial⟩ (rfl) rfl ⟨Nat.zero_le _, fun i hi => by simp at hi⟩ (fun J hI => ?_)
  have hI : J.length ≤ K.length ∧ ∀ i, i < J.length → (J.getD i zX).xs = costL lo hi us (fun k => (K.getD k zX).xs) K.length i := hI
  obtain ⟨hJ, hR⟩ := hI
  refine Ex.seq ?_
  refine Ex.regSeq (ExL.pures 1 rfl ?_)
  refine ExL.geq rfl rfl rfl rfl rfl rfl (fun h2 => ?_) (fun h2 => ?_)
  · refine ExL.nil ?_
    refine Ex.cond_t rfl ?_
    refine Ex.skip ?_
    refine Ex.seq ?_
    refine Ex.block ?_
    have hJK : J.length < K.length := by omega
    have hvl := hfl (K.length - 1 - J.length) (by omega)
    have hvl1 : 0 < J.length → 1 ≤ (K.getD ((K.length - 1 - J.length) + 1) zX).xs.length ∧ (K.getD ((K.length - 1 - J.length) + 1) zX).xs.length ≤ 400 := fun h => hfl ((K.length - 1 - J.length) + 1) (by omega)
    have hrl : 0 < J.length → (J.getD (J.length - 1) zX).xs.length = (K.getD ((K.length - 1 - J.length) + 1) zX).xs.length := fun h => by rw [hR _ (by omega), cost_ln (by omega)]; show (K.getD (K.length - 1 - (J.length - 1)) zX).xs.length = _; rw [show K.length - 1 - (J.length - 1) = (K.length - 1 - J.length) + 1 by omega]
    rw [show (K.length : Int) - 1 - J.length = ((K.length - 1 - J.length : Nat) : Int) by omega]
    refine Ex.regSeq (ExL.pures 3 rfl ?_)
    refine ExL.free (fr_load rfl rfl rfl rfl (CellO.at 1 (Reads.old hpt) rfl)) rfl rfl rfl ?_
    refine ExL.pures 1 rfl ?_
    refine ExL.free (fr_indexAddrF (Reads.old hKr) encX_len rfl rfl rfl rfl rfl rfl (by omega)) rfl rfl rfl ?_
    refine ExL.free (fr_load rfl rfl rfl rfl (cellJ (i := ↑(K.length - 1 - J.length)) ((K.length - 1 - J.length)) (Reads.old hKr) encX_len zX 0 rfl (by omega) (by omega) rfl)) rfl rfl rfl ?_
    refine ExL.pures 1 rfl ?_
    refine ExL.op rfl (op_makeSlice (sz := 8) rfl rfl rfl rfl rfl rfl rfl rfl (⟨by omega, by unfold maxLen; omega⟩) rfl rfl (fun r3 => ?_))
    refine ExL.pures 1 rfl ?_
    refine ExL.nil ?_
    refine Ex.seq ?_
    refine Ex.regSeq (ExL.pures 1 rfl ?_)
    refine ExL.nil ?_
    refine Ex.block ?_
    refine Ex.loopK (X := Nat) (fun i => [(9, .int .i64 i)]) (fun i => [.row (.slice (some ⟨r3, 0, none⟩) (K.getD (K.length - 1 - J.length) zX).xs.length (K.getD (K.length - 1 - J.length) zX).xs.length) 2 1 (K.getD (K.length - 1 - J.length) zX).xs.length ((Sx.part 0 (costL lo hi us (fun k => (K.getD k zX).xs) K.length J.length) i).flatMap (eI .i64))]) (fun i => i ≤ (K.getD (K.length - 1 - J.length) zX).xs.length) (fun i => (K.getD (K.length - 1 - J.length) zX).xs.length - i) 0 [(0, _), (1, _), (4, _), (5, _), (6, _), (7, _), (8, _)] [_, _] 3 [0, 1, 2] ⟨rfl, trivial⟩ ⟨rfl, rfl, rfl, rfl, rfl, rfl, rfl, trivial⟩ (pkR (zrowC (by omega) rfl)) rfl (Nat.zero_le _) (fun i hI => ?_)
    have hI : i ≤ (K.getD (K.length - 1 - J.length) zX).xs.length := hI
    refine Ex.seq ?_
    refine Ex.regSeq (ExL.pures 3 rfl ?_)
    refine ExL.lss rfl rfl rfl rfl rfl rfl (fun h4 => ?_) (fun h4 => ?_)
    · refine ExL.pures 3 rfl ?_
      refine ExL.free (by first | exact fr_sub64 rfl rfl rfl (by omega) | exact fr_sub rfl rfl rfl) rfl rfl rfl ?_
      refine ExL.lss rfl rfl rfl rfl rfl rfl (fun h5 => ?_) (fun h5 => ?_)
      · refine ExL.pures 1 rfl ?_
        refine ExL.nil ?_
        refine Ex.cond_t rfl ?_
        refine Ex.skip ?_
        refine Ex.seq ?_
        refine Ex.block ?_
        have hii : i < (K.getD (K.length - 1 - J.length) zX).xs.length := by omega
        have hvi := hFa (K.length - 1 - J.length) i
        have hJ0 : 0 < J.length := by omega
        have hvl2 := hvl1 hJ0
        have hrl2 := hrl hJ0
        refine Ex.regSeq (ExL.pures 2 rfl ?_)
        refine ExL.free (fr_indexAddr (sz := 1) rfl rfl rfl rfl rfl rfl (by omega)) rfl rfl rfl ?_
        refine ExL.op rfl (op_storeRowF (i := 0) rfl rfl rfl rfl rfl rfl rfl rfl (room (eI_len .i64) (k := i) (by rw [partC_len (by omega) (by omega)]; omega) (by simp) rfl) (List.cons_ne_nil _ _) rfl (rowC_00 (by omega) (by omega) (by simp) rfl) ?_)
        refine ExL.nil ?_
        refine Ex.regSeq (ExL.pures 1 rfl ?_)
        refine ExL.nil ?_
        refine Ex.block ?_
        refine Ex.loopK (X := Nat) (fun j => [(10, .int .i64 j)]) (fun j => [.row (.slice (some ⟨r3, 0, none⟩) (K.getD (K.length - 1 - J.length) zX).xs.length (K.getD (K.length - 1 - J.length) zX).xs.length) 2 1 (K.getD (K.length - 1 - J.length) zX).xs.length ((rowC (0) lo hi us (fun k => (K.getD k zX).xs) K.length J.length i j).flatMap (eI .i64))]) (fun j => j ≤ (K.getD ((K.length - 1 - J.length) + 1) zX).xs.length) (fun j => (K.getD ((K.length - 1 - J.length) + 1) zX).xs.length - j) 0 [(0, _), (1, _), (4, _), (5, _), (6, _), (7, _), (8, _), (9, _)] [_, _] 3 [0, 1, 2] ⟨rfl, trivial⟩ ⟨rfl, rfl, rfl, rfl, rfl, rfl, rfl, rfl, trivial⟩ (rfl) rfl (Nat.zero_le _) (fun j hI => ?_)
        have hI : j ≤ (K.getD ((K.length - 1 - J.length) + 1) zX).xs.length := hI
        refine Ex.seq ?_
        refine Ex.regSeq (ExL.pures 4 rfl ?_)
        refine ExL.free (fr_load rfl rfl rfl rfl (CellO.at 1 (Reads.old hpt) rfl)) rfl rfl rfl ?_
        refine ExL.pures 1 rfl ?_
        refine ExL.free (Free.val (((K.length - 1 - J.length) + 1 : Nat) : Int) (fr_add64 rfl rfl rfl (by omega)) (by omega)) rfl rfl rfl ?_
        refine ExL.free (fr_indexAddrF (Reads.old hKr) encX_len rfl rfl rfl rfl rfl rfl (by omega)) rfl rfl rfl ?_
        refine ExL.free (fr_load rfl rfl rfl rfl (cellJ (i := ↑((K.length - 1 - J.length) + 1)) (((K.length - 1 - J.length) + 1)) (Reads.old hKr) encX_len zX 0 rfl (by omega) (by omega) rfl)) rfl rfl rfl ?_
        refine ExL.pures 1 rfl ?_
        refine ExL.lss rfl rfl rfl rfl rfl rfl (fun h6 => ?_) (fun h6 => ?_)
        · refine ExL.nil ?_
          refine Ex.cond_t rfl ?_
          refine Ex.skip ?_
          refine Ex.seq ?_
          refine Ex.block ?_
          have hvj := hFa ((K.length - 1 - J.length) + 1) j
          have hcb := cur_bd (i := i) (j := j) (t := J.length) (n := K.length) (lo := lo) (hi := hi) hFa hus (by omega)
          have hob := co_bd hFa hus hR (by omega) (show J.length - 1 < J.length by omega) j
          have hab := abs_bd hvi hvj hus
          refine Ex.drawSeqM rfl ?_
          refine ExD.take (i := 0) rfl (by kernel_rfl) (pureVal_ok rfl) ((List.Sublist.refl _)) rfl rfl rfl ?_
          refine ExD.take (i := 1) rfl (by kernel_rfl) (pureVal_ok rfl) ((List.Sublist.refl _)) rfl rfl rfl ?_
          refine ExD.take (i := 2) rfl (by kernel_rfl) (pureVal_ok rfl) ((List.Sublist.refl _)) rfl rfl rfl ?_
          refine ExD.take (i := 3) rfl (by kernel_rfl) (fr_load rfl rfl rfl rfl (CellO.at 1 (Reads.old hpt) rfl)) ((List.Sublist.refl _)) rfl rfl rfl ?_
          refine ExD.take (i := 4) rfl (by kernel_rfl) (pureVal_ok rfl) ((List.Sublist.refl _)) rfl rfl rfl ?_
          refine ExD.take (i := 5) rfl (by kernel_rfl) (Free.val (((K.length - 1 - J.length) + 1 : Nat) : Int) (fr_add64 rfl rfl rfl (by omega)) (by omega)) ((List.Sublist.refl _)) rfl rfl rfl ?_
          refine ExD.take (i := 6) rfl (by kernel_rfl) (fr_indexAddrF (Reads.old hKr) encX_len rfl rfl rfl rfl rfl rfl (by omega)) ((List.Sublist.refl _)) rfl rfl rfl ?_
          refine ExD.take (i := 7) rfl (by kernel_rfl) (fr_load rfl rfl rfl rfl (cellJ (i := ↑((K.length - 1 - J.length) + 1)) (((K.length - 1 - J.length) + 1)) (Reads.old hKr) encX_len zX 0 rfl (by omega) (by omega) rfl)) ((List.Sublist.refl _)) rfl rfl rfl ?_
          refine ExD.take (i := 8) rfl (by kernel_rfl) (pureVal_ok rfl) ((List.Sublist.refl _)) rfl rfl rfl ?_
          refine ExD.take (i := 9) rfl (by kernel_rfl) (fr_indexAddrF (Reads.old (hKi (((K.length - 1 - J.length) + 1)) (by omega))) (eI_len .i64) rfl rfl rfl rfl rfl rfl (by omega)) ((List.Sublist.refl _)) rfl rfl rfl ?_
          refine ExD.take (i := 10) rfl (by kernel_rfl) (fr_load rfl rfl rfl rfl (by first | exact cellN (Reads.old (hKi (((K.length - 1 - J.length) + 1)) (by omega))) (eI_len .i64) 0 0 rfl (by omega) rfl | exact cellF (Reads.old (hKi (((K.length - 1 - J.length) + 1)) (by omega))) (eI_len .i64) 0 0 rfl (by omega) rfl)) ((List.Sublist.refl _)) rfl rfl rfl ?_
          refine ExD.take (i := 11) rfl (by kernel_rfl) (pureVal_ok rfl) ((List.Sublist.refl _)) rfl rfl rfl ?_
          refine ExD.take (i := 12) rfl (by kernel_rfl) (pureVal_ok rfl) ((List.Sublist.refl _)) rfl rfl rfl ?_
          refine ExD.take (i := 13) rfl (by kernel_rfl) (pureVal_ok rfl) ((List.Sublist.refl _)) rfl rfl rfl ?_
          refine ExD.take (i := 14) rfl (by kernel_rfl) (fr_load rfl rfl rfl rfl (CellO.at 1 (Reads.old hpt) rfl)) ((List.Sublist.refl _)) rfl rfl rfl ?_
          refine ExD.take (i := 15) rfl (by kernel_rfl) (pureVal_ok rfl) ((List.Sublist.refl _)) rfl rfl rfl ?_
          refine ExD.take (i := 16) rfl (by kernel_rfl) (fr_indexAddrF (Reads.old hKr) encX_len rfl rfl rfl rfl rfl rfl (by omega)) ((List.Sublist.refl _)) rfl rfl rfl ?_
          refine ExD.take (i := 17) rfl (by kernel_rfl) (fr_load rfl rfl rfl rfl (cellJ (i := ↑(K.length - 1 - J.length)) ((K.length - 1 - J.length)) (Reads.old hKr) encX_len zX 0 rfl (by omega) (by omega) rfl)) ((List.Sublist.refl _)) rfl rfl rfl ?_
          refine ExD.take (i := 18) rfl (by kernel_rfl) (pureVal_ok rfl) ((List.Sublist.refl _)) rfl rfl rfl ?_
          refine ExD.take (i := 19) rfl (by kernel_rfl) (fr_indexAddrF (Reads.old (hKi (K.length - 1 - J.length) (by omega))) (eI_len .i64) rfl rfl rfl rfl rfl rfl (by omega)) ((List.Sublist.refl _)) rfl rfl rfl ?_
          refine ExD.take (i := 20) rfl (by kernel_rfl) (fr_load rfl rfl rfl rfl (by first | exact cellN (Reads.old (hKi (K.length - 1 - J.length) (by omega))) (eI_len .i64) 0 0 rfl (by omega) rfl | exact cellF (Reads.old (hKi (K.length - 1 - J.length) (by omega))) (eI_len .i64) 0 0 rfl (by omega) rfl)) ((List.Sublist.refl _)) rfl rfl rfl ?_
          refine ExD.take (i := 21) rfl (by kernel_rfl) (by first | exact fr_sub64 rfl rfl rfl (by omega) | exact fr_sub rfl rfl rfl) ((List.Sublist.refl _)) rfl rfl rfl ?_
          refine ExD.take (i := 22) rfl (by kernel_rfl) (pureVal_ok rfl) ((List.Sublist.refl _)) rfl rfl rfl ?_
          refine ExD.done (by kernel_rfl) ?_
          refine Ex.seq ?_
          refine Ex.drawSeqM rfl ?_
          refine ExD.take (i := 0) rfl (by kernel_rfl) (pureVal_ok rfl) ((List.Sublist.refl _)) rfl rfl rfl ?_
          refine ExD.take (i := 1) rfl (by kernel_rfl) (pureVal_ok rfl) ((List.Sublist.refl _)) rfl rfl rfl ?_
          refine ExD.take (i := 2) rfl (by kernel_rfl) (Free.val (((K.length - 1 - J.length) + 1 : Nat) : Int) (fr_add64 rfl rfl rfl (by omega)) (by omega)) ((List.Sublist.refl _)) rfl rfl rfl ?_
          refine ExD.take (i := 3) rfl (by kernel_rfl) (fr_indexAddr (sz := 1) rfl rfl rfl rfl rfl rfl (by omega)) ((List.Sublist.refl _)) rfl rfl rfl ?_
          refine ExD.take (i := 4) rfl (by kernel_rfl) (fr_load rfl rfl rfl rfl (cellE (r := J.getD (J.length - 1) zX) (i := ↑((K.length - 1 - J.length) + 1)) ((K.length - 1 - J.length) + 1) (Reads.row (i := 1) rfl) encX_len zX 0 rfl (by omega) (by rw [outE_len]; omega) (outE_prev (by omega) (by omega)) rfl)) ((List.Sublist.refl _)) rfl rfl rfl ?_
          refine ExD.take (i := 5) rfl (by kernel_rfl) (pureVal_ok rfl) ((List.Sublist.refl _)) rfl rfl rfl ?_
          refine ExD.take (i := 6) rfl (by kernel_rfl) (fr_indexAddrF (readsX (i := 2) rfl (k := (J.length - 1)) (by omega)) (eI_len .i64) rfl rfl rfl rfl rfl rfl (by omega)) ((List.Sublist.refl _)) rfl rfl rfl ?_
          refine ExD.take (i := 7) rfl (by kernel_rfl) (fr_load rfl rfl rfl rfl (by first | exact cellN (readsX (i := 2) rfl (k := (J.length - 1)) (by omega)) (eI_len .i64) 0 0 rfl (by omega) rfl | exact cellF (readsX (i := 2) rfl (k := (J.length - 1)) (by omega)) (eI_len .i64) 0 0 rfl (by omega) rfl)) ((List.Sublist.refl _)) rfl rfl rfl ?_
          refine ExD.cmp_lss (i := 8) rfl (by kernel_rfl) rfl rfl rfl ((List.Sublist.refl _)) rfl rfl rfl (fun h7 => ?_) (fun h7 => ?_)
          · refine ExD.take (i := 9) rfl (by kernel_rfl) (pureVal_ok rfl) ((List.Sublist.refl _)) rfl rfl rfl ?_
            refine ExD.pass (i := 10) rfl (by kernel_rfl) ((List.Sublist.refl _)) rfl rfl rfl ?_
            refine ExD.pass (i := 11) rfl (by kernel_rfl) ((List.Sublist.refl _)) rfl rfl rfl ?_
            refine ExD.pass (i := 12) rfl (by kernel_rfl) ((List.Sublist.refl _)) rfl rfl rfl ?_
            refine ExD.pass (i := 13) rfl (by kernel_rfl) ((List.Sublist.refl _)) rfl rfl rfl ?_
            refine ExD.pass (i := 14) rfl (by kernel_rfl) ((List.Sublist.refl _)) rfl rfl rfl ?_
            refine ExD.pass (i := 15) rfl (by kernel_rfl) ((List.Sublist.refl _)) rfl rfl rfl ?_
            refine ExD.pass (i := 16) rfl (by kernel_rfl) ((List.Sublist.refl _)) rfl rfl rfl ?_
            refine ExD.pass (i := 17) rfl (by kernel_rfl) ((List.Sublist.refl _)) rfl rfl rfl ?_
            refine ExD.pass (i := 18) rfl (by kernel_rfl) ((List.Sublist.refl _)) rfl rfl rfl ?_
            refine ExD.pass (i := 19) rfl (by kernel_rfl) ((List.Sublist.refl _)) rfl rfl rfl ?_
            refine ExD.pass (i := 20) rfl (by kernel_rfl) ((List.Sublist.refl _)) rfl rfl rfl ?_
            refine ExD.take (i := 21) rfl (by kernel_rfl) (pureVal_ok rfl) ((List.Sublist.refl _)) rfl rfl rfl ?_
            refine ExD.done (by kernel_rfl) ?_
            refine Ex.cond_t rfl ?_
            refine Ex.exit ?_
            refine Ex.region (ExL.pures 1 rfl ?_)
            refine ExL.free (by first | exact fr_add64 rfl rfl rfl (by omega) | exact fr_add rfl rfl rfl) rfl rfl rfl ?_
            refine ExL.pures 1 rfl ?_
            refine ExL.nil ?_
            refine Hand.mk (j + 1) 3 [0, 1, 2] ⟨rfl, trivial⟩ ⟨rfl, rfl, rfl, rfl, rfl, rfl, rfl, rfl, trivial⟩ (by first | rfl | exact pkR (congrArg (fun z => List.flatMap (eI .i64) z) (by first | exact cc_n (F := (fun k => (K.getD k zX).xs)) (n := K.length) hR (by omega) (.inl (by assumption)) | exact cc_n (F := (fun k => (K.getD k zX).xs)) (n := K.length) hR (by omega) (.inr (by first | assumption | exact goes_f (by assumption))) | exact cc_k (F := (fun k => (K.getD k zX).xs)) (n := K.length) hR (by omega) (by omega)))) rfl (by omega) (by omega)
          · refine ExD.take (i := 9) rfl (by kernel_rfl) (pureVal_ok rfl) ((List.Sublist.refl _)) rfl rfl rfl ?_
            refine ExD.take (i := 10) rfl (by kernel_rfl) (pureVal_ok rfl) ((List.Sublist.refl _)) rfl rfl rfl ?_
            refine ExD.take (i := 11) rfl (by kernel_rfl) (pureVal_ok rfl) ((List.Sublist.refl _)) rfl rfl rfl ?_
            refine ExD.take (i := 12) rfl (by kernel_rfl) (pureVal_ok rfl) ((List.Sublist.refl _)) rfl rfl rfl ?_
            refine ExD.take (i := 13) rfl (by kernel_rfl) (pureVal_ok rfl) ((List.Sublist.refl _)) rfl rfl rfl ?_
            refine ExD.take (i := 14) rfl (by kernel_rfl) (fr_load rfl rfl rfl rfl (CellO.at 2 (Reads.old hpt) rfl)) ((List.Sublist.refl _)) rfl rfl rfl ?_
            refine ExD.take (i := 15) rfl (by kernel_rfl) (pureVal_ok rfl) ((List.Sublist.refl _)) rfl rfl rfl ?_
            refine ExD.take (i := 16) rfl (by kernel_rfl) (pureVal_ok rfl) ((List.Sublist.refl _)) rfl rfl rfl ?_
            refine ExD.take (i := 17) rfl (by kernel_rfl) (pureVal_ok rfl) ((List.Sublist.refl _)) rfl rfl rfl ?_
            refine ExD.take (i := 18) rfl (by kernel_rfl) (fr_load rfl rfl rfl rfl (CellO.at 3 (Reads.old hpt) rfl)) ((List.Sublist.refl _)) rfl rfl rfl ?_
            refine ExD.op (i := 19) rfl (by kernel_rfl) rfl (op_ret rfl rfl rfl (c_l00In _ _ _) (fun _ _ => trivial) rfl rfl (fun x8 hx8 => ⟨(List.Sublist.refl _), ?_⟩))
            refine ExD.take (i := 20) rfl (by kernel_rfl) (pureVal_ok rfl) ((List.Sublist.refl _)) rfl rfl rfl ?_
            refine ExD.take (i := 21) rfl (by kernel_rfl) (pureVal_ok rfl) ((List.Sublist.refl _)) rfl rfl rfl ?_
            refine ExD.done (by kernel_rfl) ?_
            refine Ex.cond rfl (fun hb9 => ?_) (fun hb9 => ?_)
            · replace hb9 := nd_t hb9
              refine Ex.exit ?_
              refine Ex.region (ExL.pures 1 rfl ?_)
              refine ExL.free (by first | exact fr_add64 rfl rfl rfl (by omega) | exact fr_add rfl rfl rfl) rfl rfl rfl ?_
              refine ExL.pures 1 rfl ?_
              refine ExL.nil ?_
              refine Hand.mk (j + 1) 3 [0, 1, 2] ⟨rfl, trivial⟩ ⟨rfl, rfl, rfl, rfl, rfl, rfl, rfl, rfl, trivial⟩ (by first | rfl | exact pkR (congrArg (fun z => List.flatMap (eI .i64) z) (by first | exact cc_n (F := (fun k => (K.getD k zX).xs)) (n := K.length) hR (by omega) (.inl (by assumption)) | exact cc_n (F := (fun k => (K.getD k zX).xs)) (n := K.length) hR (by omega) (.inr (by first | assumption | exact goes_f (by assumption))) | exact cc_k (F := (fun k => (K.getD k zX).xs)) (n := K.length) hR (by omega) (by omega)))) rfl (by omega) (by omega)
            · replace hb9 := nd_f hb9
              refine Ex.skip ?_
              refine Ex.drawSeqM rfl ?_
              refine ExD.take (i := 0) rfl (by kernel_rfl) (pureVal_ok rfl) ((List.Sublist.refl _)) rfl rfl rfl ?_
              refine ExD.take (i := 1) rfl (by kernel_rfl) (pureVal_ok rfl) ((List.Sublist.refl _)) rfl rfl rfl ?_
              refine ExD.take (i := 2) rfl (by kernel_rfl) (Free.val (((K.length - 1 - J.length) + 1 : Nat) : Int) (fr_add64 rfl rfl rfl (by omega)) (by omega)) ((List.Sublist.refl _)) rfl rfl rfl ?_
              refine ExD.take (i := 3) rfl (by kernel_rfl) (fr_indexAddr (sz := 1) rfl rfl rfl rfl rfl rfl (by omega)) ((List.Sublist.refl _)) rfl rfl rfl ?_
              refine ExD.take (i := 4) rfl (by kernel_rfl) (fr_load rfl rfl rfl rfl (cellE (r := J.getD (J.length - 1) zX) (i := ↑((K.length - 1 - J.length) + 1)) ((K.length - 1 - J.length) + 1) (Reads.row (i := 1) rfl) encX_len zX 0 rfl (by omega) (by rw [outE_len]; omega) (outE_prev (by omega) (by omega)) rfl)) ((List.Sublist.refl _)) rfl rfl rfl ?_
              refine ExD.take (i := 5) rfl (by kernel_rfl) (pureVal_ok rfl) ((List.Sublist.refl _)) rfl rfl rfl ?_
              refine ExD.take (i := 6) rfl (by kernel_rfl) (fr_indexAddrF (readsX (i := 2) rfl (k := (J.length - 1)) (by omega)) (eI_len .i64) rfl rfl rfl rfl rfl rfl (by omega)) ((List.Sublist.refl _)) rfl rfl rfl ?_
              refine ExD.take (i := 7) rfl (by kernel_rfl) (fr_load rfl rfl rfl rfl (by first | exact cellN (readsX (i := 2) rfl (k := (J.length - 1)) (by omega)) (eI_len .i64) 0 0 rfl (by omega) rfl | exact cellF (readsX (i := 2) rfl (k := (J.length - 1)) (by omega)) (eI_len .i64) 0 0 rfl (by omega) rfl)) ((List.Sublist.refl _)) rfl rfl rfl ?_
              refine ExD.take (i := 8) rfl (by kernel_rfl) (pureVal_ok rfl) ((List.Sublist.refl _)) rfl rfl rfl ?_
              refine ExD.take (i := 9) rfl (by kernel_rfl) (pureVal_ok rfl) ((List.Sublist.refl _)) rfl rfl rfl ?_
              refine ExD.take (i := 10) rfl (by kernel_rfl) (by first | exact fr_sub64 rfl rfl rfl (by omega) | exact fr_sub rfl rfl rfl) ((List.Sublist.refl _)) rfl rfl rfl ?_
              refine ExD.op (i := 11) rfl (by kernel_rfl) rfl (op_ret rfl rfl rfl (c_l05Size ((((K.getD (((K.length - 1 - J.length) + 1)) zX).xs.getD j 0) - ((K.getD (K.length - 1 - J.length) zX).xs.getD i 0)) - us) (by omega)) (fun _ _ => trivial) rfl rfl (fun x10 hx10 => ⟨(List.Sublist.refl _), ?_⟩))
              refine ExD.take (i := 12) rfl (by kernel_rfl) (by first | exact fr_add64 rfl rfl rfl (by omega) | exact fr_add rfl rfl rfl) ((List.Sublist.refl _)) rfl rfl rfl ?_
              refine ExD.take (i := 13) rfl (by kernel_rfl) (pureVal_ok rfl) ((List.Sublist.refl _)) rfl rfl rfl ?_
              refine ExD.done (by kernel_rfl) ?_
              refine Ex.regSeq (ExL.pures 2 rfl ?_)
              refine ExL.free (fr_indexAddr (sz := 1) rfl rfl rfl rfl rfl rfl (by omega)) rfl rfl rfl ?_
              refine ExL.free (fr_load rfl rfl rfl rfl (cellW (v := .int .i64 (curC lo hi us (fun k => (K.getD k zX).xs) K.length J.length i j)) (i := ↑i) i (Reads.row (i := 0) rfl) (eI_len .i64) 0 0 rfl (by omega) (by rw [rowC_len (by omega) (by omega)]; omega) (rowC_at (by omega) (by omega)) rfl)) rfl rfl rfl ?_
              refine ExL.lss rfl rfl rfl rfl rfl rfl (fun h11 => ?_) (fun h11 => ?_)
              · refine ExL.pures 8 rfl ?_
                refine ExL.nil ?_
                refine Ex.cond_t rfl ?_
                refine Ex.region (ExL.pures 3 rfl ?_)
                refine ExL.free (fr_indexAddr (sz := 1) rfl rfl rfl rfl rfl rfl (by omega)) rfl rfl rfl ?_
                refine ExL.op rfl (op_storeRowF (i := 0) rfl rfl rfl rfl rfl rfl rfl rfl (room (eI_len .i64) (k := i) (by rw [rowC_len (by omega) (by omega)]; omega) (by simp) rfl) (List.cons_ne_nil _ _) rfl (rowC_s (by omega) (by omega) (by simp) (congrArg (eI .i64) (cc_y (F := (fun k => (K.getD k zX).xs)) (n := K.length) (lo := lo) (hi := hi) (us := us) (J := J) (i := i) (j := j) hR (by omega) (by omega) (by first | assumption | exact goes_t (by assumption)) (by omega)))) ?_)
                refine ExL.nil ?_
                refine Ex.region (ExL.pures 1 rfl ?_)
                refine ExL.free (by first | exact fr_add64 rfl rfl rfl (by omega) | exact fr_add rfl rfl rfl) rfl rfl rfl ?_
                refine ExL.pures 1 rfl ?_
                refine ExL.nil ?_
                refine Hand.mk (j + 1) 3 [0, 1, 2] ⟨rfl, trivial⟩ ⟨rfl, rfl, rfl, rfl, rfl, rfl, rfl, rfl, trivial⟩ (by first | rfl | exact pkR (congrArg (fun z => List.flatMap (eI .i64) z) (by first | exact cc_n (F := (fun k => (K.getD k zX).xs)) (n := K.length) hR (by omega) (.inl (by assumption)) | exact cc_n (F := (fun k => (K.getD k zX).xs)) (n := K.length) hR (by omega) (.inr (by first | assumption | exact goes_f (by assumption))) | exact cc_k (F := (fun k => (K.getD k zX).xs)) (n := K.length) hR (by omega) (by omega)))) rfl (by omega) (by omega)
              · refine ExL.pures 4 rfl ?_
                refine ExL.free (fr_indexAddr (sz := 1) rfl rfl rfl rfl rfl rfl (by omega)) rfl rfl rfl ?_
                refine ExL.free (fr_load rfl rfl rfl rfl (cellW (v := .int .i64 (curC lo hi us (fun k => (K.getD k zX).xs) K.length J.length i j)) (i := ↑i) i (Reads.row (i := 0) rfl) (eI_len .i64) 0 0 rfl (by omega) (by rw [rowC_len (by omega) (by omega)]; omega) (rowC_at (by omega) (by omega)) rfl)) rfl rfl rfl ?_
                refine ExL.lss rfl rfl rfl rfl rfl rfl (fun h12 => ?_) (fun h12 => ?_)
                · refine ExL.pures 1 rfl ?_
                  refine ExL.nil ?_
                  refine Ex.cond_t rfl ?_
                  refine Ex.region (ExL.pures 3 rfl ?_)
                  refine ExL.free (fr_indexAddr (sz := 1) rfl rfl rfl rfl rfl rfl (by omega)) rfl rfl rfl ?_
                  refine ExL.op rfl (op_storeRowF (i := 0) rfl rfl rfl rfl rfl rfl rfl rfl (room (eI_len .i64) (k := i) (by rw [rowC_len (by omega) (by omega)]; omega) (by simp) rfl) (List.cons_ne_nil _ _) rfl (rowC_s (by omega) (by omega) (by simp) (congrArg (eI .i64) (cc_y (F := (fun k => (K.getD k zX).xs)) (n := K.length) (lo := lo) (hi := hi) (us := us) (J := J) (i := i) (j := j) hR (by omega) (by omega) (by first | assumption | exact goes_t (by assumption)) (by omega)))) ?_)
                  refine ExL.nil ?_
                  refine Ex.region (ExL.pures 1 rfl ?_)
                  refine ExL.free (by first | exact fr_add64 rfl rfl rfl (by omega) | exact fr_add rfl rfl rfl) rfl rfl rfl ?_
                  refine ExL.pures 1 rfl ?_
                  refine ExL.nil ?_
                  refine Hand.mk (j + 1) 3 [0, 1, 2] ⟨rfl, trivial⟩ ⟨rfl, rfl, rfl, rfl, rfl, rfl, rfl, rfl, trivial⟩ (by first | rfl | exact pkR (congrArg (fun z => List.flatMap (eI .i64) z) (by first | exact cc_n (F := (fun k => (K.getD k zX).xs)) (n := K.length) hR (by omega) (.inl (by assumption)) | exact cc_n (F := (fun k => (K.getD k zX).xs)) (n := K.length) hR (by omega) (.inr (by first | assumption | exact goes_f (by assumption))) | exact cc_k (F := (fun k => (K.getD k zX).xs)) (n := K.length) hR (by omega) (by omega)))) rfl (by omega) (by omega)
                · refine ExL.pures 1 rfl ?_
                  refine ExL.nil ?_
                  refine Ex.cond_f rfl ?_
                  refine Ex.skip ?_
                  refine Ex.region (ExL.pures 1 rfl ?_)
                  refine ExL.free (by first | exact fr_add64 rfl rfl rfl (by omega) | exact fr_add rfl rfl rfl) rfl rfl rfl ?_
                  refine ExL.pures 1 rfl ?_
                  refine ExL.nil ?_
                  refine Hand.mk (j + 1) 3 [0, 1, 2] ⟨rfl, trivial⟩ ⟨rfl, rfl, rfl, rfl, rfl, rfl, rfl, rfl, trivial⟩ (by first | rfl | exact pkR (congrArg (fun z => List.flatMap (eI .i64) z) (by first | exact cc_n (F := (fun k => (K.getD k zX).xs)) (n := K.length) hR (by omega) (.inl (by assumption)) | exact cc_n (F := (fun k => (K.getD k zX).xs)) (n := K.length) hR (by omega) (.inr (by first | assumption | exact goes_f (by assumption))) | exact cc_k (F := (fun k => (K.getD k zX).xs)) (n := K.length) hR (by omega) (by omega)))) rfl (by omega) (by omega)
        · refine ExL.nil ?_
          refine Ex.cond_f rfl ?_
          refine Ex.exit ?_
          obtain rfl : j = (K.getD ((K.length - 1 - J.length) + 1) zX).xs.length := (by omega)
          rw [rowC_fin (by omega) (by omega) (by omega) rfl]
          refine Ex.region (ExL.pures 1 rfl ?_)
          refine ExL.free (by first | exact fr_add64 rfl rfl rfl (by omega) | exact fr_add rfl rfl rfl) rfl rfl rfl ?_
          refine ExL.pures 1 rfl ?_
          refine ExL.nil ?_
          refine Hand.mk (i + 1) 3 [0, 1, 2] ⟨rfl, trivial⟩ ⟨rfl, rfl, rfl, rfl, rfl, rfl, rfl, trivial⟩ (rfl) rfl (by omega) (by omega)
      · refine ExL.pures 1 rfl ?_
        refine ExL.nil ?_
        refine Ex.cond_f rfl ?_
        refine Ex.exit ?_
        rw [partC_any (by omega) (by omega)]
        refine Ex.region (ExL.pures 3 rfl ?_)
        refine ExL.free (fr_indexAddr (sz := 1) rfl rfl rfl rfl rfl rfl (by omega)) rfl rfl rfl ?_
        refine ExL.op rfl (op_storeRowF (i := 1) rfl rfl rfl rfl rfl rfl rfl rfl (room encX_len (k := (K.length - 1 - J.length)) (by rw [outE_len]; omega) (by simp) rfl) (List.cons_ne_nil _ _) rfl (outE_put (⟨(some ⟨r3, 0, none⟩), (K.getD (K.length - 1 - J.length) zX).xs.length, costL lo hi us (fun k => (K.getD k zX).xs) K.length J.length⟩ : VX Int) (by omega) (by simp) (by unfold encX; rw [cost_ln (by omega)])) ?_)
        refine ExL.nil ?_
        refine Ex.conv (layX (show (costL lo hi us (fun k => (K.getD k zX).xs) K.length J.length).length = (K.getD (K.length - 1 - J.length) zX).xs.length from cost_ln (by omega)) (perm_lt (i := 0) (j := 2) rfl rfl rfl)) ?_
        refine Ex.region (ExL.pures 1 rfl ?_)
        refine ExL.free (by first | exact fr_sub64 rfl rfl rfl (by omega) | exact fr_sub rfl rfl rfl) rfl rfl rfl ?_
        refine ExL.pures 1 rfl ?_
        refine ExL.nil ?_
        have hJn : (J ++ [(⟨(some ⟨r3, 0, none⟩), (K.getD (K.length - 1 - J.length) zX).xs.length, costL lo hi us (fun k => (K.getD k zX).xs) K.length J.length⟩ : VX Int)]).length = J.length + 1 := by simp
        refine Hand.mk (J ++ [(⟨(some ⟨r3, 0, none⟩), (K.getD (K.length - 1 - J.length) zX).xs.length, costL lo hi us (fun k => (K.getD k zX).xs) K.length J.length⟩ : VX Int)]) 2 [1, 0] ⟨agI (by rw [hJn]; omega), trivial⟩ ⟨rfl, rfl, rfl, rfl, rfl, trivial⟩ (rfl) rfl (⟨by rw [hJn]; omega, rk_cost hR⟩) (by rw [hJn]; omega)
    · refine ExL.pures 6 rfl ?_
      refine ExL.nil ?_
      refine Ex.cond_f rfl ?_
      refine Ex.exit ?_
      rw [partC_any (by omega) (by omega)]
      refine Ex.region (ExL.pures 3 rfl ?_)
      refine ExL.free (fr_indexAddr (sz := 1) rfl rfl rfl rfl rfl rfl (by omega)) rfl rfl rfl ?_
      refine ExL.op rfl (op_storeRowF (i := 1) rfl rfl rfl rfl rfl rfl rfl rfl (room encX_len (k := (K.length - 1 - J.length)) (by rw [outE_len]; omega) (by simp) rfl) (List.cons_ne_nil _ _) rfl (outE_put (⟨(some ⟨r3, 0, none⟩), (K.getD (K.length - 1 - J.length) zX).xs.length, costL lo hi us (fun k => (K.getD k zX).xs) K.length J.length⟩ : VX Int) (by omega) (by simp) (by unfold encX; rw [cost_ln (by omega)])) ?_)
      refine ExL.nil ?_
      refine Ex.conv (layX (show (costL lo hi us (fun k => (K.getD k zX).xs) K.length J.length).length = (K.getD (K.length - 1 - J.length) zX).xs.length from cost_ln (by omega)) (perm_lt (i := 0) (j := 2) rfl rfl rfl)) ?_
      refine Ex.region (ExL.pures 1 rfl ?_)
      refine ExL.free (by first | exact fr_sub64 rfl rfl rfl (by omega) | exact fr_sub rfl rfl rfl) rfl rfl rfl ?_
      refine ExL.pures 1 rfl ?_
      refine ExL.nil ?_
      have hJn : (J ++ [(⟨(some ⟨r3, 0, none⟩), (K.getD (K.length - 1 - J.length) zX).xs.length, costL lo hi us (fun k => (K.getD k zX).xs) K.length J.length⟩ : VX Int)]).length = J.length + 1 := by simp
      refine Hand.mk (J ++ [(⟨(some ⟨r3, 0, none⟩), (K.getD (K.length - 1 - J.length) zX).xs.length, costL lo hi us (fun k => (K.getD k zX).xs) K.length J.length⟩ : VX Int)]) 2 [1, 0] ⟨agI (by rw [hJn]; omega), trivial⟩ ⟨rfl, rfl, rfl, rfl, rfl, trivial⟩ (rfl) rfl (⟨by rw [hJn]; omega, rk_cost hR⟩) (by rw [hJn]; omega)
  · refine ExL.nil ?_
    refine Ex.cond_f rfl ?_
    refine Ex.exit ?_
    have hJn : J.length = K.length := by omega
    refine Ex.regSeq (ExL.pures 2 rfl ?_)
    refine ExL.nil ?_
    refine Ex.ret ?_
    refine RetQ.mk (r1, J) rfl (.tmp rfl .nil) (rfl) [0, 1] (rfl) rfl (⟨hJn, hR⟩)
end Go.Proofs.Ytdfgbocmjgjclaa

/- What these functions of the program hand back, each proved by walking its operations. -/
set_option linter.unusedVariables false
set_option linter.unusedSimpArgs false
set_option maxRecDepth 4000
namespace Go.Proofs.Ytdfgbocmjgjclaa
open Go Go.Sx Go.RowKit Go.W Go.Proofs
attribute [local irreducible] Ex ExL ExD Op1 Free RetQ MutQ Reads CellO SegO LoadsAs
theorem e_11 : Enters Try.prog 11 := Enters.of Try.func11 rfl
theorem c_iLik_f (s : List Int) (hu : Nums 255 s) (As : Option Addr) (cs : Nat) (hls : s.length ≤ maxLen) (L : List VPh) (hLk : ∀ k, k < L.length → OkPh (L.getD k zPh)) (bl cL : Nat) (hlL : L.length ≤ maxLen) (lo hi : Int) (us : Int) (hc0 : codeF s L lo hi us ≠ 0) : Ret Try.prog 11 [.slice As s.length cs, .slice (some ⟨bl, 0, none⟩) L.length cL, .int .i64 lo, .int .i64 hi, .int .i64 us] (fun w => Rd w As (s.flatMap (eI .u8)) ∧ Rd w (some ⟨bl, 0, none⟩) (L.flatMap encPh)) (fun x : Option Addr × Nat => .tuple #[.slice x.1 (likV s L lo hi us).1.length x.2, .int .i64 (likV s L lo hi us).2.1, .int .i64 (likV s L lo hi us).2.2]) (fun x => [.row (.slice x.1 (likV s L lo hi us).1.length x.2) 2 1 (likV s L lo hi us).1.length ((likV s L lo hi us).1.flatMap (eI .i64))]) (fun x => True) := by
  refine Ret.of e_11 Try.func11 rfl Try.ntmps11 rfl rfl (fun w hpre => ?_)
  have hs := hpre.1.base
  have hLr := hpre.2.base
  have hm0 : maxLen = 9223372036854775807 := rfl
  refine Ex.regSeq (ExL.pures 3 rfl ?_)
  refine ExL.nil ?_
  refine Ex.regSeq (ExL.pures 5 rfl ?_)
  refine ExL.op rfl (op_ret rfl rfl rfl (c_filmOf_f s (by assumption) _ _ (by omega) L (by assumption) _ _ (by omega) lo hi us hc0) (fun w hw => ⟨Reads.get (Reads.old hs) w hw, Reads.get (Reads.old hLr) w hw⟩) rfl rfl (fun x1 hx1 => ?_))
  refine ExL.pures 5 rfl ?_
  refine ExL.nil ?_
  refine Ex.seq ?_
  refine Ex.regSeq (ExL.pures 1 rfl ?_)
  refine ExL.neq rfl rfl rfl rfl rfl rfl (fun h2 => ?_) (fun h2 => ?_)
  · refine ExL.nil ?_
    refine Ex.cond_t rfl ?_
    refine Ex.regSeq (ExL.pures 4 rfl ?_)
    refine ExL.nil ?_
    refine Ex.nilRow 2 1 ?_
    refine Ex.ret ?_
    refine RetQ.mk (none, 0) rfl (.tmp rfl (.tmp rfl (.tmp rfl .nil))) (t3 (by first | (rw [hll, hlk]; first | done | rfl) | (rw [hlk]; first | done | rfl) | (rw [hll]; first | done | rfl) | (rw [lk_c hcn, hcu]; first | done | rfl) | (rw [lk_c hc0]; first | done | rfl) | (rw [lk_6 hc1 hx1 (by omega) hJl hR (by omega)]; first | done | rfl)) (by first | (rw [hll, hlk]; first | done | rfl) | (rw [hlk]; first | done | rfl) | (rw [hll]; first | done | rfl) | (rw [lk_c hcn, hcu]; first | done | rfl) | (rw [lk_c hc0]; first | done | rfl) | (rw [lk_6 hc1 hx1 (by omega) hJl hR (by omega)]; first | done | rfl)) (by first | (rw [hll, hlk]; first | done | rfl) | (rw [hlk]; first | done | rfl) | (rw [hll]; first | done | rfl) | (rw [lk_c hcn, hcu]; first | done | rfl) | (rw [lk_c hc0]; first | done | rfl) | (rw [lk_6 hc1 hx1 (by omega) hJl hR (by omega)]; first | done | rfl))) [0] (by first | (rw [hll, hlk]; first | done | rfl) | (rw [hlk]; first | done | rfl) | (rw [hll]; first | done | rfl) | (rw [lk_c hcn, hcu]; first | done | rfl) | (rw [lk_c hc0]; first | done | rfl) | (rw [lk_6 hc1 hx1 (by omega) hJl hR (by omega)]; first | done | rfl)) rfl (trivial)
  · refine ExL.nil ?_
    refine Ex.cond_f rfl ?_
    refine Ex.skip ?_
    exfalso; omega
theorem c_iLik_t (s : List Int) (hu : Nums 255 s) (As : Option Addr) (cs : Nat) (hls : s.length ≤ maxLen) (L : List VPh) (hLk : ∀ k, k < L.length → OkPh (L.getD k zPh)) (bl cL : Nat) (hlL : L.length ≤ maxLen) (lo hi : Int) (us : Int) (hc0 : codeF s L lo hi us = 0) : Ret Try.prog 11 [.slice As s.length cs, .slice (some ⟨bl, 0, none⟩) L.length cL, .int .i64 lo, .int .i64 hi, .int .i64 us] (fun w => Rd w As (s.flatMap (eI .u8)) ∧ Rd w (some ⟨bl, 0, none⟩) (L.flatMap encPh)) (fun x : Option Addr × Nat => .tuple #[.slice x.1 (likV s L lo hi us).1.length x.2, .int .i64 (likV s L lo hi us).2.1, .int .i64 (likV s L lo hi us).2.2]) (fun x => [.row (.slice x.1 (likV s L lo hi us).1.length x.2) 2 1 (likV s L lo hi us).1.length ((likV s L lo hi us).1.flatMap (eI .i64))]) (fun x => True) := by
  refine Ret.of e_11 Try.func11 rfl Try.ntmps11 rfl rfl (fun w hpre => ?_)
  have hs := hpre.1.base
  have hLr := hpre.2.base
  have hm0 : maxLen = 9223372036854775807 := rfl
  have hLo : ∀ p ∈ L, OkPh p := fun p hp => by obtain ⟨i, hi, rfl⟩ := List.getElem_of_mem hp; have := hLk i hi; simpa [List.getD, hi] using this
  have hF := film hLo hc0
  have hl0 := hF.l0
  have hlh := hF.le
  have hh1 := hF.h1
  have hS := hF.st
  have hv := hF.vs
  have hn1 := hF.len
  refine Ex.regSeq (ExL.pures 3 rfl ?_)
  refine ExL.nil ?_
  refine Ex.regSeq (ExL.pures 5 rfl ?_)
  refine ExL.op rfl (op_ret rfl rfl rfl (c_filmOf_t s (by assumption) _ _ (by omega) L (by assumption) _ _ (by omega) lo hi us hc0) (fun w hw => ⟨Reads.get (Reads.old hs) w hw, Reads.get (Reads.old hLr) w hw⟩) rfl rfl (fun x1 hx1 => ?_))
  have hfk := fk hF hx1
  have hkl := hfk.len
  have hfv := hfk.v
  have hfl := hfk.vl
  refine ExL.pures 5 rfl ?_
  refine ExL.nil ?_
  refine Ex.seq ?_
  obtain ⟨_, _, hrg, _⟩ := cf_of hc0
  have hus : 0 ≤ us ∧ us ≤ 1000000000000 := by omega
  have hc1 := hc0
  refine Ex.regSeq (ExL.pures 1 rfl ?_)
  refine ExL.neq rfl rfl rfl rfl rfl rfl (fun h2 => ?_) (fun h2 => ?_)
  · refine ExL.nil ?_
    refine Ex.cond_t rfl ?_
    exfalso; omega
  · refine ExL.nil ?_
    refine Ex.cond_f rfl ?_
    refine Ex.skip ?_
    refine Ex.regSeq (ExL.pures 2 rfl ?_)
    refine ExL.op rfl (op_ret rfl rfl rfl (c_sums x1.K L.length hfk lo hi (by omega) x1.A x1.c _ us (by omega)) (fun w hw => ⟨Reads.get (Reads.blk (i := 0) rfl) w hw, Reads.get (Reads.row (i := 1) rfl) w hw, fun k hk => Reads.get (readsX (i := 2) rfl hk) w hw⟩) rfl rfl (fun x3 hx3 => ?_))
    obtain ⟨hJl, hR⟩ := hx3
    have hjl : ∀ k, k < L.length → (x3.2.getD (x1.K.length - 1 - k) zX).xs.length = (x1.K.getD k zX).xs.length := fun k hk => by rw [hR _ (by omega), cost_ln (by omega)]; show (x1.K.getD (x1.K.length - 1 - (x1.K.length - 1 - k)) zX).xs.length = _; rw [show x1.K.length - 1 - (x1.K.length - 1 - k) = k by omega]
    have hjl0 := hjl 0 (by omega)
    have hvl0 := hfl 0 (by omega)
    have hFa := fk_all hfk
    have hco := fun k (hk : k < x3.2.length) (q : Nat) => co_bd (F := fun k => (x1.K.getD k zX).xs) (lo := lo) (hi := hi) (us := us) (n := x1.K.length) hFa hus hR (by omega) hk q
    have hbd0 := fun i => bk_bd (x3.2.getD (x1.K.length - 1 - 0) zX).xs i
    refine ExL.pures 2 rfl ?_
    refine ExL.nil ?_
    refine Ex.seq ?_
    refine Ex.regSeq (ExL.pures 1 rfl ?_)
    refine ExL.free (fr_indexAddr (sz := 1) rfl rfl rfl rfl rfl rfl (by omega)) rfl rfl rfl ?_
    refine ExL.free (fr_load rfl rfl rfl rfl (cellE (r := (x3.2.getD (x1.K.length - 1 - 0) zX)) (i := 0) (0) (Reads.row (i := 0) rfl) encX_len zX 0 rfl (by omega) (by rw [outE_len]; omega) (outE_at (by omega)) rfl)) rfl rfl rfl ?_
    refine ExL.pures 2 rfl ?_
    refine ExL.nil ?_
    refine Ex.block ?_
    refine Ex.loopK (X := Nat) (fun i => [(16, .int .i64 (bestK (x3.2.getD (x1.K.length - 1 - 0) zX).xs i)), (46, .int .i64 i)]) (fun i => []) (fun i => i ≤ (x1.K.getD 0 zX).xs.length) (fun i => (x1.K.getD 0 zX).xs.length - i) 0 [(4, _), (10, _), (11, _), (12, _), (13, _), (15, _), (44, _), (45, _)] [_, _, _, _, _] 5 [0, 1, 2, 3, 4] ⟨rfl, rfl, trivial⟩ ⟨rfl, rfl, rfl, rfl, rfl, rfl, rfl, rfl, trivial⟩ (rfl) rfl (Nat.zero_le _) (fun i hI => ?_)
    have hI : i ≤ (x1.K.getD 0 zX).xs.length := hI
    have hcoi := hco (x1.K.length - 1 - 0) (by omega) i
    have hbdi := hbd0 i
    have hbci := bk_bc (x3.2.getD (x1.K.length - 1 - 0) zX).xs i
    have hnni := bk_nn (x3.2.getD (x1.K.length - 1 - 0) zX).xs i
    refine Ex.regSeq (ExL.pures 0 rfl ?_)
    refine ExL.lss rfl rfl rfl rfl rfl rfl (fun h4 => ?_) (fun h4 => ?_)
    · refine ExL.nil ?_
      refine Ex.seq ?_
      refine Ex.cond_t rfl ?_
      refine Ex.skip ?_
      refine Ex.seq ?_
      refine Ex.block ?_
      refine Ex.regSeq (ExL.pures 1 rfl ?_)
      refine ExL.free (fr_indexAddrF (readsX (i := 1) rfl (k := (x1.K.length - 1 - 0)) (by omega)) (eI_len .i64) rfl rfl rfl rfl rfl rfl (by omega)) rfl rfl rfl ?_
      refine ExL.free (fr_load rfl rfl rfl rfl (by first | exact cellN (readsX (i := 1) rfl (k := (x1.K.length - 1 - 0)) (by omega)) (eI_len .i64) 0 0 rfl (by omega) rfl | exact cellF (readsX (i := 1) rfl (k := (x1.K.length - 1 - 0)) (by omega)) (eI_len .i64) 0 0 rfl (by omega) rfl)) rfl rfl rfl ?_
      refine ExL.pures 2 rfl ?_
      refine ExL.nil ?_
      refine Ex.regSeq (ExL.pures 1 rfl ?_)
      refine ExL.geq rfl rfl rfl rfl rfl rfl (fun h5 => ?_) (fun h5 => ?_)
      · refine ExL.pures 2 rfl ?_
        refine ExL.lss rfl rfl rfl rfl rfl rfl (fun h6 => ?_) (fun h6 => ?_)
        · refine ExL.pures 11 rfl ?_
          refine ExL.nil ?_
          refine Ex.cond_t rfl ?_
          refine Ex.region (ExL.pures 2 rfl ?_)
          refine ExL.nil ?_
          refine Ex.region (ExL.pures 0 rfl ?_)
          refine ExL.free (by first | exact fr_add64 rfl rfl rfl (by omega) | exact fr_add rfl rfl rfl) rfl rfl rfl ?_
          refine ExL.pures 1 rfl ?_
          refine ExL.nil ?_
          refine Hand.mk (i + 1) 5 [0, 1, 2, 3, 4] ⟨agI (by first | rw [bk_y (c := (x3.2.getD (x1.K.length - 1 - 0) zX).xs) (i := i) (by omega) (by omega)] | rw [bk_n (c := (x3.2.getD (x1.K.length - 1 - 0) zX).xs) (i := i) (by omega)]), rfl, trivial⟩ ⟨rfl, rfl, rfl, rfl, rfl, rfl, rfl, rfl, trivial⟩ (rfl) rfl (by omega) (by omega)
        · refine ExL.pures 3 rfl ?_
          refine ExL.free (fr_indexAddr (sz := 1) rfl rfl rfl rfl rfl rfl (by omega)) rfl rfl rfl ?_
          refine ExL.free (fr_load rfl rfl rfl rfl (cellE (r := (x3.2.getD (x1.K.length - 1 - 0) zX)) (i := 0) (0) (Reads.row (i := 0) rfl) encX_len zX 0 rfl (by omega) (by rw [outE_len]; omega) (outE_at (by omega)) rfl)) rfl rfl rfl ?_
          refine ExL.pures 1 rfl ?_
          refine ExL.free (fr_indexAddrF (readsX (i := 1) rfl (k := (x1.K.length - 1 - 0)) (by omega)) (eI_len .i64) rfl rfl rfl rfl rfl rfl (by omega)) rfl rfl rfl ?_
          refine ExL.free (fr_load rfl rfl rfl rfl (cellF (readsX (i := 1) rfl (k := (x1.K.length - 1 - 0)) (by omega)) (eI_len .i64) 0 0 rfl (by omega) rfl)) rfl rfl rfl ?_
          refine ExL.lss rfl rfl rfl rfl rfl rfl (fun h7 => ?_) (fun h7 => ?_)
          · refine ExL.pures 2 rfl ?_
            refine ExL.nil ?_
            refine Ex.cond_t rfl ?_
            refine Ex.region (ExL.pures 2 rfl ?_)
            refine ExL.nil ?_
            refine Ex.region (ExL.pures 0 rfl ?_)
            refine ExL.free (by first | exact fr_add64 rfl rfl rfl (by omega) | exact fr_add rfl rfl rfl) rfl rfl rfl ?_
            refine ExL.pures 1 rfl ?_
            refine ExL.nil ?_
            refine Hand.mk (i + 1) 5 [0, 1, 2, 3, 4] ⟨agI (by first | rw [bk_y (c := (x3.2.getD (x1.K.length - 1 - 0) zX).xs) (i := i) (by omega) (by omega)] | rw [bk_n (c := (x3.2.getD (x1.K.length - 1 - 0) zX).xs) (i := i) (by omega)]), rfl, trivial⟩ ⟨rfl, rfl, rfl, rfl, rfl, rfl, rfl, rfl, trivial⟩ (rfl) rfl (by omega) (by omega)
          · refine ExL.pures 2 rfl ?_
            refine ExL.nil ?_
            refine Ex.cond_f rfl ?_
            refine Ex.skip ?_
            refine Ex.region (ExL.pures 0 rfl ?_)
            refine ExL.free (by first | exact fr_add64 rfl rfl rfl (by omega) | exact fr_add rfl rfl rfl) rfl rfl rfl ?_
            refine ExL.pures 1 rfl ?_
            refine ExL.nil ?_
            refine Hand.mk (i + 1) 5 [0, 1, 2, 3, 4] ⟨agI (by first | rw [bk_y (c := (x3.2.getD (x1.K.length - 1 - 0) zX).xs) (i := i) (by omega) (by omega)] | rw [bk_n (c := (x3.2.getD (x1.K.length - 1 - 0) zX).xs) (i := i) (by omega)]), rfl, trivial⟩ ⟨rfl, rfl, rfl, rfl, rfl, rfl, rfl, rfl, trivial⟩ (rfl) rfl (by omega) (by omega)
      · refine ExL.pures 14 rfl ?_
        refine ExL.nil ?_
        refine Ex.cond_f rfl ?_
        refine Ex.skip ?_
        refine Ex.region (ExL.pures 0 rfl ?_)
        refine ExL.free (by first | exact fr_add64 rfl rfl rfl (by omega) | exact fr_add rfl rfl rfl) rfl rfl rfl ?_
        refine ExL.pures 1 rfl ?_
        refine ExL.nil ?_
        refine Hand.mk (i + 1) 5 [0, 1, 2, 3, 4] ⟨agI (by first | rw [bk_y (c := (x3.2.getD (x1.K.length - 1 - 0) zX).xs) (i := i) (by omega) (by omega)] | rw [bk_n (c := (x3.2.getD (x1.K.length - 1 - 0) zX).xs) (i := i) (by omega)]), rfl, trivial⟩ ⟨rfl, rfl, rfl, rfl, rfl, rfl, rfl, rfl, trivial⟩ (rfl) rfl (by omega) (by omega)
    · refine ExL.nil ?_
      refine Ex.seq ?_
      refine Ex.cond_f rfl ?_
      refine Ex.exit ?_
      obtain rfl : i = (x1.K.getD 0 zX).xs.length := (by omega)
      refine Ex.seq ?_
      refine Ex.regSeq (ExL.pures 1 rfl ?_)
      refine ExL.lss rfl rfl rfl rfl rfl rfl (fun h8 => ?_) (fun h8 => ?_)
      · refine ExL.nil ?_
        refine Ex.cond_t rfl ?_
        refine Ex.regSeq (ExL.pures 3 rfl ?_)
        refine ExL.nil ?_
        refine Ex.nilRow 2 1 ?_
        refine Ex.ret ?_
        refine RetQ.mk (none, 0) rfl (.tmp rfl (.tmp rfl (.tmp rfl .nil))) (t3 (by first | (rw [hll, hlk]; first | done | rfl) | (rw [hlk]; first | done | rfl) | (rw [hll]; first | done | rfl) | (rw [lk_c hcn, hcu]; first | done | rfl) | (rw [lk_c hc0]; first | done | rfl) | (rw [lk_6 hc1 hx1 (by omega) hJl hR (by omega)]; first | done | rfl)) (by first | (rw [hll, hlk]; first | done | rfl) | (rw [hlk]; first | done | rfl) | (rw [hll]; first | done | rfl) | (rw [lk_c hcn, hcu]; first | done | rfl) | (rw [lk_c hc0]; first | done | rfl) | (rw [lk_6 hc1 hx1 (by omega) hJl hR (by omega)]; first | done | rfl)) (by first | (rw [hll, hlk]; first | done | rfl) | (rw [hlk]; first | done | rfl) | (rw [hll]; first | done | rfl) | (rw [lk_c hcn, hcu]; first | done | rfl) | (rw [lk_c hc0]; first | done | rfl) | (rw [lk_6 hc1 hx1 (by omega) hJl hR (by omega)]; first | done | rfl))) [0] (by first | (rw [hll, hlk]; first | done | rfl) | (rw [hlk]; first | done | rfl) | (rw [hll]; first | done | rfl) | (rw [lk_c hcn, hcu]; first | done | rfl) | (rw [lk_c hc0]; first | done | rfl) | (rw [lk_6 hc1 hx1 (by omega) hJl hR (by omega)]; first | done | rfl)) rfl (trivial)
      · refine ExL.nil ?_
        refine Ex.cond_f rfl ?_
        refine Ex.skip ?_
        have hbe : bestC (x3.2.getD (x1.K.length - 1 - 0) zX).xs (x1.K.getD 0 zX).xs.length = (x3.2.getD (x1.K.length - 1 - 0) zX).xs.getD (bestK (x3.2.getD (x1.K.length - 1 - 0) zX).xs (x1.K.getD 0 zX).xs.length).toNat 0 := by omega
        have hpath := path_ok (lo := lo) (hi := hi) (us := us) (F := (fun k => (x1.K.getD k zX).xs)) (C := (fun k => (x3.2.getD (x1.K.length - 1 - k) zX).xs)) (n := x1.K.length) (show 0 ≤ bestK (x3.2.getD (x1.K.length - 1 - 0) zX).xs (x1.K.getD 0 zX).xs.length by omega) (cos_min hJl hR)
        refine Ex.drawSeqM rfl ?_
        refine ExD.take (i := 0) rfl (by kernel_rfl) (pureVal_ok rfl) ((List.Sublist.refl _)) rfl rfl rfl ?_
        refine ExD.take (i := 1) rfl (by kernel_rfl) (pureVal_ok rfl) ((List.Sublist.refl _)) rfl rfl rfl ?_
        refine ExD.take (i := 2) rfl (by kernel_rfl) (pureVal_ok rfl) ((List.Sublist.refl _)) rfl rfl rfl ?_
        refine ExD.take (i := 3) rfl (by kernel_rfl) (fr_load rfl rfl rfl rfl (CellO.blk (i := 2) rfl rfl)) ((List.Sublist.refl _)) rfl rfl rfl ?_
        refine ExD.take (i := 4) rfl (by kernel_rfl) (fr_indexAddrR (sz := 1) 3 rfl rfl rfl rfl rfl rfl (by omega)) ((List.Sublist.refl _)) rfl rfl rfl ?_
        refine ExD.take (i := 5) rfl (by kernel_rfl) (fr_load rfl rfl rfl rfl (cellJ (i := 0) (0) (Reads.row (i := 3) rfl) encX_len zX 0 rfl (by omega) (by omega) rfl)) ((List.Sublist.refl _)) rfl rfl rfl ?_
        refine ExD.take (i := 6) rfl (by kernel_rfl) (pureVal_ok rfl) ((List.Sublist.refl _)) rfl rfl rfl ?_
        refine ExD.take (i := 7) rfl (by kernel_rfl) (fr_indexAddrF (readsX (i := 4) rfl (k := 0) (by omega)) (eI_len .i64) rfl rfl rfl rfl rfl rfl (by omega)) ((List.Sublist.refl _)) rfl rfl rfl ?_
        refine ExD.take (i := 8) rfl (by kernel_rfl) (fr_load rfl rfl rfl rfl (cellF (readsX (i := 4) rfl (k := 0) (by omega)) (eI_len .i64) 0 0 rfl (by omega) rfl)) ((List.Sublist.refl _)) rfl rfl rfl ?_
        refine ExD.take (i := 10) rfl (by kernel_rfl) (pureVal_ok rfl) ((List.Sublist.refl _)) rfl rfl rfl ?_
        refine ExD.take (i := 11) rfl (by kernel_rfl) (fr_indexAddr (sz := 1) rfl rfl rfl rfl rfl rfl (by omega)) ((List.Sublist.refl _)) rfl rfl rfl ?_
        refine ExD.take (i := 12) rfl (by kernel_rfl) (fr_load rfl rfl rfl rfl (cellE (r := (x3.2.getD (x1.K.length - 1 - 0) zX)) (i := 0) (0) (Reads.row (i := 0) rfl) encX_len zX 0 rfl (by omega) (by rw [outE_len]; omega) (outE_at (by omega)) rfl)) ((List.Sublist.refl _)) rfl rfl rfl ?_
        refine ExD.take (i := 13) rfl (by kernel_rfl) (pureVal_ok rfl) ((List.Sublist.refl _)) rfl rfl rfl ?_
        refine ExD.take (i := 14) rfl (by kernel_rfl) (fr_indexAddrF (readsX (i := 1) rfl (k := (x1.K.length - 1 - 0)) (by omega)) (eI_len .i64) rfl rfl rfl rfl rfl rfl (by omega)) ((List.Sublist.refl _)) rfl rfl rfl ?_
        refine ExD.take (i := 15) rfl (by kernel_rfl) (fr_load rfl rfl rfl rfl (cellF (readsX (i := 1) rfl (k := (x1.K.length - 1 - 0)) (by omega)) (eI_len .i64) 0 0 rfl (by omega) rfl)) ((List.Sublist.refl _)) rfl rfl rfl ?_
        refine ExD.op (i := 9) rfl (by kernel_rfl) rfl (op_buildSlice (sz := 1) rfl rfl rfl rfl rfl rfl rfl rfl (by decide) rfl rfl rfl (fun r9 => ⟨(List.Sublist.cons _ (List.Sublist.refl _)), ?_⟩))
        refine ExD.take (i := 16) rfl (by kernel_rfl) (pureVal_ok rfl) ((List.Sublist.cons _ (List.Sublist.refl _))) rfl rfl rfl ?_
        refine ExD.take (i := 17) rfl (by kernel_rfl) (pureVal_ok rfl) ((List.Sublist.cons _ (List.Sublist.refl _))) rfl rfl rfl ?_
        refine ExD.done (by kernel_rfl) ?_
        rw [← hbe]
        refine Ex.regSeq (ExL.pures 2 rfl ?_)
        refine ExL.nil ?_
        refine Ex.seq ?_
        refine Ex.regSeq (ExL.pures 1 rfl ?_)
        refine ExL.nil ?_
        refine Ex.block ?_
        refine Ex.loopA (fun k A c => [(19, .slice A k c), (21, .int .i64 (leftQ lo hi us (fun k => (x1.K.getD k zX).xs) (fun k => (x3.2.getD (x1.K.length - 1 - k) zX).xs) k)), (22, .int .i64 k)]) (fun k A c => [.row (.slice A k c) 2 1 k ((outQ lo hi us (fun k => (x1.K.getD k zX).xs) (fun k => (x3.2.getD (x1.K.length - 1 - k) zX).xs) k).flatMap (eI .i64))]) (fun k => 1 ≤ k ∧ k ≤ x1.K.length) (fun k => x1.K.length - k) 1 ((some ⟨r9, 0, none⟩)) (1) [(4, _), (10, _), (11, _), (12, _), (13, _), (15, _), (20, _)] [_, _, _, _, _] 6 [0, 1, 2, 3, 4, 5] ⟨rfl, agI (by first | rfl | exact hbe | exact hbe.symm), rfl, trivial⟩ ⟨rfl, rfl, rfl, rfl, rfl, rfl, rfl, trivial⟩ (rfl) rfl ⟨Nat.le_refl _, by omega⟩ (fun k A c hI => ?_)
        have hI : 1 ≤ k ∧ k ≤ x1.K.length := hI
        obtain ⟨hk1, hk⟩ := hI
        refine Ex.seq ?_
        refine Ex.regSeq (ExL.pures 4 rfl ?_)
        refine ExL.free (fr_load rfl rfl rfl rfl (CellO.blk (i := 3) rfl rfl)) rfl rfl rfl ?_
        refine ExL.pures 1 rfl ?_
        refine ExL.lss rfl rfl rfl rfl rfl rfl (fun h10 => ?_) (fun h10 => ?_)
        · refine ExL.nil ?_
          refine Ex.cond_t rfl ?_
          refine Ex.skip ?_
          refine Ex.seq ?_
          refine Ex.block ?_
          have hkL : k < L.length := by omega
          have hvl := hfl k hkL
          have hjk := hjl k hkL
          have hpk := hpath k (by omega)
          have hvi := hFa (k - 1) (idxP lo hi us (fun k => (x1.K.getD k zX).xs) (fun k => (x3.2.getD (x1.K.length - 1 - k) zX).xs) (k - 1))
          refine Ex.regSeq (ExL.pures 2 rfl ?_)
          refine ExL.free (Free.val ((k - 1 : Nat) : Int) (fr_sub64 rfl rfl rfl (by omega)) (by omega)) rfl rfl rfl ?_
          refine ExL.free (fr_indexAddrR (sz := 1) 0 rfl rfl rfl rfl rfl rfl (by omega)) rfl rfl rfl ?_
          refine ExL.free (fr_load rfl rfl rfl rfl (cellW (v := .int .i64 ((x1.K.getD (k - 1) zX).xs.getD (idxP lo hi us (fun k => (x1.K.getD k zX).xs) (fun k => (x3.2.getD (x1.K.length - 1 - k) zX).xs) (k - 1)) 0)) (i := ↑(k - 1)) (k - 1) (Reads.row (i := 0) rfl) (eI_len .i64) 0 0 rfl (by omega) (by rw [outQ_len]; omega) (outQ_at (by omega)) rfl)) rfl rfl rfl ?_
          refine ExL.pures 1 rfl ?_
          refine ExL.nil ?_
          refine Ex.regSeq (ExL.pures 3 rfl ?_)
          refine ExL.free (fr_load rfl rfl rfl rfl (CellO.blk (i := 3) rfl rfl)) rfl rfl rfl ?_
          refine ExL.pures 1 rfl ?_
          refine ExL.free (fr_indexAddrR (sz := 1) 4 rfl rfl rfl rfl rfl rfl (by omega)) rfl rfl rfl ?_
          refine ExL.free (fr_load rfl rfl rfl rfl (by first | exact cellN (Reads.row (i := 4) rfl) encX_len zX 0 rfl (by omega) rfl | exact cellF (Reads.row (i := 4) rfl) encX_len zX 0 rfl (by omega) rfl)) rfl rfl rfl ?_
          refine ExL.pures 2 rfl ?_
          refine ExL.nil ?_
          refine Ex.block ?_
          refine Ex.loopK (X := Nat) (fun j => [(110, .int .i64 j), (19, .slice A k c), (21, .int .i64 (leftQ lo hi us (fun k => (x1.K.getD k zX).xs) (fun k => (x3.2.getD (x1.K.length - 1 - k) zX).xs) k))]) (fun j => []) (fun j => j ≤ (x1.K.getD k zX).xs.length ∧ ∀ i, i < j → okA lo hi us (fun k => (x1.K.getD k zX).xs) (fun k => (x3.2.getD (x1.K.length - 1 - k) zX).xs) (bestV (fun k => (x1.K.getD k zX).xs) (fun k => (x3.2.getD (x1.K.length - 1 - k) zX).xs)) k (idxP lo hi us (fun k => (x1.K.getD k zX).xs) (fun k => (x3.2.getD (x1.K.length - 1 - k) zX).xs) (k - 1)) i = false) (fun j => (x1.K.getD k zX).xs.length - j) 0 [(4, _), (10, _), (11, _), (12, _), (13, _), (15, _), (20, _), (22, _), (23, _), (108, _), (109, _)] [_, _, _, _, _, _] 6 [0, 1, 2, 3, 4, 5] ⟨rfl, rfl, rfl, trivial⟩ ⟨rfl, rfl, rfl, rfl, rfl, rfl, rfl, rfl, rfl, rfl, rfl, trivial⟩ (rfl) rfl ⟨Nat.zero_le _, fun i hi => by omega⟩ (fun j hI => ?_)
          have hI : j ≤ (x1.K.getD k zX).xs.length ∧ ∀ i, i < j → okA lo hi us (fun k => (x1.K.getD k zX).xs) (fun k => (x3.2.getD (x1.K.length - 1 - k) zX).xs) (bestV (fun k => (x1.K.getD k zX).xs) (fun k => (x3.2.getD (x1.K.length - 1 - k) zX).xs)) k (idxP lo hi us (fun k => (x1.K.getD k zX).xs) (fun k => (x3.2.getD (x1.K.length - 1 - k) zX).xs) (k - 1)) i = false := hI
          obtain ⟨hj, hall⟩ := hI
          refine Ex.regSeq (ExL.pures 0 rfl ?_)
          refine ExL.lss rfl rfl rfl rfl rfl rfl (fun h11 => ?_) (fun h11 => ?_)
          · refine ExL.nil ?_
            refine Ex.seq ?_
            refine Ex.cond_t rfl ?_
            refine Ex.skip ?_
            refine Ex.seq ?_
            refine Ex.block ?_
            have hjj : j < (x1.K.getD k zX).xs.length := by omega
            have hvj := hFa k j
            have hab := abs_bd hvi hvj hus
            have hcj := hco (x1.K.length - 1 - k) (by omega) j
            refine Ex.regSeq (ExL.pures 1 rfl ?_)
            refine ExL.free (fr_indexAddrF (readsX (i := 5) rfl (k := k) (by omega)) (eI_len .i64) rfl rfl rfl rfl rfl rfl (by omega)) rfl rfl rfl ?_
            refine ExL.free (fr_load rfl rfl rfl rfl (by first | exact cellN (readsX (i := 5) rfl (k := k) (by omega)) (eI_len .i64) 0 0 rfl (by omega) rfl | exact cellF (readsX (i := 5) rfl (k := k) (by omega)) (eI_len .i64) 0 0 rfl (by omega) rfl)) rfl rfl rfl ?_
            refine ExL.pures 2 rfl ?_
            refine ExL.nil ?_
            refine Ex.regSeq (ExL.pures 2 rfl ?_)
            refine ExL.free (fr_indexAddr (sz := 1) rfl rfl rfl rfl rfl rfl (by omega)) rfl rfl rfl ?_
            refine ExL.free (fr_load rfl rfl rfl rfl (cellE (r := (x3.2.getD (x1.K.length - 1 - k) zX)) (i := ↑k) (k) (Reads.row (i := 1) rfl) encX_len zX 0 rfl (by omega) (by rw [outE_len]; omega) (outE_at (by omega)) rfl)) rfl rfl rfl ?_
            refine ExL.pures 1 rfl ?_
            refine ExL.free (fr_indexAddrF (readsX (i := 2) rfl (k := (x1.K.length - 1 - k)) (by omega)) (eI_len .i64) rfl rfl rfl rfl rfl rfl (by omega)) rfl rfl rfl ?_
            refine ExL.free (fr_load rfl rfl rfl rfl (by first | exact cellN (readsX (i := 2) rfl (k := (x1.K.length - 1 - k)) (by omega)) (eI_len .i64) 0 0 rfl (by omega) rfl | exact cellF (readsX (i := 2) rfl (k := (x1.K.length - 1 - k)) (by omega)) (eI_len .i64) 0 0 rfl (by omega) rfl)) rfl rfl rfl ?_
            refine ExL.pures 1 rfl ?_
            refine ExL.nil ?_
            refine Ex.regSeq (ExL.pures 1 rfl ?_)
            refine ExL.geq rfl rfl rfl rfl rfl rfl (fun h12 => ?_) (fun h12 => ?_)
            · refine ExL.pures 4 rfl ?_
              refine ExL.op rfl (op_ret rfl rfl rfl (c_goes _ lo hi (by omega) _ ((x1.K.getD (k - 1) zX).xs.getD (idxP lo hi us (fun k => (x1.K.getD k zX).xs) (fun k => (x3.2.getD (x1.K.length - 1 - k) zX).xs) (k - 1)) 0) ((x1.K.getD k zX).xs.getD j 0) (by omega) (by omega)) (Reads.get (Reads.blk (i := 3) rfl)) rfl rfl (fun x13 hx13 => ?_))
              refine ExL.pures 2 rfl ?_
              refine ExL.bool (d := 130) rfl (fun hb14 => ?_) (fun hb14 => ?_)
              · refine ExL.pures 3 rfl ?_
                refine ExL.free (by first | exact fr_sub64 rfl rfl rfl (by omega) | exact fr_sub rfl rfl rfl) rfl rfl rfl ?_
                refine ExL.pures 1 rfl ?_
                refine ExL.free (by first | exact fr_sub64 rfl rfl rfl (by omega) | exact fr_sub rfl rfl rfl) rfl rfl rfl ?_
                refine ExL.op rfl (op_ret rfl rfl rfl (c_absW ((((x1.K.getD k zX).xs.getD j 0) - ((x1.K.getD (k - 1) zX).xs.getD (idxP lo hi us (fun k => (x1.K.getD k zX).xs) (fun k => (x3.2.getD (x1.K.length - 1 - k) zX).xs) (k - 1)) 0)) - us) (by omega)) (fun _ _ => trivial) rfl rfl (fun x15 hx15 => ?_))
                refine ExL.free (by first | exact fr_add64 rfl rfl rfl (by omega) | exact fr_add rfl rfl rfl) rfl rfl rfl ?_
                refine ExL.pures 1 rfl ?_
                refine ExL.eql rfl rfl rfl rfl rfl rfl (fun h16 => ?_) (fun h16 => ?_)
                · refine ExL.pures 1 rfl ?_
                  refine ExL.nil ?_
                  refine Ex.cond_t rfl ?_
                  refine Ex.regSeq (ExL.pures 2 rfl ?_)
                  refine ExL.op rfl (op_buildSlice (sz := 1) rfl rfl rfl rfl rfl rfl rfl rfl (by decide) rfl rfl rfl (fun r17 => ?_))
                  refine ExL.op rfl (op_append (sz := 1) (bytes := 8) (i := 1) rfl rfl rfl rfl (Reads.row (i := 0) rfl) rfl (fun e => nomatch e) rfl rfl rfl rfl (by constructor <;> first | omega | (unfold maxLen; omega)) rfl rfl (fun A18 cA18 => ?_))
                  refine ExL.pures 3 rfl ?_
                  refine ExL.nil ?_
                  refine Ex.exit ?_
                  have hix := idx_eq hpk hall (ok_y (lo := lo) (hi := hi) (us := us) (F := (fun k => (x1.K.getD k zX).xs)) (C := (fun k => (x3.2.getD (x1.K.length - 1 - k) zX).xs)) (k := k) (i := (idxP lo hi us (fun k => (x1.K.getD k zX).xs) (fun k => (x3.2.getD (x1.K.length - 1 - k) zX).xs) (k - 1))) (j := j) (by omega) (by omega) (by assumption) (by omega) rfl)
                  have hlq : (x3.2.getD (x1.K.length - 1 - k) zX).xs.getD j 0 = leftQ lo hi us (fun k => (x1.K.getD k zX).xs) (fun k => (x3.2.getD (x1.K.length - 1 - k) zX).xs) (k + 1) := by rw [leftQ, hix]
                  refine Ex.region (ExL.pures 1 rfl ?_)
                  refine ExL.free (by first | exact fr_add64 rfl rfl rfl (by omega) | exact fr_add rfl rfl rfl) rfl rfl rfl ?_
                  refine ExL.pures 1 rfl ?_
                  refine ExL.nil ?_
                  refine HandA.of (k + 1) (A18) (cA18) 7 [1, 2, 3, 4, 5, 6] ⟨rfl, agI hlq, rfl, trivial⟩ ⟨rfl, rfl, rfl, rfl, rfl, rfl, rfl, trivial⟩ (by rw [outQ_s hix, List.flatMap_append]; rfl) rfl (by omega) (by omega)
                · refine ExL.pures 1 rfl ?_
                  refine ExL.nil ?_
                  refine Ex.cond_f rfl ?_
                  refine Ex.skip ?_
                  refine Ex.region (ExL.pures 0 rfl ?_)
                  refine ExL.free (by first | exact fr_add64 rfl rfl rfl (by omega) | exact fr_add rfl rfl rfl) rfl rfl rfl ?_
                  refine ExL.pures 1 rfl ?_
                  refine ExL.nil ?_
                  refine Hand.mk (j + 1) 6 [0, 1, 2, 3, 4, 5] ⟨rfl, rfl, rfl, trivial⟩ ⟨rfl, rfl, rfl, rfl, rfl, rfl, rfl, rfl, rfl, rfl, rfl, trivial⟩ (rfl) rfl (⟨by omega, all_snoc hall (by first | exact ok_n1 (by omega) | exact ok_n2 (by omega) (by assumption) | exact ok_n3 (by omega) (by omega) rfl)⟩) (by omega)
              · refine ExL.pures 11 rfl ?_
                refine ExL.nil ?_
                refine Ex.cond_f rfl ?_
                refine Ex.skip ?_
                refine Ex.region (ExL.pures 0 rfl ?_)
                refine ExL.free (by first | exact fr_add64 rfl rfl rfl (by omega) | exact fr_add rfl rfl rfl) rfl rfl rfl ?_
                refine ExL.pures 1 rfl ?_
                refine ExL.nil ?_
                refine Hand.mk (j + 1) 6 [0, 1, 2, 3, 4, 5] ⟨rfl, rfl, rfl, trivial⟩ ⟨rfl, rfl, rfl, rfl, rfl, rfl, rfl, rfl, rfl, rfl, rfl, trivial⟩ (rfl) rfl (⟨by omega, all_snoc hall (by first | exact ok_n1 (by omega) | exact ok_n2 (by omega) (by assumption) | exact ok_n3 (by omega) (by omega) rfl)⟩) (by omega)
            · refine ExL.pures 18 rfl ?_
              refine ExL.nil ?_
              refine Ex.cond_f rfl ?_
              refine Ex.skip ?_
              refine Ex.region (ExL.pures 0 rfl ?_)
              refine ExL.free (by first | exact fr_add64 rfl rfl rfl (by omega) | exact fr_add rfl rfl rfl) rfl rfl rfl ?_
              refine ExL.pures 1 rfl ?_
              refine ExL.nil ?_
              refine Hand.mk (j + 1) 6 [0, 1, 2, 3, 4, 5] ⟨rfl, rfl, rfl, trivial⟩ ⟨rfl, rfl, rfl, rfl, rfl, rfl, rfl, rfl, rfl, rfl, rfl, trivial⟩ (rfl) rfl (⟨by omega, all_snoc hall (by first | exact ok_n1 (by omega) | exact ok_n2 (by omega) (by assumption) | exact ok_n3 (by omega) (by omega) rfl)⟩) (by omega)
          · refine ExL.nil ?_
            refine Ex.seq ?_
            refine Ex.cond_f rfl ?_
            refine Ex.exit ?_
            exfalso; exact idx_no hpk hall (by first | omega | exact hj9)
        · refine ExL.nil ?_
          refine Ex.cond_f rfl ?_
          refine Ex.exit ?_
          obtain rfl : k = x1.K.length := (by omega)
          have hlk := lk_0 (k := x1.K.length) hc1 hx1 (by omega) hJl hR (by omega) hkl
          have hll : (likV s L lo hi us).1.length = x1.K.length := by rw [hlk]; exact outQ_len _ _ _ _ _ _
          refine Ex.regSeq (ExL.pures 5 rfl ?_)
          refine ExL.nil ?_
          refine Ex.ret ?_
          refine RetQ.mk (A, c) rfl (.tmp rfl (.tmp rfl (.tmp rfl .nil))) (t3 (by first | (rw [hll, hlk]; first | done | rfl) | (rw [hlk]; first | done | rfl) | (rw [hll]; first | done | rfl) | (rw [lk_c hcn, hcu]; first | done | rfl) | (rw [lk_c hc0]; first | done | rfl) | (rw [lk_6 hc1 hx1 (by omega) hJl hR (by omega)]; first | done | rfl)) (by first | (rw [hll, hlk]; first | done | rfl) | (rw [hlk]; first | done | rfl) | (rw [hll]; first | done | rfl) | (rw [lk_c hcn, hcu]; first | done | rfl) | (rw [lk_c hc0]; first | done | rfl) | (rw [lk_6 hc1 hx1 (by omega) hJl hR (by omega)]; first | done | rfl)) (by first | (rw [hll, hlk]; first | done | rfl) | (rw [hlk]; first | done | rfl) | (rw [hll]; first | done | rfl) | (rw [lk_c hcn, hcu]; first | done | rfl) | (rw [lk_c hc0]; first | done | rfl) | (rw [lk_6 hc1 hx1 (by omega) hJl hR (by omega)]; first | done | rfl))) [0] (by first | (rw [hll, hlk]; first | done | rfl) | (rw [hlk]; first | done | rfl) | (rw [hll]; first | done | rfl) | (rw [lk_c hcn, hcu]; first | done | rfl) | (rw [lk_c hc0]; first | done | rfl) | (rw [lk_6 hc1 hx1 (by omega) hJl hR (by omega)]; first | done | rfl)) rfl (trivial)
theorem c_iLik (s : List Int) (hu : Nums 255 s) (As : Option Addr) (cs : Nat) (hls : s.length ≤ maxLen) (L : List VPh) (hLk : ∀ k, k < L.length → OkPh (L.getD k zPh)) (bl cL : Nat) (hlL : L.length ≤ maxLen) (lo hi : Int) (us : Int) : Ret Try.prog 11 [.slice As s.length cs, .slice (some ⟨bl, 0, none⟩) L.length cL, .int .i64 lo, .int .i64 hi, .int .i64 us] (fun w => Rd w As (s.flatMap (eI .u8)) ∧ Rd w (some ⟨bl, 0, none⟩) (L.flatMap encPh)) (fun x : Option Addr × Nat => .tuple #[.slice x.1 (likV s L lo hi us).1.length x.2, .int .i64 (likV s L lo hi us).2.1, .int .i64 (likV s L lo hi us).2.2]) (fun x => [.row (.slice x.1 (likV s L lo hi us).1.length x.2) 2 1 (likV s L lo hi us).1.length ((likV s L lo hi us).1.flatMap (eI .i64))]) (fun x => True) := by
  by_cases h : codeF s L lo hi us = 0
  · exact c_iLik_t s hu As cs hls L hLk bl cL hlL lo hi us h
  · exact c_iLik_f s hu As cs hls L hLk bl cL hlL lo hi us h
theorem e_12 : Enters Try.prog 12 := Enters.of Try.func12 rfl
theorem c_sLik_f (s : List Int) (hu : Nums 255 s) (As : Option Addr) (cs : Nat) (hls : s.length ≤ maxLen) (L : List VPh) (hLk : ∀ k, k < L.length → OkPh (L.getD k zPh)) (bl cL : Nat) (hlL : L.length ≤ maxLen) (lo hi : Int) (us : Int) (hc0 : codeF s L lo hi lo ≠ 0) : Ret Try.prog 12 [.slice As s.length cs, .slice (some ⟨bl, 0, none⟩) L.length cL, .int .i64 lo, .int .i64 hi, .int .i64 us] (fun w => Rd w As (s.flatMap (eI .u8)) ∧ Rd w (some ⟨bl, 0, none⟩) (L.flatMap encPh)) (fun x : Option Addr × Nat => .tuple #[.slice x.1 (likV s L lo hi us).1.length x.2, .int .i64 (likV s L lo hi us).2.1, .int .i64 (likV s L lo hi us).2.2]) (fun x => [.row (.slice x.1 (likV s L lo hi us).1.length x.2) 2 1 (likV s L lo hi us).1.length ((likV s L lo hi us).1.flatMap (eI .i64))]) (fun x => True) := by
  refine Ret.of e_12 Try.func12 rfl Try.ntmps12 rfl rfl (fun w hpre => ?_)
  have hs := hpre.1.base
  have hLr := hpre.2.base
  have hm0 : maxLen = 9223372036854775807 := rfl
  refine Ex.regSeq (ExL.pures 3 rfl ?_)
  refine ExL.nil ?_
  refine Ex.regSeq (ExL.pures 4 rfl ?_)
  refine ExL.op rfl (op_ret rfl rfl rfl (c_l05Begin_f s (by assumption) _ _ (by omega) L (by assumption) _ _ (by omega) lo hi hc0) (fun w hw => ⟨Reads.get (Reads.old hs) w hw, Reads.get (Reads.old hLr) w hw⟩) rfl rfl (fun x1 hx1 => ?_))
  refine ExL.pures 5 rfl ?_
  refine ExL.nil ?_
  refine Ex.seq ?_
  refine Ex.regSeq (ExL.pures 1 rfl ?_)
  refine ExL.eql rfl rfl rfl rfl rfl rfl (fun h2 => ?_) (fun h2 => ?_)
  · refine ExL.pures 8 rfl ?_
    refine ExL.op rfl (op_ret rfl rfl rfl (c_l00In _ _ _) (fun _ _ => trivial) rfl rfl (fun x3 hx3 => ?_))
    refine ExL.pures 2 rfl ?_
    refine ExL.nil ?_
    refine Ex.cond rfl (fun hb4 => ?_) (fun hb4 => ?_)
    · replace hb4 := nd_t hb4
      refine Ex.region (ExL.pures 1 rfl ?_)
      refine ExL.nil ?_
      refine Ex.seq ?_
      refine Ex.regSeq (ExL.pures 1 rfl ?_)
      refine ExL.neq rfl rfl rfl rfl rfl rfl (fun h5 => ?_) (fun h5 => ?_)
      · refine ExL.nil ?_
        refine Ex.cond_t rfl ?_
        have hcu : codeF s L lo hi us = 2 := cu_2 (by omega) (by omega)
        have hcn : codeF s L lo hi us ≠ 0 := by omega
        refine Ex.regSeq (ExL.pures 0 rfl ?_)
        refine ExL.op rfl (op_buildSlice (sz := 1) rfl rfl rfl rfl rfl rfl rfl rfl (by decide) rfl rfl rfl (fun r6 => ?_))
        refine ExL.pures 4 rfl ?_
        refine ExL.nil ?_
        refine Ex.ret ?_
        refine RetQ.mk ((some ⟨r6, 0, none⟩), 0) rfl (.tmp rfl (.tmp rfl (.tmp rfl .nil))) (t3 (by first | (rw [hll, hlk]; first | done | rfl) | (rw [hlk]; first | done | rfl) | (rw [hll]; first | done | rfl) | (rw [lk_c hcn, hcu]; first | done | rfl) | (rw [lk_c hc0]; first | done | rfl) | (rw [lk_6 hc1 hx1 (by omega) hJl hR (by omega)]; first | done | rfl)) (by first | (rw [hll, hlk]; first | done | rfl) | (rw [hlk]; first | done | rfl) | (rw [hll]; first | done | rfl) | (rw [lk_c hcn, hcu]; first | done | rfl) | (rw [lk_c hc0]; first | done | rfl) | (rw [lk_6 hc1 hx1 (by omega) hJl hR (by omega)]; first | done | rfl)) (by first | (rw [hll, hlk]; first | done | rfl) | (rw [hlk]; first | done | rfl) | (rw [hll]; first | done | rfl) | (rw [lk_c hcn, hcu]; first | done | rfl) | (rw [lk_c hc0]; first | done | rfl) | (rw [lk_6 hc1 hx1 (by omega) hJl hR (by omega)]; first | done | rfl))) [0] (by first | (rw [hll, hlk]; first | done | rfl) | (rw [hlk]; first | done | rfl) | (rw [hll]; first | done | rfl) | (rw [lk_c hcn, hcu]; first | done | rfl) | (rw [lk_c hc0]; first | done | rfl) | (rw [lk_6 hc1 hx1 (by omega) hJl hR (by omega)]; first | done | rfl)) rfl (trivial)
      · refine ExL.nil ?_
        refine Ex.cond_f rfl ?_
        refine Ex.skip ?_
        exfalso; omega
    · replace hb4 := nd_f hb4
      refine Ex.skip ?_
      refine Ex.seq ?_
      refine Ex.regSeq (ExL.pures 1 rfl ?_)
      refine ExL.neq rfl rfl rfl rfl rfl rfl (fun h7 => ?_) (fun h7 => ?_)
      · refine ExL.nil ?_
        refine Ex.cond_t rfl ?_
        have hcu : codeF s L lo hi us = codeF s L lo hi lo := cu_s (by omega)
        have hcn : codeF s L lo hi us ≠ 0 := by omega
        refine Ex.regSeq (ExL.pures 0 rfl ?_)
        refine ExL.op rfl (op_buildSlice (sz := 1) rfl rfl rfl rfl rfl rfl rfl rfl (by decide) rfl rfl rfl (fun r8 => ?_))
        refine ExL.pures 4 rfl ?_
        refine ExL.nil ?_
        refine Ex.ret ?_
        refine RetQ.mk ((some ⟨r8, 0, none⟩), 0) rfl (.tmp rfl (.tmp rfl (.tmp rfl .nil))) (t3 (by first | (rw [hll, hlk]; first | done | rfl) | (rw [hlk]; first | done | rfl) | (rw [hll]; first | done | rfl) | (rw [lk_c hcn, hcu]; first | done | rfl) | (rw [lk_c hc0]; first | done | rfl) | (rw [lk_6 hc1 hx1 (by omega) hJl hR (by omega)]; first | done | rfl)) (by first | (rw [hll, hlk]; first | done | rfl) | (rw [hlk]; first | done | rfl) | (rw [hll]; first | done | rfl) | (rw [lk_c hcn, hcu]; first | done | rfl) | (rw [lk_c hc0]; first | done | rfl) | (rw [lk_6 hc1 hx1 (by omega) hJl hR (by omega)]; first | done | rfl)) (by first | (rw [hll, hlk]; first | done | rfl) | (rw [hlk]; first | done | rfl) | (rw [hll]; first | done | rfl) | (rw [lk_c hcn, hcu]; first | done | rfl) | (rw [lk_c hc0]; first | done | rfl) | (rw [lk_6 hc1 hx1 (by omega) hJl hR (by omega)]; first | done | rfl))) [0] (by first | (rw [hll, hlk]; first | done | rfl) | (rw [hlk]; first | done | rfl) | (rw [hll]; first | done | rfl) | (rw [lk_c hcn, hcu]; first | done | rfl) | (rw [lk_c hc0]; first | done | rfl) | (rw [lk_6 hc1 hx1 (by omega) hJl hR (by omega)]; first | done | rfl)) rfl (trivial)
      · refine ExL.nil ?_
        refine Ex.cond_f rfl ?_
        refine Ex.skip ?_
        exfalso; omega
  · refine ExL.pures 2 rfl ?_
    refine ExL.eql rfl rfl rfl rfl rfl rfl (fun h9 => ?_) (fun h9 => ?_)
    · refine ExL.pures 5 rfl ?_
      refine ExL.op rfl (op_ret rfl rfl rfl (c_l00In _ _ _) (fun _ _ => trivial) rfl rfl (fun x10 hx10 => ?_))
      refine ExL.pures 2 rfl ?_
      refine ExL.nil ?_
      refine Ex.cond rfl (fun hb11 => ?_) (fun hb11 => ?_)
      · replace hb11 := nd_t hb11
        refine Ex.region (ExL.pures 1 rfl ?_)
        refine ExL.nil ?_
        refine Ex.seq ?_
        refine Ex.regSeq (ExL.pures 1 rfl ?_)
        refine ExL.neq rfl rfl rfl rfl rfl rfl (fun h12 => ?_) (fun h12 => ?_)
        · refine ExL.nil ?_
          refine Ex.cond_t rfl ?_
          have hcu : codeF s L lo hi us = 2 := cu_2 (by omega) (by omega)
          have hcn : codeF s L lo hi us ≠ 0 := by omega
          refine Ex.regSeq (ExL.pures 0 rfl ?_)
          refine ExL.op rfl (op_buildSlice (sz := 1) rfl rfl rfl rfl rfl rfl rfl rfl (by decide) rfl rfl rfl (fun r13 => ?_))
          refine ExL.pures 4 rfl ?_
          refine ExL.nil ?_
          refine Ex.ret ?_
          refine RetQ.mk ((some ⟨r13, 0, none⟩), 0) rfl (.tmp rfl (.tmp rfl (.tmp rfl .nil))) (t3 (by first | (rw [hll, hlk]; first | done | rfl) | (rw [hlk]; first | done | rfl) | (rw [hll]; first | done | rfl) | (rw [lk_c hcn, hcu]; first | done | rfl) | (rw [lk_c hc0]; first | done | rfl) | (rw [lk_6 hc1 hx1 (by omega) hJl hR (by omega)]; first | done | rfl)) (by first | (rw [hll, hlk]; first | done | rfl) | (rw [hlk]; first | done | rfl) | (rw [hll]; first | done | rfl) | (rw [lk_c hcn, hcu]; first | done | rfl) | (rw [lk_c hc0]; first | done | rfl) | (rw [lk_6 hc1 hx1 (by omega) hJl hR (by omega)]; first | done | rfl)) (by first | (rw [hll, hlk]; first | done | rfl) | (rw [hlk]; first | done | rfl) | (rw [hll]; first | done | rfl) | (rw [lk_c hcn, hcu]; first | done | rfl) | (rw [lk_c hc0]; first | done | rfl) | (rw [lk_6 hc1 hx1 (by omega) hJl hR (by omega)]; first | done | rfl))) [0] (by first | (rw [hll, hlk]; first | done | rfl) | (rw [hlk]; first | done | rfl) | (rw [hll]; first | done | rfl) | (rw [lk_c hcn, hcu]; first | done | rfl) | (rw [lk_c hc0]; first | done | rfl) | (rw [lk_6 hc1 hx1 (by omega) hJl hR (by omega)]; first | done | rfl)) rfl (trivial)
        · refine ExL.nil ?_
          refine Ex.cond_f rfl ?_
          refine Ex.skip ?_
          exfalso; omega
      · replace hb11 := nd_f hb11
        refine Ex.skip ?_
        refine Ex.seq ?_
        refine Ex.regSeq (ExL.pures 1 rfl ?_)
        refine ExL.neq rfl rfl rfl rfl rfl rfl (fun h14 => ?_) (fun h14 => ?_)
        · refine ExL.nil ?_
          refine Ex.cond_t rfl ?_
          have hcu : codeF s L lo hi us = codeF s L lo hi lo := cu_s (by omega)
          have hcn : codeF s L lo hi us ≠ 0 := by omega
          refine Ex.regSeq (ExL.pures 0 rfl ?_)
          refine ExL.op rfl (op_buildSlice (sz := 1) rfl rfl rfl rfl rfl rfl rfl rfl (by decide) rfl rfl rfl (fun r15 => ?_))
          refine ExL.pures 4 rfl ?_
          refine ExL.nil ?_
          refine Ex.ret ?_
          refine RetQ.mk ((some ⟨r15, 0, none⟩), 0) rfl (.tmp rfl (.tmp rfl (.tmp rfl .nil))) (t3 (by first | (rw [hll, hlk]; first | done | rfl) | (rw [hlk]; first | done | rfl) | (rw [hll]; first | done | rfl) | (rw [lk_c hcn, hcu]; first | done | rfl) | (rw [lk_c hc0]; first | done | rfl) | (rw [lk_6 hc1 hx1 (by omega) hJl hR (by omega)]; first | done | rfl)) (by first | (rw [hll, hlk]; first | done | rfl) | (rw [hlk]; first | done | rfl) | (rw [hll]; first | done | rfl) | (rw [lk_c hcn, hcu]; first | done | rfl) | (rw [lk_c hc0]; first | done | rfl) | (rw [lk_6 hc1 hx1 (by omega) hJl hR (by omega)]; first | done | rfl)) (by first | (rw [hll, hlk]; first | done | rfl) | (rw [hlk]; first | done | rfl) | (rw [hll]; first | done | rfl) | (rw [lk_c hcn, hcu]; first | done | rfl) | (rw [lk_c hc0]; first | done | rfl) | (rw [lk_6 hc1 hx1 (by omega) hJl hR (by omega)]; first | done | rfl))) [0] (by first | (rw [hll, hlk]; first | done | rfl) | (rw [hlk]; first | done | rfl) | (rw [hll]; first | done | rfl) | (rw [lk_c hcn, hcu]; first | done | rfl) | (rw [lk_c hc0]; first | done | rfl) | (rw [lk_6 hc1 hx1 (by omega) hJl hR (by omega)]; first | done | rfl)) rfl (trivial)
        · refine ExL.nil ?_
          refine Ex.cond_f rfl ?_
          refine Ex.skip ?_
          exfalso; omega
    · refine ExL.pures 8 rfl ?_
      refine ExL.nil ?_
      refine Ex.cond_f rfl ?_
      refine Ex.skip ?_
      refine Ex.seq ?_
      refine Ex.regSeq (ExL.pures 1 rfl ?_)
      refine ExL.neq rfl rfl rfl rfl rfl rfl (fun h16 => ?_) (fun h16 => ?_)
      · refine ExL.nil ?_
        refine Ex.cond_t rfl ?_
        have hcu : codeF s L lo hi us = codeF s L lo hi lo := cu_s (by omega)
        have hcn : codeF s L lo hi us ≠ 0 := by omega
        refine Ex.regSeq (ExL.pures 0 rfl ?_)
        refine ExL.op rfl (op_buildSlice (sz := 1) rfl rfl rfl rfl rfl rfl rfl rfl (by decide) rfl rfl rfl (fun r17 => ?_))
        refine ExL.pures 4 rfl ?_
        refine ExL.nil ?_
        refine Ex.ret ?_
        refine RetQ.mk ((some ⟨r17, 0, none⟩), 0) rfl (.tmp rfl (.tmp rfl (.tmp rfl .nil))) (t3 (by first | (rw [hll, hlk]; first | done | rfl) | (rw [hlk]; first | done | rfl) | (rw [hll]; first | done | rfl) | (rw [lk_c hcn, hcu]; first | done | rfl) | (rw [lk_c hc0]; first | done | rfl) | (rw [lk_6 hc1 hx1 (by omega) hJl hR (by omega)]; first | done | rfl)) (by first | (rw [hll, hlk]; first | done | rfl) | (rw [hlk]; first | done | rfl) | (rw [hll]; first | done | rfl) | (rw [lk_c hcn, hcu]; first | done | rfl) | (rw [lk_c hc0]; first | done | rfl) | (rw [lk_6 hc1 hx1 (by omega) hJl hR (by omega)]; first | done | rfl)) (by first | (rw [hll, hlk]; first | done | rfl) | (rw [hlk]; first | done | rfl) | (rw [hll]; first | done | rfl) | (rw [lk_c hcn, hcu]; first | done | rfl) | (rw [lk_c hc0]; first | done | rfl) | (rw [lk_6 hc1 hx1 (by omega) hJl hR (by omega)]; first | done | rfl))) [0] (by first | (rw [hll, hlk]; first | done | rfl) | (rw [hlk]; first | done | rfl) | (rw [hll]; first | done | rfl) | (rw [lk_c hcn, hcu]; first | done | rfl) | (rw [lk_c hc0]; first | done | rfl) | (rw [lk_6 hc1 hx1 (by omega) hJl hR (by omega)]; first | done | rfl)) rfl (trivial)
      · refine ExL.nil ?_
        refine Ex.cond_f rfl ?_
        refine Ex.skip ?_
        exfalso; omega
theorem c_sLik_t (s : List Int) (hu : Nums 255 s) (As : Option Addr) (cs : Nat) (hls : s.length ≤ maxLen) (L : List VPh) (hLk : ∀ k, k < L.length → OkPh (L.getD k zPh)) (bl cL : Nat) (hlL : L.length ≤ maxLen) (lo hi : Int) (us : Int) (hc0 : codeF s L lo hi lo = 0) : Ret Try.prog 12 [.slice As s.length cs, .slice (some ⟨bl, 0, none⟩) L.length cL, .int .i64 lo, .int .i64 hi, .int .i64 us] (fun w => Rd w As (s.flatMap (eI .u8)) ∧ Rd w (some ⟨bl, 0, none⟩) (L.flatMap encPh)) (fun x : Option Addr × Nat => .tuple #[.slice x.1 (likV s L lo hi us).1.length x.2, .int .i64 (likV s L lo hi us).2.1, .int .i64 (likV s L lo hi us).2.2]) (fun x => [.row (.slice x.1 (likV s L lo hi us).1.length x.2) 2 1 (likV s L lo hi us).1.length ((likV s L lo hi us).1.flatMap (eI .i64))]) (fun x => True) := by
  refine Ret.of e_12 Try.func12 rfl Try.ntmps12 rfl rfl (fun w hpre => ?_)
  have hs := hpre.1.base
  have hLr := hpre.2.base
  have hm0 : maxLen = 9223372036854775807 := rfl
  have hLo : ∀ p ∈ L, OkPh p := fun p hp => by obtain ⟨i, hi, rfl⟩ := List.getElem_of_mem hp; have := hLk i hi; simpa [List.getD, hi] using this
  have hF := film hLo hc0
  have hl0 := hF.l0
  have hlh := hF.le
  have hh1 := hF.h1
  have hS := hF.st
  have hv := hF.vs
  have hn1 := hF.len
  refine Ex.regSeq (ExL.pures 3 rfl ?_)
  refine ExL.nil ?_
  refine Ex.regSeq (ExL.pures 4 rfl ?_)
  refine ExL.op rfl (op_ret rfl rfl rfl (c_l05Begin_t s (by assumption) _ _ (by omega) L (by assumption) _ _ (by omega) lo hi hc0) (fun w hw => ⟨Reads.get (Reads.old hs) w hw, Reads.get (Reads.old hLr) w hw⟩) rfl rfl (fun x1 hx1 => ?_))
  have hfk := fk hF hx1
  have hkl := hfk.len
  have hfv := hfk.v
  have hfl := hfk.vl
  refine ExL.pures 5 rfl ?_
  refine ExL.nil ?_
  refine Ex.seq ?_
  refine Ex.regSeq (ExL.pures 1 rfl ?_)
  refine ExL.free (fr_eql_t rfl rfl rfl (rfl)) rfl rfl rfl ?_
  refine ExL.pures 8 rfl ?_
  refine ExL.op rfl (op_ret rfl rfl rfl (c_l00In _ _ _) (fun _ _ => trivial) rfl rfl (fun x2 hx2 => ?_))
  refine ExL.pures 2 rfl ?_
  refine ExL.nil ?_
  refine Ex.cond rfl (fun hb3 => ?_) (fun hb3 => ?_)
  · replace hb3 := nd_t hb3
    refine Ex.region (ExL.pures 1 rfl ?_)
    refine ExL.nil ?_
    refine Ex.seq ?_
    refine Ex.regSeq (ExL.pures 1 rfl ?_)
    refine ExL.neq rfl rfl rfl rfl rfl rfl (fun h4 => ?_) (fun h4 => ?_)
    · refine ExL.nil ?_
      refine Ex.cond_t rfl ?_
      have hcu : codeF s L lo hi us = 2 := cu_2 (by omega) (by omega)
      have hcn : codeF s L lo hi us ≠ 0 := by omega
      refine Ex.regSeq (ExL.pures 0 rfl ?_)
      refine ExL.op rfl (op_buildSlice (sz := 1) rfl rfl rfl rfl rfl rfl rfl rfl (by decide) rfl rfl rfl (fun r5 => ?_))
      refine ExL.pures 4 rfl ?_
      refine ExL.nil ?_
      refine Ex.ret ?_
      refine RetQ.mk ((some ⟨r5, 0, none⟩), 0) rfl (.tmp rfl (.tmp rfl (.tmp rfl .nil))) (t3 (by first | (rw [hll, hlk]; first | done | rfl) | (rw [hlk]; first | done | rfl) | (rw [hll]; first | done | rfl) | (rw [lk_c hcn, hcu]; first | done | rfl) | (rw [lk_c hc0]; first | done | rfl) | (rw [lk_6 hc1 hx1 (by omega) hJl hR (by omega)]; first | done | rfl)) (by first | (rw [hll, hlk]; first | done | rfl) | (rw [hlk]; first | done | rfl) | (rw [hll]; first | done | rfl) | (rw [lk_c hcn, hcu]; first | done | rfl) | (rw [lk_c hc0]; first | done | rfl) | (rw [lk_6 hc1 hx1 (by omega) hJl hR (by omega)]; first | done | rfl)) (by first | (rw [hll, hlk]; first | done | rfl) | (rw [hlk]; first | done | rfl) | (rw [hll]; first | done | rfl) | (rw [lk_c hcn, hcu]; first | done | rfl) | (rw [lk_c hc0]; first | done | rfl) | (rw [lk_6 hc1 hx1 (by omega) hJl hR (by omega)]; first | done | rfl))) [0] (by first | (rw [hll, hlk]; first | done | rfl) | (rw [hlk]; first | done | rfl) | (rw [hll]; first | done | rfl) | (rw [lk_c hcn, hcu]; first | done | rfl) | (rw [lk_c hc0]; first | done | rfl) | (rw [lk_6 hc1 hx1 (by omega) hJl hR (by omega)]; first | done | rfl)) rfl (trivial)
    · refine ExL.nil ?_
      refine Ex.cond_f rfl ?_
      refine Ex.skip ?_
      exfalso; omega
  · replace hb3 := nd_f hb3
    refine Ex.skip ?_
    refine Ex.seq ?_
    refine Ex.regSeq (ExL.pures 1 rfl ?_)
    refine ExL.neq rfl rfl rfl rfl rfl rfl (fun h6 => ?_) (fun h6 => ?_)
    · refine ExL.nil ?_
      refine Ex.cond_t rfl ?_
      exfalso; omega
    · refine ExL.nil ?_
      refine Ex.cond_f rfl ?_
      refine Ex.skip ?_
      have hus : 0 ≤ us ∧ us ≤ 1000000000000 := by omega
      have hc1 : codeF s L lo hi us = 0 := (cu_s (.inr (by omega))).trans hc0
      refine Ex.regSeq (ExL.pures 2 rfl ?_)
      refine ExL.op rfl (op_ret rfl rfl rfl (c_costs _ x1.K L.length hfk lo hi (by omega) x1.A x1.c _ us (by omega)) (fun w hw => ⟨Reads.get (Reads.blk (i := 0) rfl) w hw, Reads.get (Reads.row (i := 1) rfl) w hw, fun k hk => Reads.get (readsX (i := 2) rfl hk) w hw⟩) rfl rfl (fun x7 hx7 => ?_))
      obtain ⟨hJl, hR⟩ := hx7
      have hjl : ∀ k, k < L.length → (x7.2.getD (x1.K.length - 1 - k) zX).xs.length = (x1.K.getD k zX).xs.length := fun k hk => by rw [hR _ (by omega), cost_ln (by omega)]; show (x1.K.getD (x1.K.length - 1 - (x1.K.length - 1 - k)) zX).xs.length = _; rw [show x1.K.length - 1 - (x1.K.length - 1 - k) = k by omega]
      have hjl0 := hjl 0 (by omega)
      have hvl0 := hfl 0 (by omega)
      have hFa := fk_all hfk
      have hco := fun k (hk : k < x7.2.length) (q : Nat) => co_bd (F := fun k => (x1.K.getD k zX).xs) (lo := lo) (hi := hi) (us := us) (n := x1.K.length) hFa hus hR (by omega) hk q
      have hbd0 := fun i => bk_bd (x7.2.getD (x1.K.length - 1 - 0) zX).xs i
      refine ExL.pures 1 rfl ?_
      refine ExL.nil ?_
      refine Ex.regSeq (ExL.pures 1 rfl ?_)
      refine ExL.nil ?_
      refine Ex.seq ?_
      refine Ex.regSeq (ExL.pures 1 rfl ?_)
      refine ExL.nil ?_
      refine Ex.block ?_
      refine Ex.loopK (X := Nat) (fun i => [(16, .int .i64 (bestC (x7.2.getD (x1.K.length - 1 - 0) zX).xs i)), (17, .int .i64 i)]) (fun i => []) (fun i => i ≤ (x1.K.getD 0 zX).xs.length) (fun i => (x1.K.getD 0 zX).xs.length - i) 0 [(4, _), (10, _), (11, _), (12, _), (13, _), (15, _)] [_, _, _, _, _] 5 [0, 1, 2, 3, 4] ⟨rfl, rfl, trivial⟩ ⟨rfl, rfl, rfl, rfl, rfl, rfl, trivial⟩ (rfl) rfl (Nat.zero_le _) (fun i hI => ?_)
      have hI : i ≤ (x1.K.getD 0 zX).xs.length := hI
      have hcoi := hco (x1.K.length - 1 - 0) (by omega) i
      have hbdi := hbd0 i
      have hbci := bk_bc (x7.2.getD (x1.K.length - 1 - 0) zX).xs i
      have hnni := bk_nn (x7.2.getD (x1.K.length - 1 - 0) zX).xs i
      refine Ex.seq ?_
      refine Ex.regSeq (ExL.pures 2 rfl ?_)
      refine ExL.free (fr_indexAddr (sz := 1) rfl rfl rfl rfl rfl rfl (by omega)) rfl rfl rfl ?_
      refine ExL.free (fr_load rfl rfl rfl rfl (cellE (r := (x7.2.getD (x1.K.length - 1 - 0) zX)) (i := 0) (0) (Reads.row (i := 0) rfl) encX_len zX 0 rfl (by omega) (by rw [outE_len]; omega) (outE_at (by omega)) rfl)) rfl rfl rfl ?_
      refine ExL.pures 1 rfl ?_
      refine ExL.lss rfl rfl rfl rfl rfl rfl (fun h8 => ?_) (fun h8 => ?_)
      · refine ExL.nil ?_
        refine Ex.cond_t rfl ?_
        refine Ex.skip ?_
        refine Ex.seq ?_
        refine Ex.block ?_
        refine Ex.regSeq (ExL.pures 1 rfl ?_)
        refine ExL.free (fr_indexAddr (sz := 1) rfl rfl rfl rfl rfl rfl (by omega)) rfl rfl rfl ?_
        refine ExL.free (fr_load rfl rfl rfl rfl (cellE (r := (x7.2.getD (x1.K.length - 1 - 0) zX)) (i := 0) (0) (Reads.row (i := 0) rfl) encX_len zX 0 rfl (by omega) (by rw [outE_len]; omega) (outE_at (by omega)) rfl)) rfl rfl rfl ?_
        refine ExL.pures 1 rfl ?_
        refine ExL.free (fr_indexAddrF (readsX (i := 1) rfl (k := (x1.K.length - 1 - 0)) (by omega)) (eI_len .i64) rfl rfl rfl rfl rfl rfl (by omega)) rfl rfl rfl ?_
        refine ExL.free (fr_load rfl rfl rfl rfl (by first | exact cellN (readsX (i := 1) rfl (k := (x1.K.length - 1 - 0)) (by omega)) (eI_len .i64) 0 0 rfl (by omega) rfl | exact cellF (readsX (i := 1) rfl (k := (x1.K.length - 1 - 0)) (by omega)) (eI_len .i64) 0 0 rfl (by omega) rfl)) rfl rfl rfl ?_
        refine ExL.geq rfl rfl rfl rfl rfl rfl (fun h9 => ?_) (fun h9 => ?_)
        · refine ExL.pures 2 rfl ?_
          refine ExL.lss rfl rfl rfl rfl rfl rfl (fun h10 => ?_) (fun h10 => ?_)
          · refine ExL.pures 11 rfl ?_
            refine ExL.nil ?_
            refine Ex.cond_t rfl ?_
            refine Ex.region (ExL.pures 1 rfl ?_)
            refine ExL.free (fr_indexAddr (sz := 1) rfl rfl rfl rfl rfl rfl (by omega)) rfl rfl rfl ?_
            refine ExL.free (fr_load rfl rfl rfl rfl (cellE (r := (x7.2.getD (x1.K.length - 1 - 0) zX)) (i := 0) (0) (Reads.row (i := 0) rfl) encX_len zX 0 rfl (by omega) (by rw [outE_len]; omega) (outE_at (by omega)) rfl)) rfl rfl rfl ?_
            refine ExL.pures 1 rfl ?_
            refine ExL.free (fr_indexAddrF (readsX (i := 1) rfl (k := (x1.K.length - 1 - 0)) (by omega)) (eI_len .i64) rfl rfl rfl rfl rfl rfl (by omega)) rfl rfl rfl ?_
            refine ExL.free (fr_load rfl rfl rfl rfl (by first | exact cellN (readsX (i := 1) rfl (k := (x1.K.length - 1 - 0)) (by omega)) (eI_len .i64) 0 0 rfl (by omega) rfl | exact cellF (readsX (i := 1) rfl (k := (x1.K.length - 1 - 0)) (by omega)) (eI_len .i64) 0 0 rfl (by omega) rfl)) rfl rfl rfl ?_
            refine ExL.pures 1 rfl ?_
            refine ExL.nil ?_
            refine Ex.region (ExL.pures 1 rfl ?_)
            refine ExL.free (by first | exact fr_add64 rfl rfl rfl (by omega) | exact fr_add rfl rfl rfl) rfl rfl rfl ?_
            refine ExL.pures 1 rfl ?_
            refine ExL.nil ?_
            refine Hand.mk (i + 1) 5 [0, 1, 2, 3, 4] ⟨agI (by first | rw [bc_y (c := (x7.2.getD (x1.K.length - 1 - 0) zX).xs) (i := i) (by omega) (by omega)] | rw [bc_n (c := (x7.2.getD (x1.K.length - 1 - 0) zX).xs) (i := i) (by omega)]), rfl, trivial⟩ ⟨rfl, rfl, rfl, rfl, rfl, rfl, trivial⟩ (rfl) rfl (by omega) (by omega)
          · refine ExL.pures 2 rfl ?_
            refine ExL.free (fr_indexAddr (sz := 1) rfl rfl rfl rfl rfl rfl (by omega)) rfl rfl rfl ?_
            refine ExL.free (fr_load rfl rfl rfl rfl (cellE (r := (x7.2.getD (x1.K.length - 1 - 0) zX)) (i := 0) (0) (Reads.row (i := 0) rfl) encX_len zX 0 rfl (by omega) (by rw [outE_len]; omega) (outE_at (by omega)) rfl)) rfl rfl rfl ?_
            refine ExL.pures 1 rfl ?_
            refine ExL.free (fr_indexAddrF (readsX (i := 1) rfl (k := (x1.K.length - 1 - 0)) (by omega)) (eI_len .i64) rfl rfl rfl rfl rfl rfl (by omega)) rfl rfl rfl ?_
            refine ExL.free (fr_load rfl rfl rfl rfl (by first | exact cellN (readsX (i := 1) rfl (k := (x1.K.length - 1 - 0)) (by omega)) (eI_len .i64) 0 0 rfl (by omega) rfl | exact cellF (readsX (i := 1) rfl (k := (x1.K.length - 1 - 0)) (by omega)) (eI_len .i64) 0 0 rfl (by omega) rfl)) rfl rfl rfl ?_
            refine ExL.pures 1 rfl ?_
            refine ExL.lss rfl rfl rfl rfl rfl rfl (fun h11 => ?_) (fun h11 => ?_)
            · refine ExL.pures 2 rfl ?_
              refine ExL.nil ?_
              refine Ex.cond_t rfl ?_
              refine Ex.region (ExL.pures 1 rfl ?_)
              refine ExL.free (fr_indexAddr (sz := 1) rfl rfl rfl rfl rfl rfl (by omega)) rfl rfl rfl ?_
              refine ExL.free (fr_load rfl rfl rfl rfl (cellE (r := (x7.2.getD (x1.K.length - 1 - 0) zX)) (i := 0) (0) (Reads.row (i := 0) rfl) encX_len zX 0 rfl (by omega) (by rw [outE_len]; omega) (outE_at (by omega)) rfl)) rfl rfl rfl ?_
              refine ExL.pures 1 rfl ?_
              refine ExL.free (fr_indexAddrF (readsX (i := 1) rfl (k := (x1.K.length - 1 - 0)) (by omega)) (eI_len .i64) rfl rfl rfl rfl rfl rfl (by omega)) rfl rfl rfl ?_
              refine ExL.free (fr_load rfl rfl rfl rfl (by first | exact cellN (readsX (i := 1) rfl (k := (x1.K.length - 1 - 0)) (by omega)) (eI_len .i64) 0 0 rfl (by omega) rfl | exact cellF (readsX (i := 1) rfl (k := (x1.K.length - 1 - 0)) (by omega)) (eI_len .i64) 0 0 rfl (by omega) rfl)) rfl rfl rfl ?_
              refine ExL.pures 1 rfl ?_
              refine ExL.nil ?_
              refine Ex.region (ExL.pures 1 rfl ?_)
              refine ExL.free (by first | exact fr_add64 rfl rfl rfl (by omega) | exact fr_add rfl rfl rfl) rfl rfl rfl ?_
              refine ExL.pures 1 rfl ?_
              refine ExL.nil ?_
              refine Hand.mk (i + 1) 5 [0, 1, 2, 3, 4] ⟨agI (by first | rw [bc_y (c := (x7.2.getD (x1.K.length - 1 - 0) zX).xs) (i := i) (by omega) (by omega)] | rw [bc_n (c := (x7.2.getD (x1.K.length - 1 - 0) zX).xs) (i := i) (by omega)]), rfl, trivial⟩ ⟨rfl, rfl, rfl, rfl, rfl, rfl, trivial⟩ (rfl) rfl (by omega) (by omega)
            · refine ExL.pures 2 rfl ?_
              refine ExL.nil ?_
              refine Ex.cond_f rfl ?_
              refine Ex.skip ?_
              refine Ex.region (ExL.pures 1 rfl ?_)
              refine ExL.free (by first | exact fr_add64 rfl rfl rfl (by omega) | exact fr_add rfl rfl rfl) rfl rfl rfl ?_
              refine ExL.pures 1 rfl ?_
              refine ExL.nil ?_
              refine Hand.mk (i + 1) 5 [0, 1, 2, 3, 4] ⟨agI (by first | rw [bc_y (c := (x7.2.getD (x1.K.length - 1 - 0) zX).xs) (i := i) (by omega) (by omega)] | rw [bc_n (c := (x7.2.getD (x1.K.length - 1 - 0) zX).xs) (i := i) (by omega)]), rfl, trivial⟩ ⟨rfl, rfl, rfl, rfl, rfl, rfl, trivial⟩ (rfl) rfl (by omega) (by omega)
        · refine ExL.pures 14 rfl ?_
          refine ExL.nil ?_
          refine Ex.cond_f rfl ?_
          refine Ex.skip ?_
          refine Ex.region (ExL.pures 1 rfl ?_)
          refine ExL.free (by first | exact fr_add64 rfl rfl rfl (by omega) | exact fr_add rfl rfl rfl) rfl rfl rfl ?_
          refine ExL.pures 1 rfl ?_
          refine ExL.nil ?_
          refine Hand.mk (i + 1) 5 [0, 1, 2, 3, 4] ⟨agI (by first | rw [bc_y (c := (x7.2.getD (x1.K.length - 1 - 0) zX).xs) (i := i) (by omega) (by omega)] | rw [bc_n (c := (x7.2.getD (x1.K.length - 1 - 0) zX).xs) (i := i) (by omega)]), rfl, trivial⟩ ⟨rfl, rfl, rfl, rfl, rfl, rfl, trivial⟩ (rfl) rfl (by omega) (by omega)
      · refine ExL.nil ?_
        refine Ex.cond_f rfl ?_
        refine Ex.exit ?_
        obtain rfl : i = (x1.K.getD 0 zX).xs.length := (by omega)
        refine Ex.seq ?_
        refine Ex.regSeq (ExL.pures 1 rfl ?_)
        refine ExL.lss rfl rfl rfl rfl rfl rfl (fun h12 => ?_) (fun h12 => ?_)
        · refine ExL.nil ?_
          refine Ex.cond_t rfl ?_
          refine Ex.regSeq (ExL.pures 0 rfl ?_)
          refine ExL.op rfl (op_buildSlice (sz := 1) rfl rfl rfl rfl rfl rfl rfl rfl (by decide) rfl rfl rfl (fun r13 => ?_))
          refine ExL.pures 3 rfl ?_
          refine ExL.nil ?_
          refine Ex.ret ?_
          refine RetQ.mk ((some ⟨r13, 0, none⟩), 0) rfl (.tmp rfl (.tmp rfl (.tmp rfl .nil))) (t3 (by first | (rw [hll, hlk]; first | done | rfl) | (rw [hlk]; first | done | rfl) | (rw [hll]; first | done | rfl) | (rw [lk_c hcn, hcu]; first | done | rfl) | (rw [lk_c hc0]; first | done | rfl) | (rw [lk_6 hc1 hx1 (by omega) hJl hR (by omega)]; first | done | rfl)) (by first | (rw [hll, hlk]; first | done | rfl) | (rw [hlk]; first | done | rfl) | (rw [hll]; first | done | rfl) | (rw [lk_c hcn, hcu]; first | done | rfl) | (rw [lk_c hc0]; first | done | rfl) | (rw [lk_6 hc1 hx1 (by omega) hJl hR (by omega)]; first | done | rfl)) (by first | (rw [hll, hlk]; first | done | rfl) | (rw [hlk]; first | done | rfl) | (rw [hll]; first | done | rfl) | (rw [lk_c hcn, hcu]; first | done | rfl) | (rw [lk_c hc0]; first | done | rfl) | (rw [lk_6 hc1 hx1 (by omega) hJl hR (by omega)]; first | done | rfl))) [0] (by first | (rw [hll, hlk]; first | done | rfl) | (rw [hlk]; first | done | rfl) | (rw [hll]; first | done | rfl) | (rw [lk_c hcn, hcu]; first | done | rfl) | (rw [lk_c hc0]; first | done | rfl) | (rw [lk_6 hc1 hx1 (by omega) hJl hR (by omega)]; first | done | rfl)) rfl (trivial)
        · refine ExL.nil ?_
          refine Ex.cond_f rfl ?_
          refine Ex.skip ?_
          have hbe : bestC (x7.2.getD (x1.K.length - 1 - 0) zX).xs (x1.K.getD 0 zX).xs.length = (x7.2.getD (x1.K.length - 1 - 0) zX).xs.getD (bestK (x7.2.getD (x1.K.length - 1 - 0) zX).xs (x1.K.getD 0 zX).xs.length).toNat 0 := by omega
          have hpath := path_ok (lo := lo) (hi := hi) (us := us) (F := (fun k => (x1.K.getD k zX).xs)) (C := (fun k => (x7.2.getD (x1.K.length - 1 - k) zX).xs)) (n := x1.K.length) (show 0 ≤ bestK (x7.2.getD (x1.K.length - 1 - 0) zX).xs (x1.K.getD 0 zX).xs.length by omega) (cos_min hJl hR)
          refine Ex.regSeq (ExL.pures 0 rfl ?_)
          refine ExL.op rfl (op_buildSlice (sz := 1) rfl rfl rfl rfl rfl rfl rfl rfl (by decide) rfl rfl rfl (fun r14 => ?_))
          refine ExL.pures 1 rfl ?_
          refine ExL.nil ?_
          refine Ex.regSeq (ExL.pures 2 rfl ?_)
          refine ExL.nil ?_
          refine Ex.seq ?_
          refine Ex.regSeq (ExL.pures 1 rfl ?_)
          refine ExL.nil ?_
          refine Ex.block ?_
          refine Ex.loopA (fun k A c => [(18, .slice A k c), (19, .int .i64 (leftQ lo hi us (fun k => (x1.K.getD k zX).xs) (fun k => (x7.2.getD (x1.K.length - 1 - k) zX).xs) k)), (20, .int .i64 k)]) (fun k A c => [.row (.slice A k c) 2 1 k ((outQ lo hi us (fun k => (x1.K.getD k zX).xs) (fun k => (x7.2.getD (x1.K.length - 1 - k) zX).xs) k).flatMap (eI .i64))]) (fun k => k ≤ x1.K.length) (fun k => x1.K.length - k) 0 ((some ⟨r14, 0, none⟩)) (0) [(4, _), (10, _), (11, _), (12, _), (13, _), (15, _), (16, _)] [_, _, _, _, _] 6 [0, 1, 2, 3, 4, 5] ⟨rfl, agI (by first | rfl | exact hbe | exact hbe.symm), rfl, trivial⟩ ⟨rfl, rfl, rfl, rfl, rfl, rfl, rfl, trivial⟩ (rfl) rfl (Nat.zero_le _) (fun k A c hI => ?_)
          have hI : k ≤ x1.K.length := hI
          refine Ex.seq ?_
          refine Ex.regSeq (ExL.pures 4 rfl ?_)
          refine ExL.free (fr_load rfl rfl rfl rfl (CellO.blk (i := 3) rfl rfl)) rfl rfl rfl ?_
          refine ExL.pures 1 rfl ?_
          refine ExL.lss rfl rfl rfl rfl rfl rfl (fun h15 => ?_) (fun h15 => ?_)
          · refine ExL.nil ?_
            refine Ex.cond_t rfl ?_
            refine Ex.skip ?_
            refine Ex.seq ?_
            refine Ex.block ?_
            have hkL : k < L.length := by omega
            have hvl := hfl k hkL
            have hjk := hjl k hkL
            have hpk := hpath k (by omega)
            have hvi := hFa (k - 1) (idxP lo hi us (fun k => (x1.K.getD k zX).xs) (fun k => (x7.2.getD (x1.K.length - 1 - k) zX).xs) (k - 1))
            refine Ex.regSeq (ExL.pures 1 rfl ?_)
            refine ExL.nil ?_
            refine Ex.block ?_
            refine Ex.loopK (X := Nat) (fun j => [(21, .int .i64 j), (18, .slice A k c), (19, .int .i64 (leftQ lo hi us (fun k => (x1.K.getD k zX).xs) (fun k => (x7.2.getD (x1.K.length - 1 - k) zX).xs) k))]) (fun j => []) (fun j => j ≤ (x1.K.getD k zX).xs.length ∧ ∀ i, i < j → okA lo hi us (fun k => (x1.K.getD k zX).xs) (fun k => (x7.2.getD (x1.K.length - 1 - k) zX).xs) (bestV (fun k => (x1.K.getD k zX).xs) (fun k => (x7.2.getD (x1.K.length - 1 - k) zX).xs)) k (idxP lo hi us (fun k => (x1.K.getD k zX).xs) (fun k => (x7.2.getD (x1.K.length - 1 - k) zX).xs) (k - 1)) i = false) (fun j => (x1.K.getD k zX).xs.length - j) 0 [(4, _), (10, _), (11, _), (12, _), (13, _), (15, _), (16, _), (20, _)] [_, _, _, _, _, _] 6 [0, 1, 2, 3, 4, 5] ⟨rfl, rfl, rfl, trivial⟩ ⟨rfl, rfl, rfl, rfl, rfl, rfl, rfl, rfl, trivial⟩ (rfl) rfl ⟨Nat.zero_le _, fun i hi => by omega⟩ (fun j hI => ?_)
            have hI : j ≤ (x1.K.getD k zX).xs.length ∧ ∀ i, i < j → okA lo hi us (fun k => (x1.K.getD k zX).xs) (fun k => (x7.2.getD (x1.K.length - 1 - k) zX).xs) (bestV (fun k => (x1.K.getD k zX).xs) (fun k => (x7.2.getD (x1.K.length - 1 - k) zX).xs)) k (idxP lo hi us (fun k => (x1.K.getD k zX).xs) (fun k => (x7.2.getD (x1.K.length - 1 - k) zX).xs) (k - 1)) i = false := hI
            obtain ⟨hj, hall⟩ := hI
            refine Ex.seq ?_
            refine Ex.regSeq (ExL.pures 3 rfl ?_)
            refine ExL.free (fr_indexAddr (sz := 1) rfl rfl rfl rfl rfl rfl (by omega)) rfl rfl rfl ?_
            refine ExL.free (fr_load rfl rfl rfl rfl (cellE (r := (x7.2.getD (x1.K.length - 1 - k) zX)) (i := ↑k) (k) (Reads.row (i := 1) rfl) encX_len zX 0 rfl (by omega) (by rw [outE_len]; omega) (outE_at (by omega)) rfl)) rfl rfl rfl ?_
            refine ExL.pures 1 rfl ?_
            refine ExL.lss rfl rfl rfl rfl rfl rfl (fun h16 => ?_) (fun h16 => ?_)
            · refine ExL.nil ?_
              refine Ex.cond_t rfl ?_
              refine Ex.skip ?_
              refine Ex.seq ?_
              refine Ex.block ?_
              have hjj : j < (x1.K.getD k zX).xs.length := by omega
              have hvj := hFa k j
              have hab := abs_bd hvi hvj hus
              have hcj := hco (x1.K.length - 1 - k) (by omega) j
              refine Ex.regSeq (ExL.pures 1 rfl ?_)
              refine ExL.nil ?_
              refine Ex.seq ?_
              refine Ex.regSeq (ExL.pures 1 rfl ?_)
              refine ExL.gtr rfl rfl rfl rfl rfl rfl (fun h17 => ?_) (fun h17 => ?_)
              · refine ExL.nil ?_
                refine Ex.cond_t rfl ?_
                refine Ex.seq ?_
                refine Ex.drawSeqM rfl ?_
                refine ExD.take (i := 0) rfl (by kernel_rfl) (pureVal_ok rfl) ((List.Sublist.refl _)) rfl rfl rfl ?_
                refine ExD.take (i := 1) rfl (by kernel_rfl) (pureVal_ok rfl) ((List.Sublist.refl _)) rfl rfl rfl ?_
                refine ExD.take (i := 2) rfl (by kernel_rfl) (pureVal_ok rfl) ((List.Sublist.refl _)) rfl rfl rfl ?_
                refine ExD.take (i := 3) rfl (by kernel_rfl) (Free.val ((k - 1 : Nat) : Int) (fr_sub64 rfl rfl rfl (by omega)) (by omega)) ((List.Sublist.refl _)) rfl rfl rfl ?_
                refine ExD.take (i := 4) rfl (by kernel_rfl) (fr_indexAddrR (sz := 1) 0 rfl rfl rfl rfl rfl rfl (by omega)) ((List.Sublist.refl _)) rfl rfl rfl ?_
                refine ExD.take (i := 5) rfl (by kernel_rfl) (fr_load rfl rfl rfl rfl (cellW (v := .int .i64 ((x1.K.getD (k - 1) zX).xs.getD (idxP lo hi us (fun k => (x1.K.getD k zX).xs) (fun k => (x7.2.getD (x1.K.length - 1 - k) zX).xs) (k - 1)) 0)) (i := ↑(k - 1)) (k - 1) (Reads.row (i := 0) rfl) (eI_len .i64) 0 0 rfl (by omega) (by rw [outQ_len]; omega) (outQ_at (by omega)) rfl)) ((List.Sublist.refl _)) rfl rfl rfl ?_
                refine ExD.take (i := 6) rfl (by kernel_rfl) (pureVal_ok rfl) ((List.Sublist.refl _)) rfl rfl rfl ?_
                refine ExD.take (i := 7) rfl (by kernel_rfl) (pureVal_ok rfl) ((List.Sublist.refl _)) rfl rfl rfl ?_
                refine ExD.take (i := 8) rfl (by kernel_rfl) (pureVal_ok rfl) ((List.Sublist.refl _)) rfl rfl rfl ?_
                refine ExD.take (i := 9) rfl (by kernel_rfl) (fr_load rfl rfl rfl rfl (CellO.blk (i := 3) rfl rfl)) ((List.Sublist.refl _)) rfl rfl rfl ?_
                refine ExD.take (i := 10) rfl (by kernel_rfl) (pureVal_ok rfl) ((List.Sublist.refl _)) rfl rfl rfl ?_
                refine ExD.take (i := 11) rfl (by kernel_rfl) (fr_indexAddrR (sz := 1) 4 rfl rfl rfl rfl rfl rfl (by omega)) ((List.Sublist.refl _)) rfl rfl rfl ?_
                refine ExD.take (i := 12) rfl (by kernel_rfl) (fr_load rfl rfl rfl rfl (by first | exact cellN (Reads.row (i := 4) rfl) encX_len zX 0 rfl (by omega) rfl | exact cellF (Reads.row (i := 4) rfl) encX_len zX 0 rfl (by omega) rfl)) ((List.Sublist.refl _)) rfl rfl rfl ?_
                refine ExD.take (i := 13) rfl (by kernel_rfl) (pureVal_ok rfl) ((List.Sublist.refl _)) rfl rfl rfl ?_
                refine ExD.take (i := 14) rfl (by kernel_rfl) (fr_indexAddrF (readsX (i := 5) rfl (k := k) (by omega)) (eI_len .i64) rfl rfl rfl rfl rfl rfl (by omega)) ((List.Sublist.refl _)) rfl rfl rfl ?_
                refine ExD.take (i := 15) rfl (by kernel_rfl) (fr_load rfl rfl rfl rfl (by first | exact cellN (readsX (i := 5) rfl (k := k) (by omega)) (eI_len .i64) 0 0 rfl (by omega) rfl | exact cellF (readsX (i := 5) rfl (k := k) (by omega)) (eI_len .i64) 0 0 rfl (by omega) rfl)) ((List.Sublist.refl _)) rfl rfl rfl ?_
                refine ExD.op (i := 16) rfl (by kernel_rfl) rfl (op_ret rfl rfl rfl (c_follows _ _ lo hi (by omega) _ ((x1.K.getD (k - 1) zX).xs.getD (idxP lo hi us (fun k => (x1.K.getD k zX).xs) (fun k => (x7.2.getD (x1.K.length - 1 - k) zX).xs) (k - 1)) 0) ((x1.K.getD k zX).xs.getD j 0) (by omega) (by omega)) (Reads.get (Reads.blk (i := 3) rfl)) rfl rfl (fun x18 hx18 => ⟨(List.Sublist.refl _), ?_⟩))
                refine ExD.take (i := 17) rfl (by kernel_rfl) (pureVal_ok rfl) ((List.Sublist.refl _)) rfl rfl rfl ?_
                refine ExD.done (by kernel_rfl) ?_
                refine Ex.cond rfl (fun hb19 => ?_) (fun hb19 => ?_)
                · replace hb19 := nb_t hb19
                  refine Ex.exit ?_
                  refine Ex.region (ExL.pures 1 rfl ?_)
                  refine ExL.free (by first | exact fr_add64 rfl rfl rfl (by omega) | exact fr_add rfl rfl rfl) rfl rfl rfl ?_
                  refine ExL.pures 1 rfl ?_
                  refine ExL.nil ?_
                  refine Hand.mk (j + 1) 6 [0, 1, 2, 3, 4, 5] ⟨rfl, rfl, rfl, trivial⟩ ⟨rfl, rfl, rfl, rfl, rfl, rfl, rfl, rfl, trivial⟩ (rfl) rfl (⟨by omega, all_snoc hall (by first | exact ok_n1 (by omega) | exact ok_n2 (by omega) (by assumption) | exact ok_n3 (by omega) (by omega) rfl | exact ok_0n (by omega) (by omega))⟩) (by omega)
                · replace hb19 := nb_f hb19
                  refine Ex.skip ?_
                  refine Ex.drawM rfl ?_
                  refine ExD.take (i := 0) rfl (by kernel_rfl) (pureVal_ok rfl) ((List.Sublist.refl _)) rfl rfl rfl ?_
                  refine ExD.take (i := 1) rfl (by kernel_rfl) (pureVal_ok rfl) ((List.Sublist.refl _)) rfl rfl rfl ?_
                  refine ExD.take (i := 2) rfl (by kernel_rfl) (pureVal_ok rfl) ((List.Sublist.refl _)) rfl rfl rfl ?_
                  refine ExD.take (i := 3) rfl (by kernel_rfl) (fr_load rfl rfl rfl rfl (CellO.blk (i := 3) rfl rfl)) ((List.Sublist.refl _)) rfl rfl rfl ?_
                  refine ExD.take (i := 4) rfl (by kernel_rfl) (pureVal_ok rfl) ((List.Sublist.refl _)) rfl rfl rfl ?_
                  refine ExD.take (i := 5) rfl (by kernel_rfl) (fr_indexAddrR (sz := 1) 4 rfl rfl rfl rfl rfl rfl (by omega)) ((List.Sublist.refl _)) rfl rfl rfl ?_
                  refine ExD.take (i := 6) rfl (by kernel_rfl) (fr_load rfl rfl rfl rfl (by first | exact cellN (Reads.row (i := 4) rfl) encX_len zX 0 rfl (by omega) rfl | exact cellF (Reads.row (i := 4) rfl) encX_len zX 0 rfl (by omega) rfl)) ((List.Sublist.refl _)) rfl rfl rfl ?_
                  refine ExD.take (i := 7) rfl (by kernel_rfl) (pureVal_ok rfl) ((List.Sublist.refl _)) rfl rfl rfl ?_
                  refine ExD.take (i := 8) rfl (by kernel_rfl) (fr_indexAddrF (readsX (i := 5) rfl (k := k) (by omega)) (eI_len .i64) rfl rfl rfl rfl rfl rfl (by omega)) ((List.Sublist.refl _)) rfl rfl rfl ?_
                  refine ExD.take (i := 9) rfl (by kernel_rfl) (fr_load rfl rfl rfl rfl (by first | exact cellN (readsX (i := 5) rfl (k := k) (by omega)) (eI_len .i64) 0 0 rfl (by omega) rfl | exact cellF (readsX (i := 5) rfl (k := k) (by omega)) (eI_len .i64) 0 0 rfl (by omega) rfl)) ((List.Sublist.refl _)) rfl rfl rfl ?_
                  refine ExD.take (i := 10) rfl (by kernel_rfl) (pureVal_ok rfl) ((List.Sublist.refl _)) rfl rfl rfl ?_
                  refine ExD.take (i := 11) rfl (by kernel_rfl) (pureVal_ok rfl) ((List.Sublist.refl _)) rfl rfl rfl ?_
                  refine ExD.take (i := 12) rfl (by kernel_rfl) (Free.val ((k - 1 : Nat) : Int) (fr_sub64 rfl rfl rfl (by omega)) (by omega)) ((List.Sublist.refl _)) rfl rfl rfl ?_
                  refine ExD.take (i := 13) rfl (by kernel_rfl) (fr_indexAddrR (sz := 1) 0 rfl rfl rfl rfl rfl rfl (by omega)) ((List.Sublist.refl _)) rfl rfl rfl ?_
                  refine ExD.take (i := 14) rfl (by kernel_rfl) (fr_load rfl rfl rfl rfl (cellW (v := .int .i64 ((x1.K.getD (k - 1) zX).xs.getD (idxP lo hi us (fun k => (x1.K.getD k zX).xs) (fun k => (x7.2.getD (x1.K.length - 1 - k) zX).xs) (k - 1)) 0)) (i := ↑(k - 1)) (k - 1) (Reads.row (i := 0) rfl) (eI_len .i64) 0 0 rfl (by omega) (by rw [outQ_len]; omega) (outQ_at (by omega)) rfl)) ((List.Sublist.refl _)) rfl rfl rfl ?_
                  refine ExD.take (i := 15) rfl (by kernel_rfl) (by first | exact fr_sub64 rfl rfl rfl (by omega) | exact fr_sub rfl rfl rfl) ((List.Sublist.refl _)) rfl rfl rfl ?_
                  refine ExD.take (i := 16) rfl (by kernel_rfl) (pureVal_ok rfl) ((List.Sublist.refl _)) rfl rfl rfl ?_
                  refine ExD.take (i := 17) rfl (by kernel_rfl) (by first | exact fr_sub64 rfl rfl rfl (by omega) | exact fr_sub rfl rfl rfl) ((List.Sublist.refl _)) rfl rfl rfl ?_
                  refine ExD.op (i := 18) rfl (by kernel_rfl) rfl (op_ret rfl rfl rfl (c_l05Size ((((x1.K.getD k zX).xs.getD j 0) - ((x1.K.getD (k - 1) zX).xs.getD (idxP lo hi us (fun k => (x1.K.getD k zX).xs) (fun k => (x7.2.getD (x1.K.length - 1 - k) zX).xs) (k - 1)) 0)) - us) (by omega)) (fun _ _ => trivial) rfl rfl (fun x20 hx20 => ⟨(List.Sublist.refl _), ?_⟩))
                  refine ExD.take (i := 19) rfl (by kernel_rfl) (pureVal_ok rfl) ((List.Sublist.refl _)) rfl rfl rfl ?_
                  refine ExD.done (by kernel_rfl) ?_
                  refine Ex.regSeq (ExL.pures 2 rfl ?_)
                  refine ExL.free (fr_indexAddr (sz := 1) rfl rfl rfl rfl rfl rfl (by omega)) rfl rfl rfl ?_
                  refine ExL.free (fr_load rfl rfl rfl rfl (cellE (r := (x7.2.getD (x1.K.length - 1 - k) zX)) (i := ↑k) (k) (Reads.row (i := 1) rfl) encX_len zX 0 rfl (by omega) (by rw [outE_len]; omega) (outE_at (by omega)) rfl)) rfl rfl rfl ?_
                  refine ExL.pures 1 rfl ?_
                  refine ExL.free (fr_indexAddrF (readsX (i := 2) rfl (k := (x1.K.length - 1 - k)) (by omega)) (eI_len .i64) rfl rfl rfl rfl rfl rfl (by omega)) rfl rfl rfl ?_
                  refine ExL.free (fr_load rfl rfl rfl rfl (by first | exact cellN (readsX (i := 2) rfl (k := (x1.K.length - 1 - k)) (by omega)) (eI_len .i64) 0 0 rfl (by omega) rfl | exact cellF (readsX (i := 2) rfl (k := (x1.K.length - 1 - k)) (by omega)) (eI_len .i64) 0 0 rfl (by omega) rfl)) rfl rfl rfl ?_
                  refine ExL.geq rfl rfl rfl rfl rfl rfl (fun h21 => ?_) (fun h21 => ?_)
                  · refine ExL.pures 3 rfl ?_
                    refine ExL.free (fr_indexAddr (sz := 1) rfl rfl rfl rfl rfl rfl (by omega)) rfl rfl rfl ?_
                    refine ExL.free (fr_load rfl rfl rfl rfl (cellE (r := (x7.2.getD (x1.K.length - 1 - k) zX)) (i := ↑k) (k) (Reads.row (i := 1) rfl) encX_len zX 0 rfl (by omega) (by rw [outE_len]; omega) (outE_at (by omega)) rfl)) rfl rfl rfl ?_
                    refine ExL.pures 1 rfl ?_
                    refine ExL.free (fr_indexAddrF (readsX (i := 2) rfl (k := (x1.K.length - 1 - k)) (by omega)) (eI_len .i64) rfl rfl rfl rfl rfl rfl (by omega)) rfl rfl rfl ?_
                    refine ExL.free (fr_load rfl rfl rfl rfl (by first | exact cellN (readsX (i := 2) rfl (k := (x1.K.length - 1 - k)) (by omega)) (eI_len .i64) 0 0 rfl (by omega) rfl | exact cellF (readsX (i := 2) rfl (k := (x1.K.length - 1 - k)) (by omega)) (eI_len .i64) 0 0 rfl (by omega) rfl)) rfl rfl rfl ?_
                    refine ExL.pures 1 rfl ?_
                    refine ExL.free (by first | exact fr_add64 rfl rfl rfl (by omega) | exact fr_add rfl rfl rfl) rfl rfl rfl ?_
                    refine ExL.pures 1 rfl ?_
                    refine ExL.eql rfl rfl rfl rfl rfl rfl (fun h22 => ?_) (fun h22 => ?_)
                    · refine ExL.pures 1 rfl ?_
                      refine ExL.nil ?_
                      refine Ex.cond_t rfl ?_
                      refine Ex.regSeq (ExL.pures 4 rfl ?_)
                      refine ExL.free (fr_load rfl rfl rfl rfl (CellO.blk (i := 3) rfl rfl)) rfl rfl rfl ?_
                      refine ExL.pures 1 rfl ?_
                      refine ExL.free (fr_indexAddrR (sz := 1) 4 rfl rfl rfl rfl rfl rfl (by omega)) rfl rfl rfl ?_
                      refine ExL.free (fr_load rfl rfl rfl rfl (by first | exact cellN (Reads.row (i := 4) rfl) encX_len zX 0 rfl (by omega) rfl | exact cellF (Reads.row (i := 4) rfl) encX_len zX 0 rfl (by omega) rfl)) rfl rfl rfl ?_
                      refine ExL.pures 1 rfl ?_
                      refine ExL.free (fr_indexAddrF (readsX (i := 5) rfl (k := k) (by omega)) (eI_len .i64) rfl rfl rfl rfl rfl rfl (by omega)) rfl rfl rfl ?_
                      refine ExL.free (fr_load rfl rfl rfl rfl (by first | exact cellN (readsX (i := 5) rfl (k := k) (by omega)) (eI_len .i64) 0 0 rfl (by omega) rfl | exact cellF (readsX (i := 5) rfl (k := k) (by omega)) (eI_len .i64) 0 0 rfl (by omega) rfl)) rfl rfl rfl ?_
                      refine ExL.op rfl (op_buildSlice (sz := 1) rfl rfl rfl rfl rfl rfl rfl rfl (by decide) rfl rfl rfl (fun r23 => ?_))
                      refine ExL.op rfl (op_append (sz := 1) (bytes := 8) (i := 1) rfl rfl rfl rfl (Reads.row (i := 0) rfl) rfl (fun e => nomatch e) rfl rfl rfl rfl (by constructor <;> first | omega | (unfold maxLen; omega)) rfl rfl (fun A24 cA24 => ?_))
                      refine ExL.pures 1 rfl ?_
                      refine ExL.nil ?_
                      refine Ex.regSeq (ExL.pures 2 rfl ?_)
                      refine ExL.free (fr_indexAddr (sz := 1) rfl rfl rfl rfl rfl rfl (by omega)) rfl rfl rfl ?_
                      refine ExL.free (fr_load rfl rfl rfl rfl (cellE (r := (x7.2.getD (x1.K.length - 1 - k) zX)) (i := ↑k) (k) (Reads.row (i := 2) rfl) encX_len zX 0 rfl (by omega) (by rw [outE_len]; omega) (outE_at (by omega)) rfl)) rfl rfl rfl ?_
                      refine ExL.pures 1 rfl ?_
                      refine ExL.free (fr_indexAddrF (readsX (i := 3) rfl (k := (x1.K.length - 1 - k)) (by omega)) (eI_len .i64) rfl rfl rfl rfl rfl rfl (by omega)) rfl rfl rfl ?_
                      refine ExL.free (fr_load rfl rfl rfl rfl (by first | exact cellN (readsX (i := 3) rfl (k := (x1.K.length - 1 - k)) (by omega)) (eI_len .i64) 0 0 rfl (by omega) rfl | exact cellF (readsX (i := 3) rfl (k := (x1.K.length - 1 - k)) (by omega)) (eI_len .i64) 0 0 rfl (by omega) rfl)) rfl rfl rfl ?_
                      refine ExL.pures 1 rfl ?_
                      refine ExL.nil ?_
                      refine Ex.exit ?_
                      have hix := idx_eq hpk hall (ok_y (lo := lo) (hi := hi) (us := us) (F := (fun k => (x1.K.getD k zX).xs)) (C := (fun k => (x7.2.getD (x1.K.length - 1 - k) zX).xs)) (k := k) (i := (idxP lo hi us (fun k => (x1.K.getD k zX).xs) (fun k => (x7.2.getD (x1.K.length - 1 - k) zX).xs) (k - 1))) (j := j) (by omega) (by omega) (by assumption) (by omega) rfl)
                      have hlq : (x7.2.getD (x1.K.length - 1 - k) zX).xs.getD j 0 = leftQ lo hi us (fun k => (x1.K.getD k zX).xs) (fun k => (x7.2.getD (x1.K.length - 1 - k) zX).xs) (k + 1) := by rw [leftQ, hix]
                      refine Ex.region (ExL.pures 1 rfl ?_)
                      refine ExL.free (by first | exact fr_add64 rfl rfl rfl (by omega) | exact fr_add rfl rfl rfl) rfl rfl rfl ?_
                      refine ExL.pures 1 rfl ?_
                      refine ExL.nil ?_
                      refine HandA.of (k + 1) (A24) (cA24) 7 [1, 2, 3, 4, 5, 6] ⟨rfl, agI hlq, rfl, trivial⟩ ⟨rfl, rfl, rfl, rfl, rfl, rfl, rfl, trivial⟩ (by rw [outQ_s hix, List.flatMap_append]; rfl) rfl (by omega) (by omega)
                    · refine ExL.pures 1 rfl ?_
                      refine ExL.nil ?_
                      refine Ex.cond_f rfl ?_
                      refine Ex.skip ?_
                      refine Ex.region (ExL.pures 1 rfl ?_)
                      refine ExL.free (by first | exact fr_add64 rfl rfl rfl (by omega) | exact fr_add rfl rfl rfl) rfl rfl rfl ?_
                      refine ExL.pures 1 rfl ?_
                      refine ExL.nil ?_
                      refine Hand.mk (j + 1) 6 [0, 1, 2, 3, 4, 5] ⟨rfl, rfl, rfl, trivial⟩ ⟨rfl, rfl, rfl, rfl, rfl, rfl, rfl, rfl, trivial⟩ (rfl) rfl (⟨by omega, all_snoc hall (by first | exact ok_n1 (by omega) | exact ok_n2 (by omega) (by assumption) | exact ok_n3 (by omega) (by omega) rfl | exact ok_0n (by omega) (by omega))⟩) (by omega)
                  · refine ExL.pures 13 rfl ?_
                    refine ExL.nil ?_
                    refine Ex.cond_f rfl ?_
                    refine Ex.skip ?_
                    refine Ex.region (ExL.pures 1 rfl ?_)
                    refine ExL.free (by first | exact fr_add64 rfl rfl rfl (by omega) | exact fr_add rfl rfl rfl) rfl rfl rfl ?_
                    refine ExL.pures 1 rfl ?_
                    refine ExL.nil ?_
                    refine Hand.mk (j + 1) 6 [0, 1, 2, 3, 4, 5] ⟨rfl, rfl, rfl, trivial⟩ ⟨rfl, rfl, rfl, rfl, rfl, rfl, rfl, rfl, trivial⟩ (rfl) rfl (⟨by omega, all_snoc hall (by first | exact ok_n1 (by omega) | exact ok_n2 (by omega) (by assumption) | exact ok_n3 (by omega) (by omega) rfl | exact ok_0n (by omega) (by omega))⟩) (by omega)
              · refine ExL.nil ?_
                refine Ex.cond_f rfl ?_
                refine Ex.skip ?_
                refine Ex.regSeq (ExL.pures 2 rfl ?_)
                refine ExL.free (fr_indexAddr (sz := 1) rfl rfl rfl rfl rfl rfl (by omega)) rfl rfl rfl ?_
                refine ExL.free (fr_load rfl rfl rfl rfl (cellE (r := (x7.2.getD (x1.K.length - 1 - k) zX)) (i := ↑k) (k) (Reads.row (i := 1) rfl) encX_len zX 0 rfl (by omega) (by rw [outE_len]; omega) (outE_at (by omega)) rfl)) rfl rfl rfl ?_
                refine ExL.pures 1 rfl ?_
                refine ExL.free (fr_indexAddrF (readsX (i := 2) rfl (k := (x1.K.length - 1 - k)) (by omega)) (eI_len .i64) rfl rfl rfl rfl rfl rfl (by omega)) rfl rfl rfl ?_
                refine ExL.free (fr_load rfl rfl rfl rfl (by first | exact cellN (readsX (i := 2) rfl (k := (x1.K.length - 1 - k)) (by omega)) (eI_len .i64) 0 0 rfl (by omega) rfl | exact cellF (readsX (i := 2) rfl (k := (x1.K.length - 1 - k)) (by omega)) (eI_len .i64) 0 0 rfl (by omega) rfl)) rfl rfl rfl ?_
                refine ExL.geq rfl rfl rfl rfl rfl rfl (fun h26 => ?_) (fun h26 => ?_)
                · refine ExL.pures 3 rfl ?_
                  refine ExL.free (fr_indexAddr (sz := 1) rfl rfl rfl rfl rfl rfl (by omega)) rfl rfl rfl ?_
                  refine ExL.free (fr_load rfl rfl rfl rfl (cellE (r := (x7.2.getD (x1.K.length - 1 - k) zX)) (i := ↑k) (k) (Reads.row (i := 1) rfl) encX_len zX 0 rfl (by omega) (by rw [outE_len]; omega) (outE_at (by omega)) rfl)) rfl rfl rfl ?_
                  refine ExL.pures 1 rfl ?_
                  refine ExL.free (fr_indexAddrF (readsX (i := 2) rfl (k := (x1.K.length - 1 - k)) (by omega)) (eI_len .i64) rfl rfl rfl rfl rfl rfl (by omega)) rfl rfl rfl ?_
                  refine ExL.free (fr_load rfl rfl rfl rfl (by first | exact cellN (readsX (i := 2) rfl (k := (x1.K.length - 1 - k)) (by omega)) (eI_len .i64) 0 0 rfl (by omega) rfl | exact cellF (readsX (i := 2) rfl (k := (x1.K.length - 1 - k)) (by omega)) (eI_len .i64) 0 0 rfl (by omega) rfl)) rfl rfl rfl ?_
                  refine ExL.pures 1 rfl ?_
                  refine ExL.free (by first | exact fr_add64 rfl rfl rfl (by omega) | exact fr_add rfl rfl rfl) rfl rfl rfl ?_
                  refine ExL.pures 1 rfl ?_
                  refine ExL.eql rfl rfl rfl rfl rfl rfl (fun h27 => ?_) (fun h27 => ?_)
                  · refine ExL.pures 1 rfl ?_
                    refine ExL.nil ?_
                    refine Ex.cond_t rfl ?_
                    refine Ex.regSeq (ExL.pures 4 rfl ?_)
                    refine ExL.free (fr_load rfl rfl rfl rfl (CellO.blk (i := 3) rfl rfl)) rfl rfl rfl ?_
                    refine ExL.pures 1 rfl ?_
                    refine ExL.free (fr_indexAddrR (sz := 1) 4 rfl rfl rfl rfl rfl rfl (by omega)) rfl rfl rfl ?_
                    refine ExL.free (fr_load rfl rfl rfl rfl (by first | exact cellN (Reads.row (i := 4) rfl) encX_len zX 0 rfl (by omega) rfl | exact cellF (Reads.row (i := 4) rfl) encX_len zX 0 rfl (by omega) rfl)) rfl rfl rfl ?_
                    refine ExL.pures 1 rfl ?_
                    refine ExL.free (fr_indexAddrF (readsX (i := 5) rfl (k := k) (by omega)) (eI_len .i64) rfl rfl rfl rfl rfl rfl (by omega)) rfl rfl rfl ?_
                    refine ExL.free (fr_load rfl rfl rfl rfl (by first | exact cellN (readsX (i := 5) rfl (k := k) (by omega)) (eI_len .i64) 0 0 rfl (by omega) rfl | exact cellF (readsX (i := 5) rfl (k := k) (by omega)) (eI_len .i64) 0 0 rfl (by omega) rfl)) rfl rfl rfl ?_
                    refine ExL.op rfl (op_buildSlice (sz := 1) rfl rfl rfl rfl rfl rfl rfl rfl (by decide) rfl rfl rfl (fun r28 => ?_))
                    refine ExL.op rfl (op_append (sz := 1) (bytes := 8) (i := 1) rfl rfl rfl rfl (Reads.row (i := 0) rfl) rfl (fun e => nomatch e) rfl rfl rfl rfl (by constructor <;> first | omega | (unfold maxLen; omega)) rfl rfl (fun A29 cA29 => ?_))
                    refine ExL.pures 1 rfl ?_
                    refine ExL.nil ?_
                    refine Ex.regSeq (ExL.pures 2 rfl ?_)
                    refine ExL.free (fr_indexAddr (sz := 1) rfl rfl rfl rfl rfl rfl (by omega)) rfl rfl rfl ?_
                    refine ExL.free (fr_load rfl rfl rfl rfl (cellE (r := (x7.2.getD (x1.K.length - 1 - k) zX)) (i := ↑k) (k) (Reads.row (i := 2) rfl) encX_len zX 0 rfl (by omega) (by rw [outE_len]; omega) (outE_at (by omega)) rfl)) rfl rfl rfl ?_
                    refine ExL.pures 1 rfl ?_
                    refine ExL.free (fr_indexAddrF (readsX (i := 3) rfl (k := (x1.K.length - 1 - k)) (by omega)) (eI_len .i64) rfl rfl rfl rfl rfl rfl (by omega)) rfl rfl rfl ?_
                    refine ExL.free (fr_load rfl rfl rfl rfl (by first | exact cellN (readsX (i := 3) rfl (k := (x1.K.length - 1 - k)) (by omega)) (eI_len .i64) 0 0 rfl (by omega) rfl | exact cellF (readsX (i := 3) rfl (k := (x1.K.length - 1 - k)) (by omega)) (eI_len .i64) 0 0 rfl (by omega) rfl)) rfl rfl rfl ?_
                    refine ExL.pures 1 rfl ?_
                    refine ExL.nil ?_
                    refine Ex.exit ?_
                    have hix := idx_eq hpk hall (ok_0y (lo := lo) (hi := hi) (us := us) (F := (fun k => (x1.K.getD k zX).xs)) (C := (fun k => (x7.2.getD (x1.K.length - 1 - k) zX).xs)) (k := k) (i := (idxP lo hi us (fun k => (x1.K.getD k zX).xs) (fun k => (x7.2.getD (x1.K.length - 1 - k) zX).xs) (k - 1))) (j := j) (by omega) (by omega) (by omega))
                    have hlq : (x7.2.getD (x1.K.length - 1 - k) zX).xs.getD j 0 = leftQ lo hi us (fun k => (x1.K.getD k zX).xs) (fun k => (x7.2.getD (x1.K.length - 1 - k) zX).xs) (k + 1) := by rw [leftQ, hix]
                    refine Ex.region (ExL.pures 1 rfl ?_)
                    refine ExL.free (by first | exact fr_add64 rfl rfl rfl (by omega) | exact fr_add rfl rfl rfl) rfl rfl rfl ?_
                    refine ExL.pures 1 rfl ?_
                    refine ExL.nil ?_
                    refine HandA.of (k + 1) (A29) (cA29) 7 [1, 2, 3, 4, 5, 6] ⟨rfl, agI hlq, rfl, trivial⟩ ⟨rfl, rfl, rfl, rfl, rfl, rfl, rfl, trivial⟩ (by rw [outQ_s hix, List.flatMap_append]; rfl) rfl (by omega) (by omega)
                  · refine ExL.pures 1 rfl ?_
                    refine ExL.nil ?_
                    refine Ex.cond_f rfl ?_
                    refine Ex.skip ?_
                    refine Ex.region (ExL.pures 1 rfl ?_)
                    refine ExL.free (by first | exact fr_add64 rfl rfl rfl (by omega) | exact fr_add rfl rfl rfl) rfl rfl rfl ?_
                    refine ExL.pures 1 rfl ?_
                    refine ExL.nil ?_
                    refine Hand.mk (j + 1) 6 [0, 1, 2, 3, 4, 5] ⟨rfl, rfl, rfl, trivial⟩ ⟨rfl, rfl, rfl, rfl, rfl, rfl, rfl, rfl, trivial⟩ (rfl) rfl (⟨by omega, all_snoc hall (by first | exact ok_n1 (by omega) | exact ok_n2 (by omega) (by assumption) | exact ok_n3 (by omega) (by omega) rfl | exact ok_0n (by omega) (by omega))⟩) (by omega)
                · refine ExL.pures 13 rfl ?_
                  refine ExL.nil ?_
                  refine Ex.cond_f rfl ?_
                  refine Ex.skip ?_
                  refine Ex.region (ExL.pures 1 rfl ?_)
                  refine ExL.free (by first | exact fr_add64 rfl rfl rfl (by omega) | exact fr_add rfl rfl rfl) rfl rfl rfl ?_
                  refine ExL.pures 1 rfl ?_
                  refine ExL.nil ?_
                  refine Hand.mk (j + 1) 6 [0, 1, 2, 3, 4, 5] ⟨rfl, rfl, rfl, trivial⟩ ⟨rfl, rfl, rfl, rfl, rfl, rfl, rfl, rfl, trivial⟩ (rfl) rfl (⟨by omega, all_snoc hall (by first | exact ok_n1 (by omega) | exact ok_n2 (by omega) (by assumption) | exact ok_n3 (by omega) (by omega) rfl | exact ok_0n (by omega) (by omega))⟩) (by omega)
            · refine ExL.nil ?_
              refine Ex.cond_f rfl ?_
              refine Ex.exit ?_
              exfalso; exact idx_no hpk hall (by first | omega | exact hj9)
          · refine ExL.nil ?_
            refine Ex.cond_f rfl ?_
            refine Ex.exit ?_
            obtain rfl : k = x1.K.length := (by omega)
            have hlk := lk_0 (k := x1.K.length) hc1 hx1 (by omega) hJl hR (by omega) hkl
            have hll : (likV s L lo hi us).1.length = x1.K.length := by rw [hlk]; exact outQ_len _ _ _ _ _ _
            refine Ex.regSeq (ExL.pures 5 rfl ?_)
            refine ExL.nil ?_
            refine Ex.ret ?_
            refine RetQ.mk (A, c) rfl (.tmp rfl (.tmp rfl (.tmp rfl .nil))) (t3 (by first | (rw [hll, hlk]; first | done | rfl) | (rw [hlk]; first | done | rfl) | (rw [hll]; first | done | rfl) | (rw [lk_c hcn, hcu]; first | done | rfl) | (rw [lk_c hc0]; first | done | rfl) | (rw [lk_6 hc1 hx1 (by omega) hJl hR (by omega)]; first | done | rfl)) (by first | (rw [hll, hlk]; first | done | rfl) | (rw [hlk]; first | done | rfl) | (rw [hll]; first | done | rfl) | (rw [lk_c hcn, hcu]; first | done | rfl) | (rw [lk_c hc0]; first | done | rfl) | (rw [lk_6 hc1 hx1 (by omega) hJl hR (by omega)]; first | done | rfl)) (by first | (rw [hll, hlk]; first | done | rfl) | (rw [hlk]; first | done | rfl) | (rw [hll]; first | done | rfl) | (rw [lk_c hcn, hcu]; first | done | rfl) | (rw [lk_c hc0]; first | done | rfl) | (rw [lk_6 hc1 hx1 (by omega) hJl hR (by omega)]; first | done | rfl))) [0] (by first | (rw [hll, hlk]; first | done | rfl) | (rw [hlk]; first | done | rfl) | (rw [hll]; first | done | rfl) | (rw [lk_c hcn, hcu]; first | done | rfl) | (rw [lk_c hc0]; first | done | rfl) | (rw [lk_6 hc1 hx1 (by omega) hJl hR (by omega)]; first | done | rfl)) rfl (trivial)
theorem c_sLik (s : List Int) (hu : Nums 255 s) (As : Option Addr) (cs : Nat) (hls : s.length ≤ maxLen) (L : List VPh) (hLk : ∀ k, k < L.length → OkPh (L.getD k zPh)) (bl cL : Nat) (hlL : L.length ≤ maxLen) (lo hi : Int) (us : Int) : Ret Try.prog 12 [.slice As s.length cs, .slice (some ⟨bl, 0, none⟩) L.length cL, .int .i64 lo, .int .i64 hi, .int .i64 us] (fun w => Rd w As (s.flatMap (eI .u8)) ∧ Rd w (some ⟨bl, 0, none⟩) (L.flatMap encPh)) (fun x : Option Addr × Nat => .tuple #[.slice x.1 (likV s L lo hi us).1.length x.2, .int .i64 (likV s L lo hi us).2.1, .int .i64 (likV s L lo hi us).2.2]) (fun x => [.row (.slice x.1 (likV s L lo hi us).1.length x.2) 2 1 (likV s L lo hi us).1.length ((likV s L lo hi us).1.flatMap (eI .i64))]) (fun x => True) := by
  by_cases h : codeF s L lo hi lo = 0
  · exact c_sLik_t s hu As cs hls L hLk bl cL hlL lo hi us h
  · exact c_sLik_f s hu As cs hls L hLk bl cL hlL lo hi us h
end Go.Proofs.Ytdfgbocmjgjclaa

/- What these functions of the program hand back, each proved by walking its operations. -/
set_option linter.unusedVariables false
set_option linter.unusedSimpArgs false
set_option maxRecDepth 4000
namespace Go.Proofs.Ytdfgbocmjgjclaa
open Go Go.Sx Go.RowKit Go.W Go.Proofs
attribute [local irreducible] Ex ExL ExD Op1 Free RetQ MutQ Reads CellO SegO LoadsAs
theorem e_13 : Enters Try.prog 13 := Enters.of Try.func13 rfl
theorem c_iSure_f (s : List Int) (hu : Nums 255 s) (As : Option Addr) (cs : Nat) (hls : s.length ≤ maxLen) (L : List VPh) (hLk : ∀ k, k < L.length → OkPh (L.getD k zPh)) (bl cL : Nat) (hlL : L.length ≤ maxLen) (lo hi : Int) (hc0 : codeF s L lo hi lo ≠ 0) : Ret Try.prog 13 [.slice As s.length cs, .slice (some ⟨bl, 0, none⟩) L.length cL, .int .i64 lo, .int .i64 hi] (fun w => Rd w As (s.flatMap (eI .u8)) ∧ Rd w (some ⟨bl, 0, none⟩) (L.flatMap encPh)) (fun x : Option Addr × Nat => .tuple #[.slice x.1 (sureV s L lo hi).1.length x.2, .int .i64 (sureV s L lo hi).2]) (fun x => [.row (.slice x.1 (sureV s L lo hi).1.length x.2) 32 16 (sureV s L lo hi).1.length ((sureV s L lo hi).1.flatMap encPh)]) (fun x => True) := by
  refine Ret.of e_13 Try.func13 rfl Try.ntmps13 rfl rfl (fun w hpre => ?_)
  have hs := hpre.1.base
  have hLr := hpre.2.base
  have hm0 : maxLen = 9223372036854775807 := rfl
  refine Ex.regSeq (ExL.pures 2 rfl ?_)
  refine ExL.nil ?_
  refine Ex.regSeq (ExL.pures 5 rfl ?_)
  refine ExL.op rfl (op_ret rfl rfl rfl (c_filmOf_f s (by assumption) _ _ (by omega) L (by assumption) _ _ (by omega) lo hi lo hc0) (fun w hw => ⟨Reads.get (Reads.old hs) w hw, Reads.get (Reads.old hLr) w hw⟩) rfl rfl (fun x1 hx1 => ?_))
  refine ExL.pures 5 rfl ?_
  refine ExL.nil ?_
  refine Ex.seq ?_
  refine Ex.regSeq (ExL.pures 1 rfl ?_)
  refine ExL.neq rfl rfl rfl rfl rfl rfl (fun h2 => ?_) (fun h2 => ?_)
  · refine ExL.nil ?_
    refine Ex.cond_t rfl ?_
    refine Ex.regSeq (ExL.pures 3 rfl ?_)
    refine ExL.nil ?_
    refine Ex.nilRow 32 16 ?_
    refine Ex.ret ?_
    refine RetQ.mk (none, 0) rfl (.tmp rfl (.tmp rfl .nil)) (t2 (by first | (rw [hsl, hs0]; first | done | rfl) | (rw [hs0]; first | done | rfl) | (rw [hsl]; first | done | rfl) | (rw [sure_c hc0]; first | done | rfl) | (rw [hs6]; first | done | rfl)) (by first | (rw [hsl, hs0]; first | done | rfl) | (rw [hs0]; first | done | rfl) | (rw [hsl]; first | done | rfl) | (rw [sure_c hc0]; first | done | rfl) | (rw [hs6]; first | done | rfl))) [0] (by first | (rw [hsl, hs0]; first | done | rfl) | (rw [hs0]; first | done | rfl) | (rw [hsl]; first | done | rfl) | (rw [sure_c hc0]; first | done | rfl) | (rw [hs6]; first | done | rfl)) rfl (trivial)
  · refine ExL.nil ?_
    refine Ex.cond_f rfl ?_
    refine Ex.skip ?_
    exfalso; omega
theorem c_iSure_t (s : List Int) (hu : Nums 255 s) (As : Option Addr) (cs : Nat) (hls : s.length ≤ maxLen) (L : List VPh) (hLk : ∀ k, k < L.length → OkPh (L.getD k zPh)) (bl cL : Nat) (hlL : L.length ≤ maxLen) (lo hi : Int) (hc0 : codeF s L lo hi lo = 0) : Ret Try.prog 13 [.slice As s.length cs, .slice (some ⟨bl, 0, none⟩) L.length cL, .int .i64 lo, .int .i64 hi] (fun w => Rd w As (s.flatMap (eI .u8)) ∧ Rd w (some ⟨bl, 0, none⟩) (L.flatMap encPh)) (fun x : Option Addr × Nat => .tuple #[.slice x.1 (sureV s L lo hi).1.length x.2, .int .i64 (sureV s L lo hi).2]) (fun x => [.row (.slice x.1 (sureV s L lo hi).1.length x.2) 32 16 (sureV s L lo hi).1.length ((sureV s L lo hi).1.flatMap encPh)]) (fun x => True) := by
  refine Ret.of e_13 Try.func13 rfl Try.ntmps13 rfl rfl (fun w hpre => ?_)
  have hs := hpre.1.base
  have hLr := hpre.2.base
  have hm0 : maxLen = 9223372036854775807 := rfl
  have hLo : ∀ p ∈ L, OkPh p := fun p hp => by obtain ⟨i, hi, rfl⟩ := List.getElem_of_mem hp; have := hLk i hi; simpa [List.getD, hi] using this
  have hF := film hLo hc0
  have hl0 := hF.l0
  have hlh := hF.le
  have hh1 := hF.h1
  have hS := hF.st
  have hv := hF.vs
  have hn1 := hF.len
  refine Ex.regSeq (ExL.pures 2 rfl ?_)
  refine ExL.nil ?_
  refine Ex.regSeq (ExL.pures 5 rfl ?_)
  refine ExL.op rfl (op_ret rfl rfl rfl (c_filmOf_t s (by assumption) _ _ (by omega) L (by assumption) _ _ (by omega) lo hi lo hc0) (fun w hw => ⟨Reads.get (Reads.old hs) w hw, Reads.get (Reads.old hLr) w hw⟩) rfl rfl (fun x1 hx1 => ?_))
  have hfk := fk hF hx1
  have hkl := hfk.len
  have hfv := hfk.v
  have hfl := hfk.vl
  refine ExL.pures 5 rfl ?_
  refine ExL.nil ?_
  refine Ex.seq ?_
  have hus : 0 ≤ lo ∧ lo ≤ 1000000000000 := by omega
  refine Ex.regSeq (ExL.pures 1 rfl ?_)
  refine ExL.neq rfl rfl rfl rfl rfl rfl (fun h2 => ?_) (fun h2 => ?_)
  · refine ExL.nil ?_
    refine Ex.cond_t rfl ?_
    exfalso; omega
  · refine ExL.nil ?_
    refine Ex.cond_f rfl ?_
    refine Ex.skip ?_
    refine Ex.regSeq (ExL.pures 1 rfl ?_)
    refine ExL.op rfl (op_ret rfl rfl rfl (c_ahead x1.K L.length hfk lo hi (by omega) x1.A x1.c _) (fun w hw => ⟨Reads.get (Reads.blk (i := 0) rfl) w hw, Reads.get (Reads.row (i := 1) rfl) w hw, fun k hk => Reads.get (readsX (i := 2) rfl hk) w hw⟩) rfl rfl (fun x3 hx3 => ?_))
    obtain ⟨hJl, hR⟩ := hx3
    have hjl : ∀ k, k < L.length → (x3.2.getD k zX).xs.length ≤ 400 := fun k hk => by rw [hR k (by omega), reach_len]; exact (hfl k hk).2
    have hAr := hR
    have hAl := hJl
    have hAj := hjl
    refine ExL.pures 2 rfl ?_
    refine ExL.op rfl (op_ret rfl rfl rfl (c_sums x1.K L.length hfk lo hi (by omega) x1.A x1.c _ lo (by omega)) (fun w hw => ⟨Reads.get (Reads.blk (i := 2) rfl) w hw, Reads.get (Reads.row (i := 3) rfl) w hw, fun k hk => Reads.get (readsX (i := 4) rfl hk) w hw⟩) rfl rfl (fun x4 hx4 => ?_))
    obtain ⟨hJl, hR⟩ := hx4
    have hjl : ∀ k, k < L.length → (x4.2.getD (x1.K.length - 1 - k) zX).xs.length = (x1.K.getD k zX).xs.length := fun k hk => by rw [hR _ (by omega), cost_ln (by omega)]; show (x1.K.getD (x1.K.length - 1 - (x1.K.length - 1 - k)) zX).xs.length = _; rw [show x1.K.length - 1 - (x1.K.length - 1 - k) = k by omega]
    have hjl0 := hjl 0 (by omega)
    have hvl0 := hfl 0 (by omega)
    have hFa := fk_all hfk
    have hco := fun k (hk : k < x4.2.length) (q : Nat) => co_bd (F := fun k => (x1.K.getD k zX).xs) (lo := lo) (hi := hi) (us := lo) (n := x1.K.length) hFa hus hR (by omega) hk q
    have hbd0 := fun i => bk_bd (x4.2.getD (x1.K.length - 1 - 0) zX).xs i
    refine ExL.pures 2 rfl ?_
    refine ExL.nil ?_
    refine Ex.seq ?_
    have hj9 := hAj (x1.K.length - 1) (by omega)
    refine Ex.regSeq (ExL.pures 3 rfl ?_)
    refine ExL.free (Free.val ((x1.K.length - 1 : Nat) : Int) (fr_sub64 rfl rfl rfl (by omega)) (by omega)) rfl rfl rfl ?_
    refine ExL.free (fr_indexAddr (sz := 1) rfl rfl rfl rfl rfl rfl (by omega)) rfl rfl rfl ?_
    refine ExL.free (fr_load rfl rfl rfl rfl (cellJ (i := ↑(x1.K.length - 1)) ((x1.K.length - 1)) (Reads.row (i := 2) rfl) encX_len zX 0 rfl (by omega) (by omega) rfl)) rfl rfl rfl ?_
    refine ExL.op rfl (op_ret rfl rfl rfl (c_blContains (x3.2.getD (x1.K.length - 1) zX).xs _ _ (by omega)) (Reads.get (readsX (i := 3) rfl (k := (x1.K.length - 1)) (by omega))) rfl rfl (fun x5 hx5 => ?_))
    refine ExL.pures 1 rfl ?_
    refine ExL.nil ?_
    refine Ex.cond rfl (fun hb6 => ?_) (fun hb6 => ?_)
    · replace hb6 := nb_t hb6
      have hs6 := sure_6 (n := x1.K.length) hc0 hx1 hkl (by rw [← hAr (x1.K.length - 1) (by omega)]; assumption)
      refine Ex.regSeq (ExL.pures 2 rfl ?_)
      refine ExL.nil ?_
      refine Ex.nilRow 32 16 ?_
      refine Ex.ret ?_
      refine RetQ.mk (none, 0) rfl (.tmp rfl (.tmp rfl .nil)) (t2 (by first | (rw [hsl, hs0]; first | done | rfl) | (rw [hs0]; first | done | rfl) | (rw [hsl]; first | done | rfl) | (rw [sure_c hc0]; first | done | rfl) | (rw [hs6]; first | done | rfl)) (by first | (rw [hsl, hs0]; first | done | rfl) | (rw [hs0]; first | done | rfl) | (rw [hsl]; first | done | rfl) | (rw [sure_c hc0]; first | done | rfl) | (rw [hs6]; first | done | rfl))) [0] (by first | (rw [hsl, hs0]; first | done | rfl) | (rw [hs0]; first | done | rfl) | (rw [hsl]; first | done | rfl) | (rw [sure_c hc0]; first | done | rfl) | (rw [hs6]; first | done | rfl)) rfl (trivial)
    · replace hb6 := nb_f hb6
      refine Ex.skip ?_
      have hs0 := sure_0 (n := x1.K.length) hc0 hx1 hkl (by rw [← hAr (x1.K.length - 1) (by omega)]; assumption)
      have hsl : (sureV s L lo hi).1.length = L.length := by rw [hs0]; exact (sureP_len ..).trans hkl
      have hPl := sureP_len s (fun k => (x1.K.getD k zX).xs) x1.K.length lo hi
      have hl8 := hS.len8
      refine Ex.regSeq (ExL.pures 2 rfl ?_)
      refine ExL.op rfl (op_makeSlice (sz := 128) rfl rfl rfl rfl rfl rfl rfl rfl (⟨by omega, by unfold maxLen; omega⟩) rfl rfl (fun r7 => ?_))
      refine ExL.pures 1 rfl ?_
      refine ExL.nil ?_
      refine Ex.seq ?_
      refine Ex.regSeq (ExL.pures 3 rfl ?_)
      refine ExL.free (fr_load rfl rfl rfl rfl (CellO.blk (i := 5) rfl rfl)) rfl rfl rfl ?_
      refine ExL.pures 2 rfl ?_
      refine ExL.nil ?_
      refine Ex.block ?_
      refine Ex.loopK (X := Nat) (fun k => [(54, .int .i64 k)]) (fun k => [.row (.slice (some ⟨r7, 0, none⟩) L.length L.length) 32 16 L.length ((Sx.part zPh (sureP s (fun k => (x1.K.getD k zX).xs) x1.K.length lo hi) k).flatMap encPh)]) (fun k => k ≤ x1.K.length) (fun k => x1.K.length - k) 0 [(0, _), (8, _), (9, _), (12, _), (13, _), (14, _), (52, _), (53, _)] [_, _, _, _, _, _, _] 8 [0, 1, 2, 3, 4, 5, 6, 7] ⟨rfl, trivial⟩ ⟨rfl, rfl, rfl, rfl, rfl, rfl, rfl, rfl, trivial⟩ (pkR (zpart encPh_len zPh rfl (sureP s (fun k => (x1.K.getD k zX).xs) x1.K.length lo hi) (by omega))) rfl (Nat.zero_le _) (fun k hI => ?_)
      have hI : k ≤ x1.K.length := hI
      refine Ex.regSeq (ExL.pures 0 rfl ?_)
      refine ExL.lss rfl rfl rfl rfl rfl rfl (fun h8 => ?_) (fun h8 => ?_)
      · refine ExL.nil ?_
        refine Ex.seq ?_
        refine Ex.cond_t rfl ?_
        refine Ex.skip ?_
        refine Ex.seq ?_
        refine Ex.block ?_
        have hkL : k < L.length := by omega
        have hvl := hfl k hkL
        have hjk := hjl k hkL
        have hak := hAj k hkL
        have hAk := hAr k (by omega)
        have hRk := hR (x1.K.length - 1 - k) (by omega)
        have hak2 : (x3.2.getD k zX).xs.length = (x1.K.getD k zX).xs.length := by rw [hAk, reach_len]
        refine Ex.regSeq (ExL.pures 1 rfl ?_)
        refine ExL.free (fr_indexAddrR (sz := 1) 6 rfl rfl rfl rfl rfl rfl (by omega)) rfl rfl rfl ?_
        refine ExL.free (fr_load rfl rfl rfl rfl (by first | exact cellN (Reads.row (i := 6) rfl) encX_len zX 0 rfl (by omega) rfl | exact cellF (Reads.row (i := 6) rfl) encX_len zX 0 rfl (by omega) rfl)) rfl rfl rfl ?_
        refine ExL.pures 2 rfl ?_
        refine ExL.nil ?_
        refine Ex.regSeq (ExL.pures 3 rfl ?_)
        refine ExL.nil ?_
        refine Ex.block ?_
        refine Ex.loopK (X := Nat) (fun i => [(61, .int .i64 i)]) (fun i => [.row (.slice (some ⟨r7, 0, none⟩) L.length L.length) 32 16 L.length ((rowS (sureP s (fun k => (x1.K.getD k zX).xs) x1.K.length lo hi) k (sureK s (fun k => (x1.K.getD k zX).xs) x1.K.length lo hi k i)).flatMap encPh)]) (fun i => i ≤ (x1.K.getD k zX).xs.length) (fun i => (x1.K.getD k zX).xs.length - i) 0 [(0, _), (8, _), (9, _), (12, _), (13, _), (14, _), (15, _), (52, _), (53, _), (54, _), (59, _), (60, _)] [_, _, _, _, _, _, _] 8 [0, 1, 2, 3, 4, 5, 6, 7] ⟨rfl, trivial⟩ ⟨rfl, rfl, rfl, rfl, rfl, rfl, rfl, rfl, rfl, rfl, rfl, rfl, trivial⟩ (pkR (congrArg (fun z => List.flatMap encPh z) (rowS_0 (by omega)))) rfl (Nat.zero_le _) (fun i hI => ?_)
        have hI : i ≤ (x1.K.getD k zX).xs.length := hI
        refine Ex.regSeq (ExL.pures 0 rfl ?_)
        refine ExL.lss rfl rfl rfl rfl rfl rfl (fun h9 => ?_) (fun h9 => ?_)
        · refine ExL.nil ?_
          refine Ex.seq ?_
          refine Ex.cond_t rfl ?_
          refine Ex.skip ?_
          refine Ex.seq ?_
          refine Ex.block ?_
          have hii : i < (x1.K.getD k zX).xs.length := by omega
          have hvi := hFa k i
          refine Ex.regSeq (ExL.pures 1 rfl ?_)
          refine ExL.free (fr_indexAddrF (readsX (i := 7) rfl (k := k) (by omega)) (eI_len .i64) rfl rfl rfl rfl rfl rfl (by omega)) rfl rfl rfl ?_
          refine ExL.free (fr_load rfl rfl rfl rfl (by first | exact cellN (readsX (i := 7) rfl (k := k) (by omega)) (eI_len .i64) 0 0 rfl (by omega) rfl | exact cellF (readsX (i := 7) rfl (k := k) (by omega)) (eI_len .i64) 0 0 rfl (by omega) rfl)) rfl rfl rfl ?_
          refine ExL.pures 2 rfl ?_
          refine ExL.nil ?_
          refine Ex.seq ?_
          refine Ex.regSeq (ExL.pures 2 rfl ?_)
          refine ExL.free (fr_indexAddr (sz := 1) rfl rfl rfl rfl rfl rfl (by omega)) rfl rfl rfl ?_
          refine ExL.free (fr_load rfl rfl rfl rfl (by first | exact cellN (Reads.row (i := 3) rfl) encX_len zX 0 rfl (by omega) rfl | exact cellF (Reads.row (i := 3) rfl) encX_len zX 0 rfl (by omega) rfl)) rfl rfl rfl ?_
          refine ExL.pures 1 rfl ?_
          refine ExL.free (fr_indexAddrF (readsX (i := 4) rfl (k := k) (by omega)) eB_len rfl rfl rfl rfl rfl rfl (by omega)) rfl rfl rfl ?_
          refine ExL.free (fr_load rfl rfl rfl rfl (by first | exact cellN (readsX (i := 4) rfl (k := k) (by omega)) eB_len false 0 rfl (by omega) rfl | exact cellF (readsX (i := 4) rfl (k := k) (by omega)) eB_len false 0 rfl (by omega) rfl)) rfl rfl rfl ?_
          refine ExL.pures 2 rfl ?_
          refine ExL.bool (d := 74) rfl (fun hb10 => ?_) (fun hb10 => ?_)
          · replace hb10 := nb_t hb10
            refine ExL.pures 9 rfl ?_
            refine ExL.nil ?_
            refine Ex.cond_t rfl ?_
            refine Ex.exit ?_
            refine Ex.region (ExL.pures 0 rfl ?_)
            refine ExL.free (by first | exact fr_add64 rfl rfl rfl (by omega) | exact fr_add rfl rfl rfl) rfl rfl rfl ?_
            refine ExL.pures 1 rfl ?_
            refine ExL.nil ?_
            refine Hand.mk (i + 1) 8 [0, 1, 2, 3, 4, 5, 6, 7] ⟨rfl, trivial⟩ ⟨rfl, rfl, rfl, rfl, rfl, rfl, rfl, rfl, rfl, rfl, rfl, rfl, trivial⟩ (by first | exact pkR (congrArg (fun z => List.flatMap encPh (rowS (sureP s (fun k => (x1.K.getD k zX).xs) x1.K.length lo hi) k z)) (sure_y (ok_yG hAk hRk (by assumption) (by omega)) (by omega))) | exact pkR (congrArg (fun z => List.flatMap encPh (rowS (sureP s (fun k => (x1.K.getD k zX).xs) x1.K.length lo hi) k z)) (sure_n (ok_n1G hAk (by assumption)))) | exact pkR (congrArg (fun z => List.flatMap encPh (rowS (sureP s (fun k => (x1.K.getD k zX).xs) x1.K.length lo hi) k z)) (sure_n (ok_n2F hRk (by omega))))) rfl (by omega) (by omega)
          · replace hb10 := nb_f hb10
            refine ExL.pures 2 rfl ?_
            refine ExL.free (fr_indexAddr (sz := 1) rfl rfl rfl rfl rfl rfl (by omega)) rfl rfl rfl ?_
            refine ExL.free (fr_load rfl rfl rfl rfl (cellE (r := (x4.2.getD (x1.K.length - 1 - k) zX)) (i := ↑k) (k) (Reads.row (i := 1) rfl) encX_len zX 0 rfl (by omega) (by rw [outE_len]; omega) (outE_at (by omega)) rfl)) rfl rfl rfl ?_
            refine ExL.pures 1 rfl ?_
            refine ExL.free (fr_indexAddrF (readsX (i := 2) rfl (k := (x1.K.length - 1 - k)) (by omega)) (eI_len .i64) rfl rfl rfl rfl rfl rfl (by omega)) rfl rfl rfl ?_
            refine ExL.free (fr_load rfl rfl rfl rfl (by first | exact cellN (readsX (i := 2) rfl (k := (x1.K.length - 1 - k)) (by omega)) (eI_len .i64) 0 0 rfl (by omega) rfl | exact cellF (readsX (i := 2) rfl (k := (x1.K.length - 1 - k)) (by omega)) (eI_len .i64) 0 0 rfl (by omega) rfl)) rfl rfl rfl ?_
            refine ExL.lss rfl rfl rfl rfl rfl rfl (fun h11 => ?_) (fun h11 => ?_)
            · refine ExL.pures 1 rfl ?_
              refine ExL.nil ?_
              refine Ex.cond_t rfl ?_
              refine Ex.exit ?_
              refine Ex.region (ExL.pures 0 rfl ?_)
              refine ExL.free (by first | exact fr_add64 rfl rfl rfl (by omega) | exact fr_add rfl rfl rfl) rfl rfl rfl ?_
              refine ExL.pures 1 rfl ?_
              refine ExL.nil ?_
              refine Hand.mk (i + 1) 8 [0, 1, 2, 3, 4, 5, 6, 7] ⟨rfl, trivial⟩ ⟨rfl, rfl, rfl, rfl, rfl, rfl, rfl, rfl, rfl, rfl, rfl, rfl, trivial⟩ (by first | exact pkR (congrArg (fun z => List.flatMap encPh (rowS (sureP s (fun k => (x1.K.getD k zX).xs) x1.K.length lo hi) k z)) (sure_y (ok_yG hAk hRk (by assumption) (by omega)) (by omega))) | exact pkR (congrArg (fun z => List.flatMap encPh (rowS (sureP s (fun k => (x1.K.getD k zX).xs) x1.K.length lo hi) k z)) (sure_n (ok_n1G hAk (by assumption)))) | exact pkR (congrArg (fun z => List.flatMap encPh (rowS (sureP s (fun k => (x1.K.getD k zX).xs) x1.K.length lo hi) k z)) (sure_n (ok_n2F hRk (by omega))))) rfl (by omega) (by omega)
            · refine ExL.pures 1 rfl ?_
              refine ExL.nil ?_
              refine Ex.cond_f rfl ?_
              refine Ex.skip ?_
              refine Ex.regSeq (ExL.pures 2 rfl ?_)
              refine ExL.op rfl (op_ret rfl rfl rfl (c_digits s (by first | assumption | simp_all) _ _ _ (by omega)) (Reads.get (Reads.old hs)) rfl rfl (fun x12 hx12 => ?_))
              refine ExL.op rfl (op_alloc rfl rfl rfl rfl rfl (fun b13 => ?_))
              refine ExL.op rfl (op_storeC (i := 0) rfl rfl rfl rfl rfl rfl rfl rfl rfl rfl ?_)
              refine ExL.nil ?_
              refine Ex.regSeq (ExL.pures 3 rfl ?_)
              refine ExL.nil ?_
              refine Ex.block ?_
              refine Ex.loopK (X := Nat) (fun w => [(89, .int .i64 w)]) (fun w => [.row (.slice (some ⟨r7, 0, none⟩) L.length L.length) 32 16 L.length ((rowS (sureP s (fun k => (x1.K.getD k zX).xs) x1.K.length lo hi) k (putW s (dig (digs s ((x1.K.getD k zX).xs.getD i 0))).l (sureK s (fun k => (x1.K.getD k zX).xs) x1.K.length lo hi k i) w)).flatMap encPh), .blk b13 (((dig (digs s ((x1.K.getD k zX).xs.getD i 0))).l).flatMap (eI .u8)) 45]) (fun w => w ≤ s.length) (fun w => s.length - w) 0 [(0, _), (8, _), (9, _), (12, _), (13, _), (14, _), (15, _), (19, _), (52, _), (53, _), (54, _), (59, _), (60, _), (61, _), (88, _)] [_, _, _, _, _, _, _] 9 [1, 0, 2, 3, 4, 5, 6, 7, 8] ⟨rfl, trivial⟩ ⟨rfl, rfl, rfl, rfl, rfl, rfl, rfl, rfl, rfl, rfl, rfl, rfl, rfl, rfl, rfl, trivial⟩ (rfl) rfl (Nat.zero_le _) (fun w hI => ?_)
              have hI : w ≤ s.length := hI
              refine Ex.regSeq (ExL.pures 0 rfl ?_)
              refine ExL.lss rfl rfl rfl rfl rfl rfl (fun h14 => ?_) (fun h14 => ?_)
              · refine ExL.nil ?_
                refine Ex.seq ?_
                refine Ex.cond_t rfl ?_
                refine Ex.skip ?_
                refine Ex.seq ?_
                refine Ex.block ?_
                have hws : w < s.length := by omega
                have hdw := digOk (l := (dig (digs s ((x1.K.getD k zX).xs.getD i 0))).l) hS.len8 (by rw [dig_l (digs_len s _)]; exact digs_num hS.bases) (by rw [dig_l (digs_len s _)]; exact digs_valid hS) w hws
                have hbw := hS.bases w hws
                have hpo := putW_ok (s := s) (d := (dig (digs s ((x1.K.getD k zX).xs.getD i 0))).l) (l := (sureK s (fun k => (x1.K.getD k zX).xs) x1.K.length lo hi k i)) (sure_ok hS i) (digs_lt hS) w hI
                have hpl : (putW s (dig (digs s ((x1.K.getD k zX).xs.getD i 0))).l (sureK s (fun k => (x1.K.getD k zX).xs) x1.K.length lo hi k i) w).length = 8 := by rw [putW_len]; exact sureK_len
                refine Ex.regSeq (ExL.pures 2 rfl ?_)
                refine ExL.nil ?_
                refine Ex.drawI [1, 2, 3, 4, 5, 6, 7, 8] rfl rfl ?_
                refine ExD.take (i := 0) rfl (by kernel_rfl) (pureVal_ok rfl) ((List.Sublist.cons _ (List.Sublist.refl _))) rfl rfl rfl ?_
                refine ExD.take (i := 1) rfl (by kernel_rfl) (pureVal_ok rfl) ((List.Sublist.cons _ (List.Sublist.refl _))) rfl rfl rfl ?_
                refine ExD.take (i := 2) rfl (by kernel_rfl) (pureVal_ok rfl) ((List.Sublist.cons _ (List.Sublist.refl _))) rfl rfl rfl ?_
                refine ExD.take (i := 3) rfl (by kernel_rfl) (pureVal_ok rfl) ((List.Sublist.cons _ (List.Sublist.refl _))) rfl rfl rfl ?_
                refine ExD.take (i := 4) rfl (by kernel_rfl) (pureVal_ok rfl) ((List.Sublist.cons _ (List.Sublist.refl _))) rfl rfl rfl ?_
                refine ExD.take (i := 5) rfl (by kernel_rfl) (pureVal_ok rfl) ((List.Sublist.cons _ (List.Sublist.refl _))) rfl rfl rfl ?_
                refine ExD.take (i := 6) rfl (by kernel_rfl) (fr_indexAddr (sz := 16) rfl rfl rfl rfl rfl rfl (by omega)) ((List.Sublist.cons _ (List.Sublist.refl _))) rfl rfl rfl ?_
                refine ExD.take (i := 9) rfl (by kernel_rfl) (pureVal_ok rfl) ((List.Sublist.cons _ (List.Sublist.refl _))) rfl rfl rfl ?_
                refine ExD.take (i := 10) rfl (by kernel_rfl) (fr_indexAddr_b (sz := 1) rfl rfl rfl rfl rfl (by omega)) ((List.Sublist.cons _ (List.Sublist.refl _))) rfl rfl rfl ?_
                refine ExD.take (i := 11) rfl (by kernel_rfl) (fr_load rfl rfl rfl rfl (CellO.blk (i := 0) rfl (blkG (eI_len .u8) 0 rfl (by rw [dig_len]; omega) rfl))) ((List.Sublist.cons _ (List.Sublist.refl _))) rfl rfl rfl ?_
                refine ExD.take (i := 12) rfl (by kernel_rfl) (by first | exact fr_conv64 rfl rfl rfl rfl (by omega) | exact fr_conv rfl rfl rfl rfl) ((List.Sublist.cons _ (List.Sublist.refl _))) rfl rfl rfl ?_
                refine ExD.take (i := 14) rfl (by kernel_rfl) (fr_indexAddr (sz := 16) rfl rfl rfl rfl rfl rfl (by omega)) ((List.Sublist.cons _ (List.Sublist.refl _))) rfl rfl rfl ?_
                refine ExD.op (i := 7) rfl (by kernel_rfl) rfl (Op1.of_free (fr_indexAddrRo (sz' := 2) 0 rfl (by omega) rfl rfl rfl rfl rfl (by omega)) rfl rfl ⟨(List.Sublist.cons _ (List.Sublist.refl _)), ?_⟩)
                refine ExD.op (i := 8) rfl (by kernel_rfl) rfl (Op1.of_free (fr_loadN rfl rfl rfl rfl rfl (segS (i := ↑k) (j := ↑w) (Reads.row (i := 0) rfl) hpl (by omega) (by omega) rfl rfl)) rfl rfl ⟨(List.Sublist.cons _ (List.Sublist.refl _)), ?_⟩)
                refine ExD.op (i := 13) rfl (by kernel_rfl) rfl (op_ret rfl rfl rfl (c_with ((putW s (dig (digs s ((x1.K.getD k zX).xs.getD i 0))).l (sureK s (fun k => (x1.K.getD k zX).xs) x1.K.length lo hi k i) w).getD w zMk) (hpo w) ((dig (digs s ((x1.K.getD k zX).xs.getD i 0))).l.getD w 0) (by omega)) (fun _ _ => trivial) rfl rfl (fun x15 hx15 => ⟨(List.Sublist.cons _ (List.Sublist.refl _)), ?_⟩))
                refine ExD.op (i := 15) rfl (by kernel_rfl) rfl (Op1.of_free (fr_indexAddrRo (sz' := 2) 0 rfl (by omega) rfl rfl rfl rfl rfl (by omega)) rfl rfl ⟨(List.Sublist.cons _ (List.Sublist.refl _)), ?_⟩)
                refine ExD.op (i := 16) rfl (by kernel_rfl) rfl (op_storeRowF (i := 0) rfl rfl rfl rfl rfl rfl rfl rfl (room_at encPh_len (k := k) (q := w * 2) (by rw [rowS_len (by omega)]; omega) (by simp) (Nat.ble_eq_true_of_le (by show w * 2 + 2 ≤ 16; omega))) (List.cons_ne_nil _ _) rfl (rowS_put (w := w) (m := putW s (dig (digs s ((x1.K.getD k zX).xs.getD i 0))).l (sureK s (fun k => (x1.K.getD k zX).xs) x1.K.length lo hi k i) w) (y := (putM ((putW s (dig (digs s ((x1.K.getD k zX).xs.getD i 0))).l (sureK s (fun k => (x1.K.getD k zX).xs) x1.K.length lo hi k i) w).getD w zMk) (((dig (digs s ((x1.K.getD k zX).xs.getD i 0))).l).getD w 0).toNat)) hpl (by omega) (by omega) (by simp) rfl) ⟨(List.Sublist.cons _ (List.Sublist.refl _)), ?_⟩)
                refine ExD.done (by kernel_rfl) ?_
                refine Ex.region (ExL.pures 0 rfl ?_)
                refine ExL.free (by first | exact fr_add64 rfl rfl rfl (by omega) | exact fr_add rfl rfl rfl) rfl rfl rfl ?_
                refine ExL.pures 1 rfl ?_
                refine ExL.nil ?_
                refine Hand.mk (w + 1) 9 [0, 1, 2, 3, 4, 5, 6, 7, 8] ⟨rfl, trivial⟩ ⟨rfl, rfl, rfl, rfl, rfl, rfl, rfl, rfl, rfl, rfl, rfl, rfl, rfl, rfl, rfl, trivial⟩ (rfl) rfl (by omega) (by omega)
              · refine ExL.nil ?_
                refine Ex.seq ?_
                refine Ex.cond_f rfl ?_
                refine Ex.exit ?_
                refine Ex.region (ExL.pures 0 rfl ?_)
                refine ExL.free (by first | exact fr_add64 rfl rfl rfl (by omega) | exact fr_add rfl rfl rfl) rfl rfl rfl ?_
                refine ExL.pures 1 rfl ?_
                refine ExL.nil ?_
                refine Hand.mk (i + 1) 9 [0, 2, 3, 4, 5, 6, 7, 8] ⟨rfl, trivial⟩ ⟨rfl, rfl, rfl, rfl, rfl, rfl, rfl, rfl, rfl, rfl, rfl, rfl, trivial⟩ (by first | exact pkR (congrArg (fun z => List.flatMap encPh (rowS (sureP s (fun k => (x1.K.getD k zX).xs) x1.K.length lo hi) k z)) (sure_y (ok_yG hAk hRk (by assumption) (by omega)) (by omega))) | exact pkR (congrArg (fun z => List.flatMap encPh (rowS (sureP s (fun k => (x1.K.getD k zX).xs) x1.K.length lo hi) k z)) (sure_n (ok_n1G hAk (by assumption)))) | exact pkR (congrArg (fun z => List.flatMap encPh (rowS (sureP s (fun k => (x1.K.getD k zX).xs) x1.K.length lo hi) k z)) (sure_n (ok_n2F hRk (by omega))))) rfl (by omega) (by omega)
        · refine ExL.nil ?_
          refine Ex.seq ?_
          refine Ex.cond_f rfl ?_
          refine Ex.exit ?_
          obtain rfl : i = (x1.K.getD k zX).xs.length := (by omega)
          rw [rowS_fin (by omega) (sureP_at (by omega)).symm]
          refine Ex.region (ExL.pures 0 rfl ?_)
          refine ExL.free (by first | exact fr_add64 rfl rfl rfl (by omega) | exact fr_add rfl rfl rfl) rfl rfl rfl ?_
          refine ExL.pures 1 rfl ?_
          refine ExL.nil ?_
          refine Hand.mk (k + 1) 8 [0, 1, 2, 3, 4, 5, 6, 7] ⟨rfl, trivial⟩ ⟨rfl, rfl, rfl, rfl, rfl, rfl, rfl, rfl, trivial⟩ (rfl) rfl (by omega) (by omega)
      · refine ExL.nil ?_
        refine Ex.seq ?_
        refine Ex.cond_f rfl ?_
        refine Ex.exit ?_
        obtain rfl : k = (sureP s (fun k => (x1.K.getD k zX).xs) x1.K.length lo hi).length := (by omega)
        rw [part_all]
        refine Ex.regSeq (ExL.pures 3 rfl ?_)
        refine ExL.nil ?_
        refine Ex.ret ?_
        refine RetQ.mk ((some ⟨r7, 0, none⟩), L.length) rfl (.tmp rfl (.tmp rfl .nil)) (t2 (by first | (rw [hsl, hs0]; first | done | rfl) | (rw [hs0]; first | done | rfl) | (rw [hsl]; first | done | rfl) | (rw [sure_c hc0]; first | done | rfl) | (rw [hs6]; first | done | rfl)) (by first | (rw [hsl, hs0]; first | done | rfl) | (rw [hs0]; first | done | rfl) | (rw [hsl]; first | done | rfl) | (rw [sure_c hc0]; first | done | rfl) | (rw [hs6]; first | done | rfl))) [0] (by first | (rw [hsl, hs0]; first | done | rfl) | (rw [hs0]; first | done | rfl) | (rw [hsl]; first | done | rfl) | (rw [sure_c hc0]; first | done | rfl) | (rw [hs6]; first | done | rfl)) rfl (trivial)
theorem c_iSure (s : List Int) (hu : Nums 255 s) (As : Option Addr) (cs : Nat) (hls : s.length ≤ maxLen) (L : List VPh) (hLk : ∀ k, k < L.length → OkPh (L.getD k zPh)) (bl cL : Nat) (hlL : L.length ≤ maxLen) (lo hi : Int) : Ret Try.prog 13 [.slice As s.length cs, .slice (some ⟨bl, 0, none⟩) L.length cL, .int .i64 lo, .int .i64 hi] (fun w => Rd w As (s.flatMap (eI .u8)) ∧ Rd w (some ⟨bl, 0, none⟩) (L.flatMap encPh)) (fun x : Option Addr × Nat => .tuple #[.slice x.1 (sureV s L lo hi).1.length x.2, .int .i64 (sureV s L lo hi).2]) (fun x => [.row (.slice x.1 (sureV s L lo hi).1.length x.2) 32 16 (sureV s L lo hi).1.length ((sureV s L lo hi).1.flatMap encPh)]) (fun x => True) := by
  by_cases h : codeF s L lo hi lo = 0
  · exact c_iSure_t s hu As cs hls L hLk bl cL hlL lo hi  h
  · exact c_iSure_f s hu As cs hls L hLk bl cL hlL lo hi  h
theorem e_40 : Enters Try.prog 40 := Enters.of Try.func40 rfl
theorem c_ending (v0 : Value) (K : List (VX Int)) (n : Nat) (hfk : FK K n) (lo hi : Int) (hlh : 0 ≤ lo ∧ hi ≤ 1000000000000) (AK : Option Addr) (cK b : Nat) (J : List (VX Bool)) (AJ : Option Addr) (cJ : Nat) (hJl : J.length = K.length) (hR : ∀ i, i < J.length → (J.getD i zX).xs = reachL lo hi (fun k => (K.getD k zX).xs) i) : Mut Try.prog 40 [.pointer (some ⟨b, 0, none⟩), .slice AJ K.length cJ] [.blk b [v0, .slice AK K.length cK, .int .i64 lo, .int .i64 hi] 66, .row (.slice AK K.length cK) 26 1 K.length (K.flatMap encX), .pile (K.map (rwX (eI .i64) 2 1)), .row (.slice AJ K.length cJ) 69 1 K.length (J.flatMap encX), .pile (J.map (rwX eB 4 1))] (fun base w0 F => True) (fun x : Unit => .tuple #[]) (fun x => [.blk b [v0, .slice AK K.length cK, .int .i64 lo, .int .i64 hi] 66, .row (.slice AK K.length cK) 26 1 K.length (K.flatMap encX), .pile (K.map (rwX (eI .i64) 2 1)), .row (.slice AJ K.length cJ) 69 1 K.length (J.flatMap encX), .pile ((rowsW J (fun q => endL lo hi (fun k => (K.getD k zX).xs) K.length (K.length - 1 - q))).map (rwX eB 4 1))]) (fun x => True) := by
  refine Mut.of e_40 Try.func40 rfl Try.ntmps40 rfl rfl (fun base w0 F hfr => ?_)
  obtain rfl : n = K.length := hfk.len.symm
  have hfl := hfk.vl
  have hfv := hfk.v
  have hn1 := hfk.n1
  have hJx : ∀ i, i < K.length → (J.getD i zX).xs.length = (K.getD i zX).xs.length := fun i hi => by rw [hR i (by omega), reach_len]
  have hm0 : maxLen = 9223372036854775807 := rfl
  refine Ex.regSeq (ExL.pures 2 rfl ?_)
  refine ExL.free (by first | exact fr_sub64 rfl rfl rfl (by omega) | exact fr_sub rfl rfl rfl) rfl rfl rfl ?_
  refine ExL.pures 1 rfl ?_
  refine ExL.nil ?_
  refine Ex.block ?_
  refine Ex.loopK (X := Nat) (fun t => [(4, .int .i64 ((K.length : Int) - 2 - t))]) (fun t => [.pile ((rowsW J (Gt lo hi (fun k => (K.getD k zX).xs) K.length t)).map (rwX eB 4 1))]) (fun t => t + 1 ≤ K.length) (fun t => K.length - t) 0 [(0, _), (1, _)] (_ :: _ :: _ :: _ :: F) 5 [4, 0, 1, 2, 3] ⟨agI (by omega), trivial⟩ ⟨rfl, rfl, trivial⟩ (by rw [rowsW_0 (G := (Gt lo hi (fun k => (K.getD k zX).xs) K.length 0)) (fun q hq => (hR q hq).trans (gt_0 (by omega) (by omega)))]; rfl) rfl (by omega) (fun t hI => ?_)
  have hI : t + 1 ≤ K.length := hI
  refine Ex.seq ?_
  refine Ex.regSeq (ExL.pures 1 rfl ?_)
  refine ExL.geq rfl rfl rfl rfl rfl rfl (fun h1 => ?_) (fun h1 => ?_)
  · refine ExL.nil ?_
    refine Ex.cond_t rfl ?_
    refine Ex.skip ?_
    refine Ex.seq ?_
    refine Ex.block ?_
    have ht2 : t + 2 ≤ K.length := by omega
    have hnn : (K.getD (K.length - 1 - t) zX).xs = (K.getD ((K.length - 2 - t) + 1) zX).xs := by rw [show K.length - 1 - t = (K.length - 2 - t) + 1 by omega]
    have hEl : (endL lo hi (fun k => (K.getD k zX).xs) K.length t).length = (K.getD ((K.length - 2 - t) + 1) zX).xs.length := by rw [end_len _ _ _ _ t (by omega)]; exact congrArg List.length hnn
    have hvl := hfl (K.length - 2 - t) (by omega)
    have hvl1 := hfl ((K.length - 2 - t) + 1) (by omega)
    rw [show (K.length : Int) - 2 - t = ((K.length - 2 - t : Nat) : Int) by omega]
    refine Ex.regSeq (ExL.pures 1 rfl ?_)
    refine ExL.nil ?_
    refine Ex.block ?_
    refine Ex.loopK (X := Nat) (fun k => [(5, .int .i64 k)]) (fun k => [.pile ((rowsW J (Gst lo hi (fun k => (K.getD k zX).xs) K.length t k)).map (rwX eB 4 1))]) (fun k => k ≤ (K.getD (K.length - 2 - t) zX).xs.length) (fun k => (K.getD (K.length - 2 - t) zX).xs.length - k) 0 [(0, _), (1, _), (4, _)] (_ :: _ :: _ :: _ :: F) 5 [0, 1, 2, 3, 4] ⟨rfl, trivial⟩ ⟨rfl, rfl, rfl, trivial⟩ (by rw [rowsW_congr (G := (Gst lo hi (fun k => (K.getD k zX).xs) K.length t 0)) (G' := (Gt lo hi (fun k => (K.getD k zX).xs) K.length t)) (fun q _ => gst_0 ht2 q)]; rfl) rfl (Nat.zero_le _) (fun k hI => ?_)
    have hI : k ≤ (K.getD (K.length - 2 - t) zX).xs.length := hI
    refine Ex.seq ?_
    refine Ex.regSeq (ExL.pures 3 rfl ?_)
    refine ExL.free (fr_indexAddrR (sz := 1) 4 rfl rfl rfl rfl rfl rfl (by omega)) rfl rfl rfl ?_
    refine ExL.free (fr_load rfl rfl rfl rfl (cellE (v := .slice (J.getD (K.length - 2 - t) zX).A (K.getD (K.length - 2 - t) zX).xs.length (J.getD (K.length - 2 - t) zX).c) (r := (J.getD (K.length - 2 - t) zX)) (i := ↑(K.length - 2 - t)) ((K.length - 2 - t)) (Reads.row (i := 4) rfl) encX_len zX 0 rfl (by omega) (by omega) rfl (by unfold encX; rw [hJx _ (by omega)]; rfl))) rfl rfl rfl ?_
    refine ExL.pures 1 rfl ?_
    refine ExL.lss rfl rfl rfl rfl rfl rfl (fun h2 => ?_) (fun h2 => ?_)
    · refine ExL.nil ?_
      refine Ex.cond_t rfl ?_
      refine Ex.skip ?_
      refine Ex.seq ?_
      refine Ex.block ?_
      have hkk : k < (K.getD (K.length - 2 - t) zX).xs.length := by omega
      have hvi := hfv (K.length - 2 - t) k (by omega)
      refine Ex.regSeq (ExL.pures 1 rfl ?_)
      refine ExL.nil ?_
      refine Ex.seq ?_
      refine Ex.regSeq (ExL.pures 1 rfl ?_)
      refine ExL.nil ?_
      refine Ex.block ?_
      refine Ex.loopK (X := Nat) (fun j => [(6, .bool (endA lo hi ((K.getD (K.length - 2 - t) zX).xs.getD k 0) (K.getD ((K.length - 2 - t) + 1) zX).xs (endL lo hi (fun k => (K.getD k zX).xs) K.length t) j)), (7, .int .i64 j)]) (fun j => []) (fun j => j ≤ (K.getD ((K.length - 2 - t) + 1) zX).xs.length) (fun j => (K.getD ((K.length - 2 - t) + 1) zX).xs.length - j) 0 [(0, _), (1, _), (4, _), (5, _)] (_ :: _ :: _ :: _ :: _ :: F) 5 [0, 1, 2, 3, 4] ⟨agB (ea_0 _ _ _ _ _).symm, rfl, trivial⟩ ⟨rfl, rfl, rfl, rfl, trivial⟩ (rfl) rfl (Nat.zero_le _) (fun j hI => ?_)
      have hI : j ≤ (K.getD ((K.length - 2 - t) + 1) zX).xs.length := hI
      refine Ex.seq ?_
      refine Ex.regSeq (ExL.pures 3 rfl ?_)
      refine ExL.free (Free.val (((K.length - 2 - t) + 1 : Nat) : Int) (fr_add64 rfl rfl rfl (by omega)) (by omega)) rfl rfl rfl ?_
      refine ExL.free (fr_indexAddrR (sz := 1) 4 rfl rfl rfl rfl rfl rfl (by omega)) rfl rfl rfl ?_
      refine ExL.free (fr_load rfl rfl rfl rfl (cellE (v := .slice (J.getD (((K.length - 2 - t) + 1)) zX).A (endL lo hi (fun k => (K.getD k zX).xs) K.length t).length (J.getD (((K.length - 2 - t) + 1)) zX).c) (r := (J.getD (((K.length - 2 - t) + 1)) zX)) (i := ↑((K.length - 2 - t) + 1)) (((K.length - 2 - t) + 1)) (Reads.row (i := 4) rfl) encX_len zX 0 rfl (by omega) (by omega) rfl (by unfold encX; rw [hJx _ (by omega), hEl]; rfl))) rfl rfl rfl ?_
      refine ExL.pures 1 rfl ?_
      refine ExL.lss rfl rfl rfl rfl rfl rfl (fun h3 => ?_) (fun h3 => ?_)
      · refine ExL.pures 4 rfl ?_
        refine ExL.nil ?_
        refine Ex.cond rfl (fun hb4 => ?_) (fun hb4 => ?_)
        · replace hb4 := nb_t hb4
          refine Ex.skip ?_
          refine Ex.seq ?_
          refine Ex.block ?_
          have hvj := hfv ((K.length - 2 - t) + 1) j (by omega)
          refine Ex.drawM rfl ?_
          refine ExD.take (i := 0) rfl (by kernel_rfl) (pureVal_ok rfl) ((List.Sublist.refl _)) rfl rfl rfl ?_
          refine ExD.take (i := 1) rfl (by kernel_rfl) (pureVal_ok rfl) ((List.Sublist.refl _)) rfl rfl rfl ?_
          refine ExD.take (i := 2) rfl (by kernel_rfl) (Free.val (((K.length - 2 - t) + 1 : Nat) : Int) (fr_add64 rfl rfl rfl (by omega)) (by omega)) ((List.Sublist.refl _)) rfl rfl rfl ?_
          refine ExD.take (i := 3) rfl (by kernel_rfl) (fr_indexAddrR (sz := 1) 4 rfl rfl rfl rfl rfl rfl (by omega)) ((List.Sublist.refl _)) rfl rfl rfl ?_
          refine ExD.take (i := 4) rfl (by kernel_rfl) (fr_load rfl rfl rfl rfl (cellE (v := .slice (J.getD (((K.length - 2 - t) + 1)) zX).A (endL lo hi (fun k => (K.getD k zX).xs) K.length t).length (J.getD (((K.length - 2 - t) + 1)) zX).c) (r := (J.getD (((K.length - 2 - t) + 1)) zX)) (i := ↑((K.length - 2 - t) + 1)) (((K.length - 2 - t) + 1)) (Reads.row (i := 4) rfl) encX_len zX 0 rfl (by omega) (by omega) rfl (by unfold encX; rw [hJx _ (by omega), hEl]; rfl))) ((List.Sublist.refl _)) rfl rfl rfl ?_
          refine ExD.take (i := 5) rfl (by kernel_rfl) (pureVal_ok rfl) ((List.Sublist.refl _)) rfl rfl rfl ?_
          refine ExD.take (i := 6) rfl (by kernel_rfl) (fr_indexAddrF (readsW (G := (Gst lo hi (fun k => (K.getD k zX).xs) K.length t k)) (i := 0) rfl (k := (((K.length - 2 - t) + 1))) (by omega) (gst_next ht2)) eB_len rfl rfl rfl rfl rfl rfl (by omega)) ((List.Sublist.refl _)) rfl rfl rfl ?_
          refine ExD.take (i := 7) rfl (by kernel_rfl) (fr_load rfl rfl rfl rfl (by first | exact cellN (readsW (G := (Gst lo hi (fun k => (K.getD k zX).xs) K.length t k)) (i := 0) rfl (k := (((K.length - 2 - t) + 1))) (by omega) (gst_next ht2)) eB_len false 0 rfl (by omega) rfl | exact cellF (readsW (G := (Gst lo hi (fun k => (K.getD k zX).xs) K.length t k)) (i := 0) rfl (k := (((K.length - 2 - t) + 1))) (by omega) (gst_next ht2)) eB_len false 0 rfl (by omega) rfl)) ((List.Sublist.refl _)) rfl rfl rfl ?_
          refine ExD.take (i := 8) rfl (by kernel_rfl) (pureVal_ok rfl) ((List.Sublist.refl _)) rfl rfl rfl ?_
          refine ExD.bool (d := 46) rfl (fun hb5 => ?_) (fun hb5 => ?_)
          · refine ExD.take (i := 9) rfl (by kernel_rfl) (pureVal_ok rfl) ((List.Sublist.refl _)) rfl rfl rfl ?_
            refine ExD.take (i := 10) rfl (by kernel_rfl) (pureVal_ok rfl) ((List.Sublist.refl _)) rfl rfl rfl ?_
            refine ExD.take (i := 11) rfl (by kernel_rfl) (pureVal_ok rfl) ((List.Sublist.refl _)) rfl rfl rfl ?_
            refine ExD.take (i := 12) rfl (by kernel_rfl) (pureVal_ok rfl) ((List.Sublist.refl _)) rfl rfl rfl ?_
            refine ExD.take (i := 13) rfl (by kernel_rfl) (fr_load rfl rfl rfl rfl (CellO.blk (i := 1) rfl rfl)) ((List.Sublist.refl _)) rfl rfl rfl ?_
            refine ExD.take (i := 14) rfl (by kernel_rfl) (pureVal_ok rfl) ((List.Sublist.refl _)) rfl rfl rfl ?_
            refine ExD.take (i := 15) rfl (by kernel_rfl) (fr_indexAddrR (sz := 1) 2 rfl rfl rfl rfl rfl rfl (by omega)) ((List.Sublist.refl _)) rfl rfl rfl ?_
            refine ExD.take (i := 16) rfl (by kernel_rfl) (fr_load rfl rfl rfl rfl (cellJ (i := ↑(K.length - 2 - t)) ((K.length - 2 - t)) (Reads.row (i := 2) rfl) encX_len zX 0 rfl (by omega) (by omega) rfl)) ((List.Sublist.refl _)) rfl rfl rfl ?_
            refine ExD.take (i := 17) rfl (by kernel_rfl) (pureVal_ok rfl) ((List.Sublist.refl _)) rfl rfl rfl ?_
            refine ExD.take (i := 18) rfl (by kernel_rfl) (fr_indexAddrF (readsX (i := 3) rfl (k := (K.length - 2 - t)) (by omega)) (eI_len .i64) rfl rfl rfl rfl rfl rfl (by omega)) ((List.Sublist.refl _)) rfl rfl rfl ?_
            refine ExD.take (i := 19) rfl (by kernel_rfl) (fr_load rfl rfl rfl rfl (by first | exact cellN (readsX (i := 3) rfl (k := (K.length - 2 - t)) (by omega)) (eI_len .i64) 0 0 rfl (by omega) rfl | exact cellF (readsX (i := 3) rfl (k := (K.length - 2 - t)) (by omega)) (eI_len .i64) 0 0 rfl (by omega) rfl)) ((List.Sublist.refl _)) rfl rfl rfl ?_
            refine ExD.take (i := 20) rfl (by kernel_rfl) (pureVal_ok rfl) ((List.Sublist.refl _)) rfl rfl rfl ?_
            refine ExD.take (i := 21) rfl (by kernel_rfl) (pureVal_ok rfl) ((List.Sublist.refl _)) rfl rfl rfl ?_
            refine ExD.take (i := 22) rfl (by kernel_rfl) (pureVal_ok rfl) ((List.Sublist.refl _)) rfl rfl rfl ?_
            refine ExD.take (i := 23) rfl (by kernel_rfl) (fr_load rfl rfl rfl rfl (CellO.blk (i := 1) rfl rfl)) ((List.Sublist.refl _)) rfl rfl rfl ?_
            refine ExD.take (i := 24) rfl (by kernel_rfl) (pureVal_ok rfl) ((List.Sublist.refl _)) rfl rfl rfl ?_
            refine ExD.take (i := 25) rfl (by kernel_rfl) (Free.val (((K.length - 2 - t) + 1 : Nat) : Int) (fr_add64 rfl rfl rfl (by omega)) (by omega)) ((List.Sublist.refl _)) rfl rfl rfl ?_
            refine ExD.take (i := 26) rfl (by kernel_rfl) (fr_indexAddrR (sz := 1) 2 rfl rfl rfl rfl rfl rfl (by omega)) ((List.Sublist.refl _)) rfl rfl rfl ?_
            refine ExD.take (i := 27) rfl (by kernel_rfl) (fr_load rfl rfl rfl rfl (cellJ (i := ↑((K.length - 2 - t) + 1)) (((K.length - 2 - t) + 1)) (Reads.row (i := 2) rfl) encX_len zX 0 rfl (by omega) (by omega) rfl)) ((List.Sublist.refl _)) rfl rfl rfl ?_
            refine ExD.take (i := 28) rfl (by kernel_rfl) (pureVal_ok rfl) ((List.Sublist.refl _)) rfl rfl rfl ?_
            refine ExD.take (i := 29) rfl (by kernel_rfl) (fr_indexAddrF (readsX (i := 3) rfl (k := (((K.length - 2 - t) + 1))) (by omega)) (eI_len .i64) rfl rfl rfl rfl rfl rfl (by omega)) ((List.Sublist.refl _)) rfl rfl rfl ?_
            refine ExD.take (i := 30) rfl (by kernel_rfl) (fr_load rfl rfl rfl rfl (by first | exact cellN (readsX (i := 3) rfl (k := (((K.length - 2 - t) + 1))) (by omega)) (eI_len .i64) 0 0 rfl (by omega) rfl | exact cellF (readsX (i := 3) rfl (k := (((K.length - 2 - t) + 1))) (by omega)) (eI_len .i64) 0 0 rfl (by omega) rfl)) ((List.Sublist.refl _)) rfl rfl rfl ?_
            refine ExD.op (i := 31) rfl (by kernel_rfl) rfl (op_ret rfl rfl rfl (c_follows _ _ lo hi (by omega) _ ((K.getD (K.length - 2 - t) zX).xs.getD k 0) ((K.getD (((K.length - 2 - t) + 1)) zX).xs.getD j 0) (by omega) (by omega)) (Reads.get (Reads.blk (i := 1) rfl)) rfl rfl (fun x6 hx6 => ⟨(List.Sublist.refl _), ?_⟩))
            refine ExD.take (i := 32) rfl (by kernel_rfl) (pureVal_ok rfl) ((List.Sublist.refl _)) rfl rfl rfl ?_
            refine ExD.take (i := 33) rfl (by kernel_rfl) (pureVal_ok rfl) ((List.Sublist.refl _)) rfl rfl rfl ?_
            refine ExD.done (by kernel_rfl) ?_
            refine Ex.region (ExL.pures 1 rfl ?_)
            refine ExL.free (by first | exact fr_add64 rfl rfl rfl (by omega) | exact fr_add rfl rfl rfl) rfl rfl rfl ?_
            refine ExL.pures 1 rfl ?_
            refine ExL.nil ?_
            refine Hand.mk (j + 1) 5 [0, 1, 2, 3, 4] ⟨agB (by first | exact ea_f (by assumption) (by assumption) | exact ea_g (by assumption) (by assumption)), rfl, trivial⟩ ⟨rfl, rfl, rfl, rfl, trivial⟩ (rfl) rfl (by omega) (by omega)
          · refine ExD.pass (i := 9) rfl (by kernel_rfl) ((List.Sublist.refl _)) rfl rfl rfl ?_
            refine ExD.pass (i := 10) rfl (by kernel_rfl) ((List.Sublist.refl _)) rfl rfl rfl ?_
            refine ExD.pass (i := 11) rfl (by kernel_rfl) ((List.Sublist.refl _)) rfl rfl rfl ?_
            refine ExD.pass (i := 12) rfl (by kernel_rfl) ((List.Sublist.refl _)) rfl rfl rfl ?_
            refine ExD.pass (i := 13) rfl (by kernel_rfl) ((List.Sublist.refl _)) rfl rfl rfl ?_
            refine ExD.pass (i := 14) rfl (by kernel_rfl) ((List.Sublist.refl _)) rfl rfl rfl ?_
            refine ExD.pass (i := 15) rfl (by kernel_rfl) ((List.Sublist.refl _)) rfl rfl rfl ?_
            refine ExD.pass (i := 16) rfl (by kernel_rfl) ((List.Sublist.refl _)) rfl rfl rfl ?_
            refine ExD.pass (i := 17) rfl (by kernel_rfl) ((List.Sublist.refl _)) rfl rfl rfl ?_
            refine ExD.pass (i := 18) rfl (by kernel_rfl) ((List.Sublist.refl _)) rfl rfl rfl ?_
            refine ExD.pass (i := 19) rfl (by kernel_rfl) ((List.Sublist.refl _)) rfl rfl rfl ?_
            refine ExD.pass (i := 20) rfl (by kernel_rfl) ((List.Sublist.refl _)) rfl rfl rfl ?_
            refine ExD.pass (i := 21) rfl (by kernel_rfl) ((List.Sublist.refl _)) rfl rfl rfl ?_
            refine ExD.pass (i := 22) rfl (by kernel_rfl) ((List.Sublist.refl _)) rfl rfl rfl ?_
            refine ExD.pass (i := 23) rfl (by kernel_rfl) ((List.Sublist.refl _)) rfl rfl rfl ?_
            refine ExD.pass (i := 24) rfl (by kernel_rfl) ((List.Sublist.refl _)) rfl rfl rfl ?_
            refine ExD.pass (i := 25) rfl (by kernel_rfl) ((List.Sublist.refl _)) rfl rfl rfl ?_
            refine ExD.pass (i := 26) rfl (by kernel_rfl) ((List.Sublist.refl _)) rfl rfl rfl ?_
            refine ExD.pass (i := 27) rfl (by kernel_rfl) ((List.Sublist.refl _)) rfl rfl rfl ?_
            refine ExD.pass (i := 28) rfl (by kernel_rfl) ((List.Sublist.refl _)) rfl rfl rfl ?_
            refine ExD.pass (i := 29) rfl (by kernel_rfl) ((List.Sublist.refl _)) rfl rfl rfl ?_
            refine ExD.pass (i := 30) rfl (by kernel_rfl) ((List.Sublist.refl _)) rfl rfl rfl ?_
            refine ExD.pass (i := 31) rfl (by kernel_rfl) ((List.Sublist.refl _)) rfl rfl rfl ?_
            refine ExD.take (i := 32) rfl (by kernel_rfl) (pureVal_ok rfl) ((List.Sublist.refl _)) rfl rfl rfl ?_
            refine ExD.take (i := 33) rfl (by kernel_rfl) (pureVal_ok rfl) ((List.Sublist.refl _)) rfl rfl rfl ?_
            refine ExD.done (by kernel_rfl) ?_
            refine Ex.region (ExL.pures 1 rfl ?_)
            refine ExL.free (by first | exact fr_add64 rfl rfl rfl (by omega) | exact fr_add rfl rfl rfl) rfl rfl rfl ?_
            refine ExL.pures 1 rfl ?_
            refine ExL.nil ?_
            refine Hand.mk (j + 1) 5 [0, 1, 2, 3, 4] ⟨agB (by first | exact ea_f (by assumption) (by assumption) | exact ea_g (by assumption) (by assumption)), rfl, trivial⟩ ⟨rfl, rfl, rfl, rfl, trivial⟩ (rfl) rfl (by omega) (by omega)
        · replace hb4 := nb_f hb4
          refine Ex.exit ?_
          have hfe : endA lo hi ((K.getD (K.length - 2 - t) zX).xs.getD k 0) (K.getD ((K.length - 2 - t) + 1) zX).xs (endL lo hi (fun k => (K.getD k zX).xs) K.length t) j = endA lo hi ((K.getD (K.length - 2 - t) zX).xs.getD k 0) (K.getD ((K.length - 2 - t) + 1) zX).xs (endL lo hi (fun k => (K.getD k zX).xs) K.length t) (K.getD ((K.length - 2 - t) + 1) zX).xs.length := by first | exact congrArg (endA lo hi ((K.getD (K.length - 2 - t) zX).xs.getD k 0) (K.getD ((K.length - 2 - t) + 1) zX).xs (endL lo hi (fun k => (K.getD k zX).xs) K.length t)) (by omega) | exact Eq.trans (by assumption) (ea_y (by assumption) hI)
          refine Ex.conv (liftW (G := (Gst lo hi (fun k => (K.getD k zX).xs) K.length t k)) (k := (K.length - 2 - t)) (by omega) gst_at (mix_len ht2 (by omega)) (perm_at (i := 0) rfl)) ?_
          refine Ex.drawI [1, 2, 3, 4, 5] rfl rfl ?_
          refine ExD.take (i := 0) rfl (by kernel_rfl) (pureVal_ok rfl) ((List.Sublist.cons _ (List.Sublist.cons_cons _ (List.Sublist.cons_cons _ (List.Sublist.cons_cons _ (List.Sublist.cons_cons _ (List.Sublist.cons_cons _ (List.nil_sublist _)))))))) rfl rfl rfl ?_
          refine ExD.take (i := 1) rfl (by kernel_rfl) (pureVal_ok rfl) ((List.Sublist.cons _ (List.Sublist.cons_cons _ (List.Sublist.cons_cons _ (List.Sublist.cons_cons _ (List.Sublist.cons_cons _ (List.Sublist.cons_cons _ (List.nil_sublist _)))))))) rfl rfl rfl ?_
          refine ExD.take (i := 2) rfl (by kernel_rfl) (fr_indexAddrR (sz := 1) 4 rfl rfl rfl rfl rfl rfl (by omega)) ((List.Sublist.cons _ (List.Sublist.cons_cons _ (List.Sublist.cons_cons _ (List.Sublist.cons_cons _ (List.Sublist.cons_cons _ (List.Sublist.cons_cons _ (List.nil_sublist _)))))))) rfl rfl rfl ?_
          refine ExD.take (i := 3) rfl (by kernel_rfl) (fr_load rfl rfl rfl rfl (cellE (v := .slice (J.getD (K.length - 2 - t) zX).A (K.getD (K.length - 2 - t) zX).xs.length (J.getD (K.length - 2 - t) zX).c) (r := (J.getD (K.length - 2 - t) zX)) (i := ↑(K.length - 2 - t)) ((K.length - 2 - t)) (Reads.row (i := 4) rfl) encX_len zX 0 rfl (by omega) (by omega) rfl (by unfold encX; rw [hJx _ (by omega)]; rfl))) ((List.Sublist.cons _ (List.Sublist.cons_cons _ (List.Sublist.cons_cons _ (List.Sublist.cons_cons _ (List.Sublist.cons_cons _ (List.Sublist.cons_cons _ (List.nil_sublist _)))))))) rfl rfl rfl ?_
          refine ExD.take (i := 4) rfl (by kernel_rfl) (pureVal_ok rfl) ((List.Sublist.cons _ (List.Sublist.cons_cons _ (List.Sublist.cons_cons _ (List.Sublist.cons_cons _ (List.Sublist.cons_cons _ (List.Sublist.cons_cons _ (List.nil_sublist _)))))))) rfl rfl rfl ?_
          refine ExD.take (i := 5) rfl (by kernel_rfl) (pureVal_ok rfl) ((List.Sublist.cons _ (List.Sublist.cons_cons _ (List.Sublist.cons_cons _ (List.Sublist.cons_cons _ (List.Sublist.cons_cons _ (List.Sublist.cons_cons _ (List.nil_sublist _)))))))) rfl rfl rfl ?_
          refine ExD.take (i := 6) rfl (by kernel_rfl) (pureVal_ok rfl) ((List.Sublist.cons _ (List.Sublist.cons_cons _ (List.Sublist.cons_cons _ (List.Sublist.cons_cons _ (List.Sublist.cons_cons _ (List.Sublist.cons_cons _ (List.nil_sublist _)))))))) rfl rfl rfl ?_
          refine ExD.take (i := 7) rfl (by kernel_rfl) (fr_indexAddrR (sz := 1) 4 rfl rfl rfl rfl rfl rfl (by omega)) ((List.Sublist.cons _ (List.Sublist.cons_cons _ (List.Sublist.cons_cons _ (List.Sublist.cons_cons _ (List.Sublist.cons_cons _ (List.Sublist.cons_cons _ (List.nil_sublist _)))))))) rfl rfl rfl ?_
          refine ExD.take (i := 8) rfl (by kernel_rfl) (fr_load rfl rfl rfl rfl (cellE (v := .slice (J.getD (K.length - 2 - t) zX).A (K.getD (K.length - 2 - t) zX).xs.length (J.getD (K.length - 2 - t) zX).c) (r := (J.getD (K.length - 2 - t) zX)) (i := ↑(K.length - 2 - t)) ((K.length - 2 - t)) (Reads.row (i := 4) rfl) encX_len zX 0 rfl (by omega) (by omega) rfl (by unfold encX; rw [hJx _ (by omega)]; rfl))) ((List.Sublist.cons _ (List.Sublist.cons_cons _ (List.Sublist.cons_cons _ (List.Sublist.cons_cons _ (List.Sublist.cons_cons _ (List.Sublist.cons_cons _ (List.nil_sublist _)))))))) rfl rfl rfl ?_
          refine ExD.take (i := 9) rfl (by kernel_rfl) (pureVal_ok rfl) ((List.Sublist.cons _ (List.Sublist.cons_cons _ (List.Sublist.cons_cons _ (List.Sublist.cons_cons _ (List.Sublist.cons_cons _ (List.Sublist.cons_cons _ (List.nil_sublist _)))))))) rfl rfl rfl ?_
          refine ExD.op (i := 10) rfl (by kernel_rfl) rfl (Op1.of_free (fr_indexAddrR (sz := 1) 0 rfl rfl rfl rfl rfl rfl (by omega)) rfl rfl ⟨(List.Sublist.cons _ (List.Sublist.cons_cons _ (List.Sublist.cons_cons _ (List.Sublist.cons_cons _ (List.Sublist.cons_cons _ (List.Sublist.cons_cons _ (List.nil_sublist _))))))), ?_⟩)
          refine ExD.op (i := 11) rfl (by kernel_rfl) rfl (Op1.of_free (fr_load rfl rfl rfl rfl (cellW (v := .bool ((reachL lo hi (fun k => (K.getD k zX).xs) (K.length - 2 - t)).getD k false)) (i := ↑k) k (Reads.row (i := 0) rfl) eB_len false 0 rfl (by omega) (by rw [mix_len ht2 (by omega)]; omega) (mix_at ht2 (by omega)) rfl)) rfl rfl ⟨(List.Sublist.cons _ (List.Sublist.cons_cons _ (List.Sublist.cons_cons _ (List.Sublist.cons_cons _ (List.Sublist.cons_cons _ (List.Sublist.cons_cons _ (List.nil_sublist _))))))), ?_⟩)
          refine ExD.take (i := 12) rfl (by kernel_rfl) (pureVal_ok rfl) ((List.Sublist.cons _ (List.Sublist.cons_cons _ (List.Sublist.cons_cons _ (List.Sublist.cons_cons _ (List.Sublist.cons_cons _ (List.Sublist.cons_cons _ (List.nil_sublist _)))))))) rfl rfl rfl ?_
          refine ExD.bool (d := 83) rfl (fun hb7 => ?_) (fun hb7 => ?_)
          · refine ExD.take (i := 13) rfl (by kernel_rfl) (pureVal_ok rfl) ((List.Sublist.cons _ (List.Sublist.cons_cons _ (List.Sublist.cons_cons _ (List.Sublist.cons_cons _ (List.Sublist.cons_cons _ (List.Sublist.cons_cons _ (List.nil_sublist _)))))))) rfl rfl rfl ?_
            refine ExD.take (i := 14) rfl (by kernel_rfl) (pureVal_ok rfl) ((List.Sublist.cons _ (List.Sublist.cons_cons _ (List.Sublist.cons_cons _ (List.Sublist.cons_cons _ (List.Sublist.cons_cons _ (List.Sublist.cons_cons _ (List.nil_sublist _)))))))) rfl rfl rfl ?_
            refine ExD.op (i := 15) rfl (by kernel_rfl) rfl (Op1.of_free (fr_indexAddrR (sz := 1) 0 rfl rfl rfl rfl rfl rfl (by omega)) rfl rfl ⟨(List.Sublist.cons _ (List.Sublist.cons_cons _ (List.Sublist.cons_cons _ (List.Sublist.cons_cons _ (List.Sublist.cons_cons _ (List.Sublist.cons_cons _ (List.nil_sublist _))))))), ?_⟩)
            refine ExD.last (i := 16) rfl (by kernel_rfl) (by kernel_rfl) rfl (op_storeRowF (i := 0) rfl rfl rfl rfl rfl rfl rfl rfl (room eB_len (k := k) (by rw [mix_len ht2 (by omega)]; omega) (by simp) rfl) (List.cons_ne_nil _ _) rfl (mix_put ht2 (by omega) (by simp) (congrArg eB (by first | (rw [show (reachL lo hi (fun k => (K.getD k zX).xs) (K.length - 2 - t)).getD k false = false by assumption]; first | done | rfl) | (rw [show (reachL lo hi (fun k => (K.getD k zX).xs) (K.length - 2 - t)).getD k false = true by assumption, Bool.true_and, hfe, hnn]; first | done | rfl)))) ?_)
            refine ExD.done (by kernel_rfl) ?_
            refine Ex.conv (layW (G := (Gst lo hi (fun k => (K.getD k zX).xs) K.length t k)) (G' := (Gst lo hi (fun k => (K.getD k zX).xs) K.length t (k + 1))) (k := (K.length - 2 - t)) (by omega) (fun q hq => gst_other hq) gst_at (mix_len ht2 (by omega)) (perm_lt (i := 0) (j := 1) rfl rfl rfl)) ?_
            refine Ex.region (ExL.pures 1 rfl ?_)
            refine ExL.free (by first | exact fr_add64 rfl rfl rfl (by omega) | exact fr_add rfl rfl rfl) rfl rfl rfl ?_
            refine ExL.pures 1 rfl ?_
            refine ExL.nil ?_
            refine Hand.mk (k + 1) 5 [0, 1, 2, 3, 4] ⟨rfl, trivial⟩ ⟨rfl, rfl, rfl, trivial⟩ (rfl) rfl (by omega) (by omega)
          · refine ExD.pass (i := 13) rfl (by kernel_rfl) ((List.Sublist.cons _ (List.Sublist.cons_cons _ (List.Sublist.cons_cons _ (List.Sublist.cons_cons _ (List.Sublist.cons_cons _ (List.Sublist.cons_cons _ (List.nil_sublist _)))))))) rfl rfl rfl ?_
            refine ExD.take (i := 14) rfl (by kernel_rfl) (pureVal_ok rfl) ((List.Sublist.cons _ (List.Sublist.cons_cons _ (List.Sublist.cons_cons _ (List.Sublist.cons_cons _ (List.Sublist.cons_cons _ (List.Sublist.cons_cons _ (List.nil_sublist _)))))))) rfl rfl rfl ?_
            refine ExD.op (i := 15) rfl (by kernel_rfl) rfl (Op1.of_free (fr_indexAddrR (sz := 1) 0 rfl rfl rfl rfl rfl rfl (by omega)) rfl rfl ⟨(List.Sublist.cons _ (List.Sublist.cons_cons _ (List.Sublist.cons_cons _ (List.Sublist.cons_cons _ (List.Sublist.cons_cons _ (List.Sublist.cons_cons _ (List.nil_sublist _))))))), ?_⟩)
            refine ExD.last (i := 16) rfl (by kernel_rfl) (by kernel_rfl) rfl (op_storeRowF (i := 0) rfl rfl rfl rfl rfl rfl rfl rfl (room eB_len (k := k) (by rw [mix_len ht2 (by omega)]; omega) (by simp) rfl) (List.cons_ne_nil _ _) rfl (mix_put ht2 (by omega) (by simp) (congrArg eB (by first | (rw [show (reachL lo hi (fun k => (K.getD k zX).xs) (K.length - 2 - t)).getD k false = false by assumption]; first | done | rfl) | (rw [show (reachL lo hi (fun k => (K.getD k zX).xs) (K.length - 2 - t)).getD k false = true by assumption, Bool.true_and, hfe, hnn]; first | done | rfl)))) ?_)
            refine ExD.done (by kernel_rfl) ?_
            refine Ex.conv (layW (G := (Gst lo hi (fun k => (K.getD k zX).xs) K.length t k)) (G' := (Gst lo hi (fun k => (K.getD k zX).xs) K.length t (k + 1))) (k := (K.length - 2 - t)) (by omega) (fun q hq => gst_other hq) gst_at (mix_len ht2 (by omega)) (perm_lt (i := 0) (j := 1) rfl rfl rfl)) ?_
            refine Ex.region (ExL.pures 1 rfl ?_)
            refine ExL.free (by first | exact fr_add64 rfl rfl rfl (by omega) | exact fr_add rfl rfl rfl) rfl rfl rfl ?_
            refine ExL.pures 1 rfl ?_
            refine ExL.nil ?_
            refine Hand.mk (k + 1) 5 [0, 1, 2, 3, 4] ⟨rfl, trivial⟩ ⟨rfl, rfl, rfl, trivial⟩ (rfl) rfl (by omega) (by omega)
      · refine ExL.pures 4 rfl ?_
        refine ExL.nil ?_
        refine Ex.cond_f rfl ?_
        refine Ex.exit ?_
        have hfe : endA lo hi ((K.getD (K.length - 2 - t) zX).xs.getD k 0) (K.getD ((K.length - 2 - t) + 1) zX).xs (endL lo hi (fun k => (K.getD k zX).xs) K.length t) j = endA lo hi ((K.getD (K.length - 2 - t) zX).xs.getD k 0) (K.getD ((K.length - 2 - t) + 1) zX).xs (endL lo hi (fun k => (K.getD k zX).xs) K.length t) (K.getD ((K.length - 2 - t) + 1) zX).xs.length := by first | exact congrArg (endA lo hi ((K.getD (K.length - 2 - t) zX).xs.getD k 0) (K.getD ((K.length - 2 - t) + 1) zX).xs (endL lo hi (fun k => (K.getD k zX).xs) K.length t)) (by omega) | exact Eq.trans (by assumption) (ea_y (by assumption) hI)
        refine Ex.conv (liftW (G := (Gst lo hi (fun k => (K.getD k zX).xs) K.length t k)) (k := (K.length - 2 - t)) (by omega) gst_at (mix_len ht2 (by omega)) (perm_at (i := 0) rfl)) ?_
        refine Ex.drawI [1, 2, 3, 4, 5] rfl rfl ?_
        refine ExD.take (i := 0) rfl (by kernel_rfl) (pureVal_ok rfl) ((List.Sublist.cons _ (List.Sublist.cons_cons _ (List.Sublist.cons_cons _ (List.Sublist.cons_cons _ (List.Sublist.cons_cons _ (List.Sublist.cons_cons _ (List.nil_sublist _)))))))) rfl rfl rfl ?_
        refine ExD.take (i := 1) rfl (by kernel_rfl) (pureVal_ok rfl) ((List.Sublist.cons _ (List.Sublist.cons_cons _ (List.Sublist.cons_cons _ (List.Sublist.cons_cons _ (List.Sublist.cons_cons _ (List.Sublist.cons_cons _ (List.nil_sublist _)))))))) rfl rfl rfl ?_
        refine ExD.take (i := 2) rfl (by kernel_rfl) (fr_indexAddrR (sz := 1) 4 rfl rfl rfl rfl rfl rfl (by omega)) ((List.Sublist.cons _ (List.Sublist.cons_cons _ (List.Sublist.cons_cons _ (List.Sublist.cons_cons _ (List.Sublist.cons_cons _ (List.Sublist.cons_cons _ (List.nil_sublist _)))))))) rfl rfl rfl ?_
        refine ExD.take (i := 3) rfl (by kernel_rfl) (fr_load rfl rfl rfl rfl (cellE (v := .slice (J.getD (K.length - 2 - t) zX).A (K.getD (K.length - 2 - t) zX).xs.length (J.getD (K.length - 2 - t) zX).c) (r := (J.getD (K.length - 2 - t) zX)) (i := ↑(K.length - 2 - t)) ((K.length - 2 - t)) (Reads.row (i := 4) rfl) encX_len zX 0 rfl (by omega) (by omega) rfl (by unfold encX; rw [hJx _ (by omega)]; rfl))) ((List.Sublist.cons _ (List.Sublist.cons_cons _ (List.Sublist.cons_cons _ (List.Sublist.cons_cons _ (List.Sublist.cons_cons _ (List.Sublist.cons_cons _ (List.nil_sublist _)))))))) rfl rfl rfl ?_
        refine ExD.take (i := 4) rfl (by kernel_rfl) (pureVal_ok rfl) ((List.Sublist.cons _ (List.Sublist.cons_cons _ (List.Sublist.cons_cons _ (List.Sublist.cons_cons _ (List.Sublist.cons_cons _ (List.Sublist.cons_cons _ (List.nil_sublist _)))))))) rfl rfl rfl ?_
        refine ExD.take (i := 5) rfl (by kernel_rfl) (pureVal_ok rfl) ((List.Sublist.cons _ (List.Sublist.cons_cons _ (List.Sublist.cons_cons _ (List.Sublist.cons_cons _ (List.Sublist.cons_cons _ (List.Sublist.cons_cons _ (List.nil_sublist _)))))))) rfl rfl rfl ?_
        refine ExD.take (i := 6) rfl (by kernel_rfl) (pureVal_ok rfl) ((List.Sublist.cons _ (List.Sublist.cons_cons _ (List.Sublist.cons_cons _ (List.Sublist.cons_cons _ (List.Sublist.cons_cons _ (List.Sublist.cons_cons _ (List.nil_sublist _)))))))) rfl rfl rfl ?_
        refine ExD.take (i := 7) rfl (by kernel_rfl) (fr_indexAddrR (sz := 1) 4 rfl rfl rfl rfl rfl rfl (by omega)) ((List.Sublist.cons _ (List.Sublist.cons_cons _ (List.Sublist.cons_cons _ (List.Sublist.cons_cons _ (List.Sublist.cons_cons _ (List.Sublist.cons_cons _ (List.nil_sublist _)))))))) rfl rfl rfl ?_
        refine ExD.take (i := 8) rfl (by kernel_rfl) (fr_load rfl rfl rfl rfl (cellE (v := .slice (J.getD (K.length - 2 - t) zX).A (K.getD (K.length - 2 - t) zX).xs.length (J.getD (K.length - 2 - t) zX).c) (r := (J.getD (K.length - 2 - t) zX)) (i := ↑(K.length - 2 - t)) ((K.length - 2 - t)) (Reads.row (i := 4) rfl) encX_len zX 0 rfl (by omega) (by omega) rfl (by unfold encX; rw [hJx _ (by omega)]; rfl))) ((List.Sublist.cons _ (List.Sublist.cons_cons _ (List.Sublist.cons_cons _ (List.Sublist.cons_cons _ (List.Sublist.cons_cons _ (List.Sublist.cons_cons _ (List.nil_sublist _)))))))) rfl rfl rfl ?_
        refine ExD.take (i := 9) rfl (by kernel_rfl) (pureVal_ok rfl) ((List.Sublist.cons _ (List.Sublist.cons_cons _ (List.Sublist.cons_cons _ (List.Sublist.cons_cons _ (List.Sublist.cons_cons _ (List.Sublist.cons_cons _ (List.nil_sublist _)))))))) rfl rfl rfl ?_
        refine ExD.op (i := 10) rfl (by kernel_rfl) rfl (Op1.of_free (fr_indexAddrR (sz := 1) 0 rfl rfl rfl rfl rfl rfl (by omega)) rfl rfl ⟨(List.Sublist.cons _ (List.Sublist.cons_cons _ (List.Sublist.cons_cons _ (List.Sublist.cons_cons _ (List.Sublist.cons_cons _ (List.Sublist.cons_cons _ (List.nil_sublist _))))))), ?_⟩)
        refine ExD.op (i := 11) rfl (by kernel_rfl) rfl (Op1.of_free (fr_load rfl rfl rfl rfl (cellW (v := .bool ((reachL lo hi (fun k => (K.getD k zX).xs) (K.length - 2 - t)).getD k false)) (i := ↑k) k (Reads.row (i := 0) rfl) eB_len false 0 rfl (by omega) (by rw [mix_len ht2 (by omega)]; omega) (mix_at ht2 (by omega)) rfl)) rfl rfl ⟨(List.Sublist.cons _ (List.Sublist.cons_cons _ (List.Sublist.cons_cons _ (List.Sublist.cons_cons _ (List.Sublist.cons_cons _ (List.Sublist.cons_cons _ (List.nil_sublist _))))))), ?_⟩)
        refine ExD.take (i := 12) rfl (by kernel_rfl) (pureVal_ok rfl) ((List.Sublist.cons _ (List.Sublist.cons_cons _ (List.Sublist.cons_cons _ (List.Sublist.cons_cons _ (List.Sublist.cons_cons _ (List.Sublist.cons_cons _ (List.nil_sublist _)))))))) rfl rfl rfl ?_
        refine ExD.bool (d := 83) rfl (fun hb8 => ?_) (fun hb8 => ?_)
        · refine ExD.take (i := 13) rfl (by kernel_rfl) (pureVal_ok rfl) ((List.Sublist.cons _ (List.Sublist.cons_cons _ (List.Sublist.cons_cons _ (List.Sublist.cons_cons _ (List.Sublist.cons_cons _ (List.Sublist.cons_cons _ (List.nil_sublist _)))))))) rfl rfl rfl ?_
          refine ExD.take (i := 14) rfl (by kernel_rfl) (pureVal_ok rfl) ((List.Sublist.cons _ (List.Sublist.cons_cons _ (List.Sublist.cons_cons _ (List.Sublist.cons_cons _ (List.Sublist.cons_cons _ (List.Sublist.cons_cons _ (List.nil_sublist _)))))))) rfl rfl rfl ?_
          refine ExD.op (i := 15) rfl (by kernel_rfl) rfl (Op1.of_free (fr_indexAddrR (sz := 1) 0 rfl rfl rfl rfl rfl rfl (by omega)) rfl rfl ⟨(List.Sublist.cons _ (List.Sublist.cons_cons _ (List.Sublist.cons_cons _ (List.Sublist.cons_cons _ (List.Sublist.cons_cons _ (List.Sublist.cons_cons _ (List.nil_sublist _))))))), ?_⟩)
          refine ExD.last (i := 16) rfl (by kernel_rfl) (by kernel_rfl) rfl (op_storeRowF (i := 0) rfl rfl rfl rfl rfl rfl rfl rfl (room eB_len (k := k) (by rw [mix_len ht2 (by omega)]; omega) (by simp) rfl) (List.cons_ne_nil _ _) rfl (mix_put ht2 (by omega) (by simp) (congrArg eB (by first | (rw [show (reachL lo hi (fun k => (K.getD k zX).xs) (K.length - 2 - t)).getD k false = false by assumption]; first | done | rfl) | (rw [show (reachL lo hi (fun k => (K.getD k zX).xs) (K.length - 2 - t)).getD k false = true by assumption, Bool.true_and, hfe, hnn]; first | done | rfl)))) ?_)
          refine ExD.done (by kernel_rfl) ?_
          refine Ex.conv (layW (G := (Gst lo hi (fun k => (K.getD k zX).xs) K.length t k)) (G' := (Gst lo hi (fun k => (K.getD k zX).xs) K.length t (k + 1))) (k := (K.length - 2 - t)) (by omega) (fun q hq => gst_other hq) gst_at (mix_len ht2 (by omega)) (perm_lt (i := 0) (j := 1) rfl rfl rfl)) ?_
          refine Ex.region (ExL.pures 1 rfl ?_)
          refine ExL.free (by first | exact fr_add64 rfl rfl rfl (by omega) | exact fr_add rfl rfl rfl) rfl rfl rfl ?_
          refine ExL.pures 1 rfl ?_
          refine ExL.nil ?_
          refine Hand.mk (k + 1) 5 [0, 1, 2, 3, 4] ⟨rfl, trivial⟩ ⟨rfl, rfl, rfl, trivial⟩ (rfl) rfl (by omega) (by omega)
        · refine ExD.pass (i := 13) rfl (by kernel_rfl) ((List.Sublist.cons _ (List.Sublist.cons_cons _ (List.Sublist.cons_cons _ (List.Sublist.cons_cons _ (List.Sublist.cons_cons _ (List.Sublist.cons_cons _ (List.nil_sublist _)))))))) rfl rfl rfl ?_
          refine ExD.take (i := 14) rfl (by kernel_rfl) (pureVal_ok rfl) ((List.Sublist.cons _ (List.Sublist.cons_cons _ (List.Sublist.cons_cons _ (List.Sublist.cons_cons _ (List.Sublist.cons_cons _ (List.Sublist.cons_cons _ (List.nil_sublist _)))))))) rfl rfl rfl ?_
          refine ExD.op (i := 15) rfl (by kernel_rfl) rfl (Op1.of_free (fr_indexAddrR (sz := 1) 0 rfl rfl rfl rfl rfl rfl (by omega)) rfl rfl ⟨(List.Sublist.cons _ (List.Sublist.cons_cons _ (List.Sublist.cons_cons _ (List.Sublist.cons_cons _ (List.Sublist.cons_cons _ (List.Sublist.cons_cons _ (List.nil_sublist _))))))), ?_⟩)
          refine ExD.last (i := 16) rfl (by kernel_rfl) (by kernel_rfl) rfl (op_storeRowF (i := 0) rfl rfl rfl rfl rfl rfl rfl rfl (room eB_len (k := k) (by rw [mix_len ht2 (by omega)]; omega) (by simp) rfl) (List.cons_ne_nil _ _) rfl (mix_put ht2 (by omega) (by simp) (congrArg eB (by first | (rw [show (reachL lo hi (fun k => (K.getD k zX).xs) (K.length - 2 - t)).getD k false = false by assumption]; first | done | rfl) | (rw [show (reachL lo hi (fun k => (K.getD k zX).xs) (K.length - 2 - t)).getD k false = true by assumption, Bool.true_and, hfe, hnn]; first | done | rfl)))) ?_)
          refine ExD.done (by kernel_rfl) ?_
          refine Ex.conv (layW (G := (Gst lo hi (fun k => (K.getD k zX).xs) K.length t k)) (G' := (Gst lo hi (fun k => (K.getD k zX).xs) K.length t (k + 1))) (k := (K.length - 2 - t)) (by omega) (fun q hq => gst_other hq) gst_at (mix_len ht2 (by omega)) (perm_lt (i := 0) (j := 1) rfl rfl rfl)) ?_
          refine Ex.region (ExL.pures 1 rfl ?_)
          refine ExL.free (by first | exact fr_add64 rfl rfl rfl (by omega) | exact fr_add rfl rfl rfl) rfl rfl rfl ?_
          refine ExL.pures 1 rfl ?_
          refine ExL.nil ?_
          refine Hand.mk (k + 1) 5 [0, 1, 2, 3, 4] ⟨rfl, trivial⟩ ⟨rfl, rfl, rfl, trivial⟩ (rfl) rfl (by omega) (by omega)
    · refine ExL.nil ?_
      refine Ex.cond_f rfl ?_
      refine Ex.exit ?_
      obtain rfl : k = (K.getD (K.length - 2 - t) zX).xs.length := (by omega)
      rw [rowsW_congr (G := (Gst lo hi (fun k => (K.getD k zX).xs) K.length t (K.getD (K.length - 2 - t) zX).xs.length)) (G' := (Gt lo hi (fun k => (K.getD k zX).xs) K.length (t + 1))) (fun q _ => gst_all ht2 rfl q)]
      refine Ex.region (ExL.pures 1 rfl ?_)
      refine ExL.free (by first | exact fr_sub64 rfl rfl rfl (by omega) | exact fr_sub rfl rfl rfl) rfl rfl rfl ?_
      refine ExL.pures 1 rfl ?_
      refine ExL.nil ?_
      refine Hand.mk (t + 1) 5 [0, 1, 2, 3, 4] ⟨agI (by omega), trivial⟩ ⟨rfl, rfl, trivial⟩ (rfl) rfl (by omega) (by omega)
  · refine ExL.nil ?_
    refine Ex.cond_f rfl ?_
    refine Ex.exit ?_
    rw [rowsW_congr (G' := (fun q => endL lo hi (fun k => (K.getD k zX).xs) K.length (K.length - 1 - q))) (fun q _ => gt_end (by omega) q)]
    refine MutQ.mk () rfl .nil (rfl) 5 [1, 2, 3, 4, 0] (rfl) rfl (trivial)
theorem e_14 : Enters Try.prog 14 := Enters.of Try.func14 rfl
theorem c_sSure_f (s : List Int) (hu : Nums 255 s) (As : Option Addr) (cs : Nat) (hls : s.length ≤ maxLen) (L : List VPh) (hLk : ∀ k, k < L.length → OkPh (L.getD k zPh)) (bl cL : Nat) (hlL : L.length ≤ maxLen) (lo hi : Int) (hc0 : codeF s L lo hi lo ≠ 0) : Ret Try.prog 14 [.slice As s.length cs, .slice (some ⟨bl, 0, none⟩) L.length cL, .int .i64 lo, .int .i64 hi] (fun w => Rd w As (s.flatMap (eI .u8)) ∧ Rd w (some ⟨bl, 0, none⟩) (L.flatMap encPh)) (fun x : Option Addr × Nat => .tuple #[.slice x.1 (sureV s L lo hi).1.length x.2, .int .i64 (sureV s L lo hi).2]) (fun x => [.row (.slice x.1 (sureV s L lo hi).1.length x.2) 32 16 (sureV s L lo hi).1.length ((sureV s L lo hi).1.flatMap encPh)]) (fun x => True) := by
  refine Ret.of e_14 Try.func14 rfl Try.ntmps14 rfl rfl (fun w hpre => ?_)
  have hs := hpre.1.base
  have hLr := hpre.2.base
  have hm0 : maxLen = 9223372036854775807 := rfl
  refine Ex.regSeq (ExL.pures 2 rfl ?_)
  refine ExL.nil ?_
  refine Ex.regSeq (ExL.pures 4 rfl ?_)
  refine ExL.op rfl (op_ret rfl rfl rfl (c_l05Begin_f s (by assumption) _ _ (by omega) L (by assumption) _ _ (by omega) lo hi hc0) (fun w hw => ⟨Reads.get (Reads.old hs) w hw, Reads.get (Reads.old hLr) w hw⟩) rfl rfl (fun x1 hx1 => ?_))
  refine ExL.pures 5 rfl ?_
  refine ExL.nil ?_
  refine Ex.seq ?_
  refine Ex.regSeq (ExL.pures 1 rfl ?_)
  refine ExL.neq rfl rfl rfl rfl rfl rfl (fun h2 => ?_) (fun h2 => ?_)
  · refine ExL.nil ?_
    refine Ex.cond_t rfl ?_
    refine Ex.regSeq (ExL.pures 0 rfl ?_)
    refine ExL.op rfl (op_buildSlice (sz := 16) rfl rfl rfl rfl rfl rfl rfl rfl (by decide) rfl rfl rfl (fun r3 => ?_))
    refine ExL.pures 3 rfl ?_
    refine ExL.nil ?_
    refine Ex.ret ?_
    refine RetQ.mk ((some ⟨r3, 0, none⟩), 0) rfl (.tmp rfl (.tmp rfl .nil)) (t2 (by first | (rw [hsl, hs0]; first | done | rfl) | (rw [hs0]; first | done | rfl) | (rw [hsl]; first | done | rfl) | (rw [sure_c hc0]; first | done | rfl) | (rw [hs6]; first | done | rfl)) (by first | (rw [hsl, hs0]; first | done | rfl) | (rw [hs0]; first | done | rfl) | (rw [hsl]; first | done | rfl) | (rw [sure_c hc0]; first | done | rfl) | (rw [hs6]; first | done | rfl))) [0] (by first | (rw [hsl, hs0]; first | done | rfl) | (rw [hs0]; first | done | rfl) | (rw [hsl]; first | done | rfl) | (rw [sure_c hc0]; first | done | rfl) | (rw [hs6]; first | done | rfl)) rfl (trivial)
  · refine ExL.nil ?_
    refine Ex.cond_f rfl ?_
    refine Ex.skip ?_
    exfalso; omega
theorem c_sSure_t (s : List Int) (hu : Nums 255 s) (As : Option Addr) (cs : Nat) (hls : s.length ≤ maxLen) (L : List VPh) (hLk : ∀ k, k < L.length → OkPh (L.getD k zPh)) (bl cL : Nat) (hlL : L.length ≤ maxLen) (lo hi : Int) (hc0 : codeF s L lo hi lo = 0) : Ret Try.prog 14 [.slice As s.length cs, .slice (some ⟨bl, 0, none⟩) L.length cL, .int .i64 lo, .int .i64 hi] (fun w => Rd w As (s.flatMap (eI .u8)) ∧ Rd w (some ⟨bl, 0, none⟩) (L.flatMap encPh)) (fun x : Option Addr × Nat => .tuple #[.slice x.1 (sureV s L lo hi).1.length x.2, .int .i64 (sureV s L lo hi).2]) (fun x => [.row (.slice x.1 (sureV s L lo hi).1.length x.2) 32 16 (sureV s L lo hi).1.length ((sureV s L lo hi).1.flatMap encPh)]) (fun x => True) := by
  refine Ret.of e_14 Try.func14 rfl Try.ntmps14 rfl rfl (fun w hpre => ?_)
  have hs := hpre.1.base
  have hLr := hpre.2.base
  have hm0 : maxLen = 9223372036854775807 := rfl
  have hLo : ∀ p ∈ L, OkPh p := fun p hp => by obtain ⟨i, hi, rfl⟩ := List.getElem_of_mem hp; have := hLk i hi; simpa [List.getD, hi] using this
  have hF := film hLo hc0
  have hl0 := hF.l0
  have hlh := hF.le
  have hh1 := hF.h1
  have hS := hF.st
  have hv := hF.vs
  have hn1 := hF.len
  refine Ex.regSeq (ExL.pures 2 rfl ?_)
  refine ExL.nil ?_
  refine Ex.regSeq (ExL.pures 4 rfl ?_)
  refine ExL.op rfl (op_ret rfl rfl rfl (c_l05Begin_t s (by assumption) _ _ (by omega) L (by assumption) _ _ (by omega) lo hi hc0) (fun w hw => ⟨Reads.get (Reads.old hs) w hw, Reads.get (Reads.old hLr) w hw⟩) rfl rfl (fun x1 hx1 => ?_))
  have hfk := fk hF hx1
  have hkl := hfk.len
  have hfv := hfk.v
  have hfl := hfk.vl
  refine ExL.pures 5 rfl ?_
  refine ExL.nil ?_
  refine Ex.seq ?_
  refine Ex.regSeq (ExL.pures 1 rfl ?_)
  refine ExL.neq rfl rfl rfl rfl rfl rfl (fun h2 => ?_) (fun h2 => ?_)
  · refine ExL.nil ?_
    refine Ex.cond_t rfl ?_
    exfalso; omega
  · refine ExL.nil ?_
    refine Ex.cond_f rfl ?_
    refine Ex.skip ?_
    refine Ex.regSeq (ExL.pures 1 rfl ?_)
    refine ExL.op rfl (op_ret rfl rfl rfl (c_reached _ x1.K L.length hfk lo hi (by omega) x1.A x1.c _) (fun w hw => ⟨Reads.get (Reads.blk (i := 0) rfl) w hw, Reads.get (Reads.row (i := 1) rfl) w hw, fun k hk => Reads.get (readsX (i := 2) rfl hk) w hw⟩) rfl rfl (fun x3 hx3 => ?_))
    obtain ⟨hJl, hR⟩ := hx3
    have hjl : ∀ k, k < L.length → (x3.J.getD k zX).xs.length ≤ 400 := fun k hk => by rw [hR k (by omega), reach_len]; exact (hfl k hk).2
    refine ExL.pures 1 rfl ?_
    refine ExL.nil ?_
    refine Ex.regSeq (ExL.pures 2 rfl ?_)
    refine ExL.op rfl (op_mut rfl rfl rfl (c_ending _ x1.K L.length hfk lo hi (by omega) x1.A x1.c _ x3.J x3.A x3.c hJl hR) (perm_5 2 2 2 0 0 rfl rfl rfl rfl rfl) (trivial) rfl rfl (fun x4 hx4 => ?_))
    have hJe : ∀ i, i < x1.K.length → (x3.J.getD i zX).xs.length = (endL lo hi (fun k => (x1.K.getD k zX).xs) x1.K.length (x1.K.length - 1 - i)).length := fun i hi => by rw [hR i (by omega), reach_len, end_len _ _ _ _ _ (by omega), show x1.K.length - 1 - (x1.K.length - 1 - i) = i by omega]
    have hEl : ∀ i, i < x1.K.length → (endL lo hi (fun k => (x1.K.getD k zX).xs) x1.K.length (x1.K.length - 1 - i)).length = (x1.K.getD i zX).xs.length := fun i hi => by rw [← hJe i hi, hR i (by omega), reach_len]
    have he0 := hEl 0 (by omega)
    have hvl0 := hfl 0 (by omega)
    have hFa := fk_all hfk
    refine ExL.nil ?_
    refine Ex.seq ?_
    refine Ex.regSeq (ExL.pures 1 rfl ?_)
    refine ExL.free (fr_indexAddrR (sz := 1) 3 rfl rfl rfl rfl rfl rfl (by omega)) rfl rfl rfl ?_
    refine ExL.free (fr_load rfl rfl rfl rfl (cellE (v := .slice (x3.J.getD 0 zX).A (endL lo hi (fun k => (x1.K.getD k zX).xs) x1.K.length (x1.K.length - 1 - 0)).length (x3.J.getD 0 zX).c) (r := (x3.J.getD 0 zX)) (i := 0) (0) (Reads.row (i := 3) rfl) encX_len zX 0 rfl (by omega) (by omega) rfl (by unfold encX; rw [hJe _ (by omega)]; rfl))) rfl rfl rfl ?_
    refine ExL.op rfl (op_ret rfl rfl rfl (c_l05Any (endL lo hi (fun k => (x1.K.getD k zX).xs) x1.K.length (x1.K.length - 1 - 0)) _ _ (by omega)) (Reads.get (readsW (G := fun q => endL lo hi (fun k => (x1.K.getD k zX).xs) x1.K.length (x1.K.length - 1 - q)) (i := 4) rfl (k := 0) (by omega) rfl)) rfl rfl (fun x5 hx5 => ?_))
    refine ExL.pures 1 rfl ?_
    refine ExL.nil ?_
    refine Ex.cond rfl (fun hb6 => ?_) (fun hb6 => ?_)
    · replace hb6 := nb_t hb6
      have hs6 := sure_6 (n := x1.K.length) hc0 hx1 hkl (end_anyF (by omega) (by assumption))
      refine Ex.regSeq (ExL.pures 0 rfl ?_)
      refine ExL.op rfl (op_buildSlice (sz := 16) rfl rfl rfl rfl rfl rfl rfl rfl (by decide) rfl rfl rfl (fun r7 => ?_))
      refine ExL.pures 2 rfl ?_
      refine ExL.nil ?_
      refine Ex.ret ?_
      refine RetQ.mk ((some ⟨r7, 0, none⟩), 0) rfl (.tmp rfl (.tmp rfl .nil)) (t2 (by first | (rw [hsl, hs0]; first | done | rfl) | (rw [hs0]; first | done | rfl) | (rw [hsl]; first | done | rfl) | (rw [sure_c hc0]; first | done | rfl) | (rw [hs6]; first | done | rfl)) (by first | (rw [hsl, hs0]; first | done | rfl) | (rw [hs0]; first | done | rfl) | (rw [hsl]; first | done | rfl) | (rw [sure_c hc0]; first | done | rfl) | (rw [hs6]; first | done | rfl))) [0] (by first | (rw [hsl, hs0]; first | done | rfl) | (rw [hs0]; first | done | rfl) | (rw [hsl]; first | done | rfl) | (rw [sure_c hc0]; first | done | rfl) | (rw [hs6]; first | done | rfl)) rfl (trivial)
    · replace hb6 := nb_f hb6
      refine Ex.skip ?_
      have hs0 := sure_0 (n := x1.K.length) hc0 hx1 hkl (end_anyF (by omega) (by assumption))
      have hsl : (sureV s L lo hi).1.length = x1.K.length := by rw [hs0]; exact sureP_len ..
      have hPl := sureP_len s (fun k => (x1.K.getD k zX).xs) x1.K.length lo hi
      have hl8 := hS.len8
      refine Ex.regSeq (ExL.pures 0 rfl ?_)
      refine ExL.op rfl (op_buildSlice (sz := 16) rfl rfl rfl rfl rfl rfl rfl rfl (by decide) rfl rfl rfl (fun r8 => ?_))
      refine ExL.pures 1 rfl ?_
      refine ExL.nil ?_
      refine Ex.seq ?_
      refine Ex.regSeq (ExL.pures 1 rfl ?_)
      refine ExL.nil ?_
      refine Ex.block ?_
      refine Ex.loopA (fun i A c => [(13, .slice A i c), (14, .int .i64 i)]) (fun i A c => [.row (.slice A i c) 32 16 i (((sureP s (fun k => (x1.K.getD k zX).xs) x1.K.length lo hi).take i).flatMap encPh)]) (fun i => i ≤ x1.K.length) (fun i => x1.K.length - i) 0 ((some ⟨r8, 0, none⟩)) (0) [(0, _), (8, _), (9, _), (10, _), (12, _)] [_, _, _, _, _] 6 [0, 1, 2, 3, 4, 5] ⟨rfl, rfl, trivial⟩ ⟨rfl, rfl, rfl, rfl, rfl, trivial⟩ (rfl) rfl (Nat.zero_le _) (fun i A c hI => ?_)
      have hI : i ≤ x1.K.length := hI
      refine Ex.seq ?_
      refine Ex.regSeq (ExL.pures 3 rfl ?_)
      refine ExL.lss rfl rfl rfl rfl rfl rfl (fun h9 => ?_) (fun h9 => ?_)
      · refine ExL.nil ?_
        refine Ex.cond_t rfl ?_
        refine Ex.skip ?_
        refine Ex.seq ?_
        refine Ex.block ?_
        have hiL : i < L.length := by omega
        have hvl := hfl i hiL
        have hei := hEl i (by omega)
        refine Ex.regSeq (ExL.pures 0 rfl ?_)
        refine ExL.free (fr_build rfl rfl rfl rfl) rfl rfl rfl ?_
        refine ExL.op rfl (op_alloc rfl rfl rfl rfl rfl (fun b10 => ?_))
        refine ExL.op rfl (op_storeC (i := 0) rfl rfl rfl rfl rfl rfl rfl rfl rfl rfl ?_)
        refine ExL.nil ?_
        refine Ex.seq ?_
        refine Ex.regSeq (ExL.pures 1 rfl ?_)
        refine ExL.nil ?_
        refine Ex.block ?_
        refine Ex.loopK (X := Nat) (fun k => [(16, .int .i64 k)]) (fun k => [.blk b10 ((sureK s (fun k => (x1.K.getD k zX).xs) x1.K.length lo hi i k).flatMap encMk) 32]) (fun k => k ≤ (x1.K.getD i zX).xs.length) (fun k => (x1.K.getD i zX).xs.length - k) 0 [(0, _), (8, _), (9, _), (10, _), (12, _), (13, _), (14, _), (15, _)] [_, _, _, _, _, _] 7 [0, 1, 2, 3, 4, 5, 6] ⟨rfl, trivial⟩ ⟨rfl, rfl, rfl, rfl, rfl, rfl, rfl, rfl, trivial⟩ (rfl) rfl (Nat.zero_le _) (fun k hI => ?_)
        have hI : k ≤ (x1.K.getD i zX).xs.length := hI
        refine Ex.seq ?_
        refine Ex.regSeq (ExL.pures 3 rfl ?_)
        refine ExL.free (fr_indexAddrR (sz := 1) 5 rfl rfl rfl rfl rfl rfl (by omega)) rfl rfl rfl ?_
        refine ExL.free (fr_load rfl rfl rfl rfl (cellE (v := .slice (x3.J.getD i zX).A (endL lo hi (fun k => (x1.K.getD k zX).xs) x1.K.length (x1.K.length - 1 - i)).length (x3.J.getD i zX).c) (r := (x3.J.getD i zX)) (i := ↑i) (i) (Reads.row (i := 5) rfl) encX_len zX 0 rfl (by omega) (by omega) rfl (by unfold encX; rw [hJe _ (by omega)]; rfl))) rfl rfl rfl ?_
        refine ExL.pures 1 rfl ?_
        refine ExL.lss rfl rfl rfl rfl rfl rfl (fun h11 => ?_) (fun h11 => ?_)
        · refine ExL.nil ?_
          refine Ex.cond_t rfl ?_
          refine Ex.skip ?_
          refine Ex.seq ?_
          refine Ex.block ?_
          have hkk : k < (x1.K.getD i zX).xs.length := by omega
          have hvi := hFa i k
          refine Ex.seq ?_
          refine Ex.regSeq (ExL.pures 2 rfl ?_)
          refine ExL.free (fr_indexAddrR (sz := 1) 5 rfl rfl rfl rfl rfl rfl (by omega)) rfl rfl rfl ?_
          refine ExL.free (fr_load rfl rfl rfl rfl (cellE (v := .slice (x3.J.getD i zX).A (endL lo hi (fun k => (x1.K.getD k zX).xs) x1.K.length (x1.K.length - 1 - i)).length (x3.J.getD i zX).c) (r := (x3.J.getD i zX)) (i := ↑i) (i) (Reads.row (i := 5) rfl) encX_len zX 0 rfl (by omega) (by omega) rfl (by unfold encX; rw [hJe _ (by omega)]; rfl))) rfl rfl rfl ?_
          refine ExL.pures 1 rfl ?_
          refine ExL.free (fr_indexAddrF (readsW (G := fun q => endL lo hi (fun k => (x1.K.getD k zX).xs) x1.K.length (x1.K.length - 1 - q)) (i := 6) rfl (k := i) (by omega) rfl) eB_len rfl rfl rfl rfl rfl rfl (by omega)) rfl rfl rfl ?_
          refine ExL.free (fr_load rfl rfl rfl rfl (by first | exact cellN (readsW (G := fun q => endL lo hi (fun k => (x1.K.getD k zX).xs) x1.K.length (x1.K.length - 1 - q)) (i := 6) rfl (k := i) (by omega) rfl) eB_len false 0 rfl (by omega) rfl | exact cellF (readsW (G := fun q => endL lo hi (fun k => (x1.K.getD k zX).xs) x1.K.length (x1.K.length - 1 - q)) (i := 6) rfl (k := i) (by omega) rfl) eB_len false 0 rfl (by omega) rfl)) rfl rfl rfl ?_
          refine ExL.pures 1 rfl ?_
          refine ExL.nil ?_
          refine Ex.cond rfl (fun hb12 => ?_) (fun hb12 => ?_)
          · replace hb12 := nb_t hb12
            refine Ex.exit ?_
            refine Ex.region (ExL.pures 1 rfl ?_)
            refine ExL.free (by first | exact fr_add64 rfl rfl rfl (by omega) | exact fr_add rfl rfl rfl) rfl rfl rfl ?_
            refine ExL.pures 1 rfl ?_
            refine ExL.nil ?_
            refine Hand.mk (k + 1) 7 [0, 1, 2, 3, 4, 5, 6] ⟨rfl, trivial⟩ ⟨rfl, rfl, rfl, rfl, rfl, rfl, rfl, rfl, trivial⟩ (by first | exact pkB (congrArg (fun z => List.flatMap encMk z) (sure_y (end_okF (by omega) (by omega) (by assumption)) (by omega))) | exact pkB (congrArg (fun z => List.flatMap encMk z) (sure_n (end_okF (by omega) (by omega) (by assumption))))) rfl (by omega) (by omega)
          · replace hb12 := nb_f hb12
            refine Ex.skip ?_
            refine Ex.regSeq (ExL.pures 4 rfl ?_)
            refine ExL.free (fr_load rfl rfl rfl rfl (CellO.blk (i := 2) rfl rfl)) rfl rfl rfl ?_
            refine ExL.pures 1 rfl ?_
            refine ExL.free (fr_indexAddrR (sz := 1) 3 rfl rfl rfl rfl rfl rfl (by omega)) rfl rfl rfl ?_
            refine ExL.free (fr_load rfl rfl rfl rfl (by first | exact cellN (Reads.row (i := 3) rfl) encX_len zX 0 rfl (by omega) rfl | exact cellF (Reads.row (i := 3) rfl) encX_len zX 0 rfl (by omega) rfl)) rfl rfl rfl ?_
            refine ExL.pures 1 rfl ?_
            refine ExL.free (fr_indexAddrF (readsX (i := 4) rfl (k := i) (by omega)) (eI_len .i64) rfl rfl rfl rfl rfl rfl (by omega)) rfl rfl rfl ?_
            refine ExL.free (fr_load rfl rfl rfl rfl (by first | exact cellN (readsX (i := 4) rfl (k := i) (by omega)) (eI_len .i64) 0 0 rfl (by omega) rfl | exact cellF (readsX (i := 4) rfl (k := i) (by omega)) (eI_len .i64) 0 0 rfl (by omega) rfl)) rfl rfl rfl ?_
            refine ExL.op rfl (op_ret rfl rfl rfl (c_l01Of s (by first | assumption | simp_all) _ _ _ (by omega)) (Reads.get (Reads.old hs)) rfl rfl (fun x13 hx13 => ?_))
            refine ExL.op rfl (op_alloc rfl rfl rfl rfl rfl (fun b14 => ?_))
            refine ExL.op rfl (op_storeC (i := 0) rfl rfl rfl rfl rfl rfl rfl rfl rfl rfl ?_)
            refine ExL.nil ?_
            refine Ex.regSeq (ExL.pures 1 rfl ?_)
            refine ExL.nil ?_
            refine Ex.block ?_
            refine Ex.loopK (X := Nat) (fun w => [(18, .int .i64 w)]) (fun w => [.blk b10 ((putW s (dig (digs s ((x1.K.getD i zX).xs.getD k 0))).l (sureK s (fun k => (x1.K.getD k zX).xs) x1.K.length lo hi i k) w).flatMap encMk) 32, .blk b14 (((dig (digs s ((x1.K.getD i zX).xs.getD k 0))).l).flatMap (eI .u8)) 45]) (fun w => w ≤ s.length) (fun w => s.length - w) 0 [(0, _), (8, _), (9, _), (10, _), (12, _), (13, _), (14, _), (15, _), (16, _), (17, _)] [_, _, _, _, _, _] 8 [1, 0, 2, 3, 4, 5, 6, 7] ⟨rfl, trivial⟩ ⟨rfl, rfl, rfl, rfl, rfl, rfl, rfl, rfl, rfl, rfl, trivial⟩ (rfl) rfl (Nat.zero_le _) (fun w hI => ?_)
            have hI : w ≤ s.length := hI
            refine Ex.seq ?_
            refine Ex.regSeq (ExL.pures 3 rfl ?_)
            refine ExL.lss rfl rfl rfl rfl rfl rfl (fun h15 => ?_) (fun h15 => ?_)
            · refine ExL.nil ?_
              refine Ex.cond_t rfl ?_
              refine Ex.skip ?_
              refine Ex.seq ?_
              refine Ex.block ?_
              have hws : w < s.length := by omega
              have hdw := digOk (l := (dig (digs s ((x1.K.getD i zX).xs.getD k 0))).l) hS.len8 (by rw [dig_l (digs_len s _)]; exact digs_num hS.bases) (by rw [dig_l (digs_len s _)]; exact digs_valid hS) w hws
              have hbw := hS.bases w hws
              have hpo := putW_ok (s := s) (d := (dig (digs s ((x1.K.getD i zX).xs.getD k 0))).l) (l := (sureK s (fun k => (x1.K.getD k zX).xs) x1.K.length lo hi i k)) (sure_ok hS k) (digs_lt hS) w hI
              have hpl : (putW s (dig (digs s ((x1.K.getD i zX).xs.getD k 0))).l (sureK s (fun k => (x1.K.getD k zX).xs) x1.K.length lo hi i k) w).length = 8 := by rw [putW_len]; exact sureK_len
              refine Ex.drawM rfl ?_
              refine ExD.take (i := 0) rfl (by kernel_rfl) (pureVal_ok rfl) ((List.Sublist.refl _)) rfl rfl rfl ?_
              refine ExD.take (i := 1) rfl (by kernel_rfl) (pureVal_ok rfl) ((List.Sublist.refl _)) rfl rfl rfl ?_
              refine ExD.take (i := 2) rfl (by kernel_rfl) (fr_indexAddr_b (sz := 2) rfl rfl rfl rfl rfl (by omega)) ((List.Sublist.refl _)) rfl rfl rfl ?_
              refine ExD.take (i := 3) rfl (by kernel_rfl) (fr_loadN rfl rfl rfl rfl rfl (segB (i := 0) rfl encMk_len zMk (by rw [hpl]; omega))) ((List.Sublist.refl _)) rfl rfl rfl ?_
              refine ExD.take (i := 4) rfl (by kernel_rfl) (pureVal_ok rfl) ((List.Sublist.refl _)) rfl rfl rfl ?_
              refine ExD.take (i := 5) rfl (by kernel_rfl) (fr_indexAddr_b (sz := 1) rfl rfl rfl rfl rfl (by omega)) ((List.Sublist.refl _)) rfl rfl rfl ?_
              refine ExD.take (i := 6) rfl (by kernel_rfl) (fr_load rfl rfl rfl rfl (CellO.blk (i := 1) rfl (blkG (eI_len .u8) 0 rfl (by rw [dig_len]; omega) rfl))) ((List.Sublist.refl _)) rfl rfl rfl ?_
              refine ExD.take (i := 7) rfl (by kernel_rfl) (by first | exact fr_conv64 rfl rfl rfl rfl (by omega) | exact fr_conv rfl rfl rfl rfl) ((List.Sublist.refl _)) rfl rfl rfl ?_
              refine ExD.op (i := 8) rfl (by kernel_rfl) rfl (op_ret rfl rfl rfl (c_l05Put ((putW s (dig (digs s ((x1.K.getD i zX).xs.getD k 0))).l (sureK s (fun k => (x1.K.getD k zX).xs) x1.K.length lo hi i k) w).getD w zMk) (hpo w) ((dig (digs s ((x1.K.getD i zX).xs.getD k 0))).l.getD w 0) (by omega)) (fun _ _ => trivial) rfl rfl (fun x16 hx16 => ⟨(List.Sublist.refl _), ?_⟩))
              refine ExD.take (i := 9) rfl (by kernel_rfl) (fr_indexAddr_b (sz := 2) rfl rfl rfl rfl rfl (by omega)) ((List.Sublist.refl _)) rfl rfl rfl ?_
              refine ExD.last (i := 10) rfl (by kernel_rfl) (by kernel_rfl) rfl (op_store (i := 0) rfl rfl rfl rfl rfl rfl rfl rfl (room encMk_len (k := w) (by rw [hpl]; omega) (by simp) rfl) rfl ?_)
              refine ExD.done (by kernel_rfl) ?_
              refine Ex.region (ExL.pures 1 rfl ?_)
              refine ExL.free (by first | exact fr_add64 rfl rfl rfl (by omega) | exact fr_add rfl rfl rfl) rfl rfl rfl ?_
              refine ExL.pures 1 rfl ?_
              refine ExL.nil ?_
              refine Hand.mk (w + 1) 8 [0, 1, 2, 3, 4, 5, 6, 7] ⟨rfl, trivial⟩ ⟨rfl, rfl, rfl, rfl, rfl, rfl, rfl, rfl, rfl, rfl, trivial⟩ (pkB (putW_put (w := w) sureK_len (by omega) (by simp) rfl)) rfl (by omega) (by omega)
            · refine ExL.nil ?_
              refine Ex.cond_f rfl ?_
              refine Ex.exit ?_
              refine Ex.region (ExL.pures 1 rfl ?_)
              refine ExL.free (by first | exact fr_add64 rfl rfl rfl (by omega) | exact fr_add rfl rfl rfl) rfl rfl rfl ?_
              refine ExL.pures 1 rfl ?_
              refine ExL.nil ?_
              refine Hand.mk (k + 1) 8 [0, 2, 3, 4, 5, 6, 7] ⟨rfl, trivial⟩ ⟨rfl, rfl, rfl, rfl, rfl, rfl, rfl, rfl, trivial⟩ (by first | exact pkB (congrArg (fun z => List.flatMap encMk z) (sure_y (end_okF (by omega) (by omega) (by assumption)) (by omega))) | exact pkB (congrArg (fun z => List.flatMap encMk z) (sure_n (end_okF (by omega) (by omega) (by assumption))))) rfl (by omega) (by omega)
        · refine ExL.nil ?_
          refine Ex.cond_f rfl ?_
          refine Ex.exit ?_
          obtain rfl : k = (x1.K.getD i zX).xs.length := (by omega)
          rw [← encPh_ph (l := sureK s (fun k => (x1.K.getD k zX).xs) x1.K.length lo hi i (x1.K.getD i zX).xs.length) sureK_len]
          refine Ex.region (ExL.pures 1 rfl ?_)
          refine ExL.free (fr_loadN rfl rfl rfl rfl rfl (SegO.whole (i := 0) rfl)) rfl rfl rfl ?_
          refine ExL.op rfl (op_buildSlice (sz := 16) rfl rfl rfl rfl rfl rfl rfl rfl (by decide) rfl rfl rfl (fun r17 => ?_))
          refine ExL.op rfl (op_append (sz := 16) (bytes := 128) (i := 2) rfl rfl rfl rfl (Reads.row (i := 0) rfl) rfl (fun e => nomatch e) rfl rfl rfl rfl (by constructor <;> first | omega | (unfold maxLen; omega)) rfl rfl (fun A18 cA18 => ?_))
          refine ExL.pures 1 rfl ?_
          refine ExL.nil ?_
          refine Ex.region (ExL.pures 1 rfl ?_)
          refine ExL.free (by first | exact fr_add64 rfl rfl rfl (by omega) | exact fr_add rfl rfl rfl) rfl rfl rfl ?_
          refine ExL.pures 1 rfl ?_
          refine ExL.nil ?_
          refine HandA.of (i + 1) (A18) (cA18) 8 [2, 3, 4, 5, 6, 7] ⟨rfl, rfl, trivial⟩ ⟨rfl, rfl, rfl, rfl, rfl, trivial⟩ (by rw [← photo_snoc2 (P := (sureP s (fun k => (x1.K.getD k zX).xs) x1.K.length lo hi)) (k := i) (by omega) (sureP_at (by omega))]; rfl) rfl (by omega) (by omega)
      · refine ExL.nil ?_
        refine Ex.cond_f rfl ?_
        refine Ex.exit ?_
        obtain rfl : i = x1.K.length := (by omega)
        rw [show List.take x1.K.length (sureP s (fun k => (x1.K.getD k zX).xs) x1.K.length lo hi) = (sureP s (fun k => (x1.K.getD k zX).xs) x1.K.length lo hi) from List.take_of_length_le (by omega)]
        refine Ex.regSeq (ExL.pures 3 rfl ?_)
        refine ExL.nil ?_
        refine Ex.ret ?_
        refine RetQ.mk (A, c) rfl (.tmp rfl (.tmp rfl .nil)) (t2 (by first | (rw [hsl, hs0]; first | done | rfl) | (rw [hs0]; first | done | rfl) | (rw [hsl]; first | done | rfl) | (rw [sure_c hc0]; first | done | rfl) | (rw [hs6]; first | done | rfl)) (by first | (rw [hsl, hs0]; first | done | rfl) | (rw [hs0]; first | done | rfl) | (rw [hsl]; first | done | rfl) | (rw [sure_c hc0]; first | done | rfl) | (rw [hs6]; first | done | rfl))) [0] (by first | (rw [hsl, hs0]; first | done | rfl) | (rw [hs0]; first | done | rfl) | (rw [hsl]; first | done | rfl) | (rw [sure_c hc0]; first | done | rfl) | (rw [hs6]; first | done | rfl)) rfl (trivial)
theorem c_sSure (s : List Int) (hu : Nums 255 s) (As : Option Addr) (cs : Nat) (hls : s.length ≤ maxLen) (L : List VPh) (hLk : ∀ k, k < L.length → OkPh (L.getD k zPh)) (bl cL : Nat) (hlL : L.length ≤ maxLen) (lo hi : Int) : Ret Try.prog 14 [.slice As s.length cs, .slice (some ⟨bl, 0, none⟩) L.length cL, .int .i64 lo, .int .i64 hi] (fun w => Rd w As (s.flatMap (eI .u8)) ∧ Rd w (some ⟨bl, 0, none⟩) (L.flatMap encPh)) (fun x : Option Addr × Nat => .tuple #[.slice x.1 (sureV s L lo hi).1.length x.2, .int .i64 (sureV s L lo hi).2]) (fun x => [.row (.slice x.1 (sureV s L lo hi).1.length x.2) 32 16 (sureV s L lo hi).1.length ((sureV s L lo hi).1.flatMap encPh)]) (fun x => True) := by
  by_cases h : codeF s L lo hi lo = 0
  · exact c_sSure_t s hu As cs hls L hLk bl cL hlL lo hi  h
  · exact c_sSure_f s hu As cs hls L hLk bl cL hlL lo hi  h
end Go.Proofs.Ytdfgbocmjgjclaa

/- What these functions of the program hand back, each proved by walking its operations. -/
set_option linter.unusedVariables false
set_option linter.unusedSimpArgs false
set_option maxRecDepth 4000
namespace Go.Proofs.Ytdfgbocmjgjclaa
open Go Go.Sx Go.RowKit Go.W Go.Proofs
attribute [local irreducible] Ex ExL ExD Op1 Free RetQ MutQ Reads CellO SegO LoadsAs
theorem e_15 : Enters Try.prog 15 := Enters.of Try.func15 rfl
theorem c_SameNumbers (s : List Int) (As : Option Addr) (cs : Nat) (hls : s.length ≤ maxLen) (At : Option Addr) (ct : Nat) : Ret Try.prog 15 [.slice As s.length cs, .slice At s.length ct] (fun w => Rd w As (s.flatMap (eI .i64)) ∧ Rd w At (s.flatMap (eI .i64))) (fun x : Unit => .bool true) (fun x => []) (fun x => True) := by
  refine Ret.of e_15 Try.func15 rfl Try.ntmps15 rfl rfl (fun w hpre => ?_)
  have hs := hpre.1.base
  have ht := hpre.2.base
  have hm0 : maxLen = 9223372036854775807 := rfl
  refine Ex.regSeq (ExL.pures 1 rfl ?_)
  refine ExL.nil ?_
  refine Ex.regSeq (ExL.pures 2 rfl ?_)
  refine ExL.op rfl (op_ret rfl rfl rfl (c_l00Same s _ _ (by omega) s _ _ (by omega)) (fun w hw => ⟨Reads.get (Reads.old hs) w hw, Reads.get (Reads.old ht) w hw⟩) rfl rfl (fun x1 hx1 => ?_))
  refine ExL.pures 1 rfl ?_
  refine ExL.nil ?_
  refine Ex.ret ?_
  refine RetQ.mk () rfl (.tmp rfl .nil) (tB (by simp)) [] (rfl) rfl (trivial)
theorem eq_Photo (a : VPh) : EqOk Try.prog 10000 32 (.agg (encPh a).toArray) (.agg (encPh a).toArray) true :=
  EqOk.rowsSelf (d := 9999) encMk_len zMk rfl rfl rfl rfl rfl a.l rfl (fun m => EqOk.as (EqOk.ints (d := 9997) rfl rfl rfl rfl m.l m.l rfl rfl) (by simp))
theorem e_16 : Enters Try.prog 16 := Enters.of Try.func16 rfl
theorem c_SamePhotos (s : List VPh) (As : Option Addr) (cs : Nat) (hls : s.length ≤ maxLen) (At : Option Addr) (ct : Nat) : Ret Try.prog 16 [.slice As s.length cs, .slice At s.length ct] (fun w => Rd w As (s.flatMap encPh) ∧ Rd w At (s.flatMap encPh)) (fun x : Unit => .bool true) (fun x => []) (fun x => True) := by
  refine Ret.of e_16 Try.func16 rfl Try.ntmps16 rfl rfl (fun w hpre => ?_)
  have hs := hpre.1.base
  have ht := hpre.2.base
  have hm0 : maxLen = 9223372036854775807 := rfl
  refine Ex.regSeq (ExL.pures 1 rfl ?_)
  refine ExL.nil ?_
  refine Ex.seq ?_
  refine Ex.regSeq (ExL.pures 4 rfl ?_)
  refine ExL.free (fr_neq_f rfl rfl rfl (fun h => h rfl)) rfl rfl rfl ?_
  refine ExL.nil ?_
  refine Ex.cond_f rfl ?_
  refine Ex.skip ?_
  refine Ex.seq ?_
  refine Ex.regSeq (ExL.pures 1 rfl ?_)
  refine ExL.nil ?_
  refine Ex.block ?_
  refine Ex.loopK (X := Nat) (fun k => [(5, .int .i64 k)]) (fun k => []) (fun k => k ≤ s.length) (fun k => s.length - k) 0 [(0, _), (1, _)] [] 0 [] ⟨rfl, trivial⟩ ⟨rfl, rfl, trivial⟩ (rfl) rfl (Nat.zero_le _) (fun k hI => ?_)
  have hI : k ≤ s.length := hI
  refine Ex.seq ?_
  refine Ex.regSeq (ExL.pures 3 rfl ?_)
  refine ExL.lss rfl rfl rfl rfl rfl rfl (fun h1 => ?_) (fun h1 => ?_)
  · refine ExL.nil ?_
    refine Ex.cond_t rfl ?_
    refine Ex.skip ?_
    refine Ex.seq ?_
    refine Ex.block ?_
    refine Ex.drawSeqM rfl ?_
    refine ExD.take (i := 0) rfl (by kernel_rfl) (pureVal_ok rfl) ((List.Sublist.refl _)) rfl rfl rfl ?_
    refine ExD.take (i := 1) rfl (by kernel_rfl) (pureVal_ok rfl) ((List.Sublist.refl _)) rfl rfl rfl ?_
    refine ExD.take (i := 2) rfl (by kernel_rfl) (fr_indexAddrF (Reads.old hs) encPh_len rfl rfl rfl rfl rfl rfl (by omega)) ((List.Sublist.refl _)) rfl rfl rfl ?_
    refine ExD.take (i := 3) rfl (by kernel_rfl) (fr_loadN rfl rfl rfl rfl rfl (by first | exact segN (Reads.old hs) encPh_len rfl zPh (by omega) | exact segF (Reads.old hs) encPh_len rfl zPh (by omega))) ((List.Sublist.refl _)) rfl rfl rfl ?_
    refine ExD.take (i := 4) rfl (by kernel_rfl) (pureVal_ok rfl) ((List.Sublist.refl _)) rfl rfl rfl ?_
    refine ExD.take (i := 5) rfl (by kernel_rfl) (pureVal_ok rfl) ((List.Sublist.refl _)) rfl rfl rfl ?_
    refine ExD.take (i := 6) rfl (by kernel_rfl) (fr_indexAddrF (Reads.old ht) encPh_len rfl rfl rfl rfl rfl rfl (by omega)) ((List.Sublist.refl _)) rfl rfl rfl ?_
    refine ExD.take (i := 7) rfl (by kernel_rfl) (fr_loadN rfl rfl rfl rfl rfl (by first | exact segN (Reads.old ht) encPh_len rfl zPh (by omega) | exact segF (Reads.old ht) encPh_len rfl zPh (by omega))) ((List.Sublist.refl _)) rfl rfl rfl ?_
    refine ExD.take (i := 8) rfl (by kernel_rfl) (fr_neq_rec (eq_Photo (s.getD k zPh)) rfl rfl rfl (by kernel_rfl)) ((List.Sublist.refl _)) rfl rfl rfl ?_
    refine ExD.done (by kernel_rfl) ?_
    refine Ex.cond_f rfl ?_
    refine Ex.skip ?_
    refine Ex.region (ExL.pures 1 rfl ?_)
    refine ExL.free (by first | exact fr_add64 rfl rfl rfl (by omega) | exact fr_add rfl rfl rfl) rfl rfl rfl ?_
    refine ExL.pures 1 rfl ?_
    refine ExL.nil ?_
    refine Hand.mk (k + 1) 0 [] ⟨rfl, trivial⟩ ⟨rfl, rfl, trivial⟩ (rfl) rfl (by omega) (by omega)
  · refine ExL.nil ?_
    refine Ex.cond_f rfl ?_
    refine Ex.exit ?_
    refine Ex.regSeq (ExL.pures 1 rfl ?_)
    refine ExL.nil ?_
    refine Ex.ret ?_
    refine RetQ.mk () rfl (.tmp rfl .nil) (rfl) [] (rfl) rfl (trivial)
theorem e_19 : Enters Try.prog 19 := Enters.of Try.func19 rfl
theorem c_DigitsOf (s : List Int) (hv : validStack s = true) (hu : Nums 255 s) (As : Option Addr) (cs : Nat) (v : Int) (hv0 : 0 ≤ v ∧ v < size s) : Ret Try.prog 19 [.slice As s.length cs, .int .i64 v] (fun w => Rd w As (s.flatMap (eI .u8))) (fun x : Unit => .tuple #[.agg (encD (dig (digs s v))).toArray, .int .i64 0]) (fun x => []) (fun x => True) := by
  refine Ret.of e_19 Try.func19 rfl Try.ntmps19 rfl rfl (fun w hpre => ?_)
  have hs := hpre.base
  have hS := stk hv
  have h8 := hS.len8
  have hz1 := hS.size_
  have hz2 := hS.le
  have hm0 : maxLen = 9223372036854775807 := rfl
  refine Ex.regSeq (ExL.pures 0 rfl ?_)
  refine ExL.op rfl (op_alloc rfl rfl rfl rfl rfl (fun b1 => ?_))
  refine ExL.pures 1 rfl ?_
  refine ExL.nil ?_
  refine Ex.seq ?_
  refine Ex.regSeq (ExL.pures 1 rfl ?_)
  refine ExL.op rfl (op_ret rfl rfl rfl (c_l01Ok _ (by assumption) _ _ (by first | assumption | omega | (unfold maxLen; omega))) (Reads.get (Reads.old hs)) rfl rfl (fun x2 hx2 => ?_))
  refine ExL.pures 1 rfl ?_
  refine ExL.nil ?_
  refine Ex.cond rfl (fun hb3 => ?_) (fun hb3 => ?_)
  · replace hb3 := nb_t hb3
    refine Ex.regSeq (ExL.pures 0 rfl ?_)
    refine ExL.free (fr_build rfl rfl rfl rfl) rfl rfl rfl ?_
    refine ExL.op rfl (op_storeC (i := 0) rfl rfl rfl rfl rfl rfl rfl rfl rfl rfl ?_)
    refine ExL.pures 1 rfl ?_
    refine ExL.nil ?_
    refine Ex.ret ?_
    refine RetQ.mk () rfl (.cell rfl (.many rfl rfl rfl (SegO.whole (i := 0) rfl)) (.tmp rfl .nil)) (t2 (by first | rfl | (exfalso; simp_all; done) | (exfalso; omega)) (by first | rfl | (exfalso; simp_all; done) | (exfalso; omega))) [] (rfl) rfl (trivial)
  · replace hb3 := nb_f hb3
    refine Ex.skip ?_
    refine Ex.seq ?_
    refine Ex.regSeq (ExL.pures 2 rfl ?_)
    refine ExL.op rfl (op_ret rfl rfl rfl (c_l01Size _ (by assumption) _ _ (by first | assumption | omega | (unfold maxLen; omega))) (Reads.get (Reads.old hs)) rfl rfl (fun x4 hx4 => ?_))
    refine ExL.free (by first | exact fr_sub64 rfl rfl rfl (by omega) | exact fr_sub rfl rfl rfl) rfl rfl rfl ?_
    refine ExL.op rfl (op_ret rfl rfl rfl (c_l00In _ _ _) (fun _ _ => trivial) rfl rfl (fun x5 hx5 => ?_))
    refine ExL.pures 1 rfl ?_
    refine ExL.nil ?_
    refine Ex.cond rfl (fun hb6 => ?_) (fun hb6 => ?_)
    · replace hb6 := nd_t hb6
      refine Ex.regSeq (ExL.pures 0 rfl ?_)
      refine ExL.free (fr_build rfl rfl rfl rfl) rfl rfl rfl ?_
      refine ExL.op rfl (op_storeC (i := 0) rfl rfl rfl rfl rfl rfl rfl rfl rfl rfl ?_)
      refine ExL.pures 1 rfl ?_
      refine ExL.nil ?_
      refine Ex.ret ?_
      refine RetQ.mk () rfl (.cell rfl (.many rfl rfl rfl (SegO.whole (i := 0) rfl)) (.tmp rfl .nil)) (t2 (by first | rfl | (exfalso; simp_all; done) | (exfalso; omega)) (by first | rfl | (exfalso; simp_all; done) | (exfalso; omega))) [] (rfl) rfl (trivial)
    · replace hb6 := nd_f hb6
      refine Ex.skip ?_
      refine Ex.regSeq (ExL.pures 2 rfl ?_)
      refine ExL.op rfl (op_ret rfl rfl rfl (c_l01Of s (by first | assumption | simp_all) _ _ _ (by omega)) (Reads.get (Reads.old hs)) rfl rfl (fun x7 hx7 => ?_))
      refine ExL.op rfl (op_storeC (i := 0) rfl rfl rfl rfl rfl rfl rfl rfl rfl rfl ?_)
      refine ExL.pures 1 rfl ?_
      refine ExL.nil ?_
      refine Ex.ret ?_
      refine RetQ.mk () rfl (.cell rfl (.many rfl rfl rfl (SegO.whole (i := 0) rfl)) (.tmp rfl .nil)) (t2 (by first | rfl | (exfalso; simp_all; done) | (exfalso; omega)) (by first | rfl | (exfalso; simp_all; done) | (exfalso; omega))) [] (rfl) rfl (trivial)
end Go.Proofs.Ytdfgbocmjgjclaa
