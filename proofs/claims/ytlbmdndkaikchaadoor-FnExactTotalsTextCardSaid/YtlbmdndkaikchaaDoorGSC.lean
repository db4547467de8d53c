/- What these functions of the program hand back, each proved by walking its operations. -/
import Derived.Test.YtlbmdndkaikchaaDoorProg
import Derived.Test.YtlbmdndkaikchaaDoorFw
import Derived.Test.YtlbmdndkaikchaaDoorGSA
import Derived.Test.YtlbmdndkaikchaaDoorGSB
import Derived.Test.YtlbmdndkaikchaaDoorGT
import Derived.Test.YtlbmdndkaikchaaDoorM62
set_option linter.unusedVariables false
set_option linter.unusedSimpArgs false
set_option maxRecDepth 4000
namespace Go.Proofs.YtlbmdndkaikchaaDoor
open Go Go.Sx Go.RowKit Go.W Go.Proofs
attribute [local irreducible] Ex ExL ExD Op1 Free RetQ MutQ Reads CellO SegO LoadsAs
theorem e_10 : Enters Tryd.prog 10 := Enters.of Tryd.func10 rfl
theorem c_l06Text (l : List VP) (Al : Option Addr) (cl : Nat) (hll : l.length ≤ maxLen) (hv : validTot l = true) : Ret Tryd.prog 10 [.slice Al l.length cl] (fun w => Rd w Al (l.flatMap encP)) (fun x : Unit => sv (tText l l.length)) (fun x => []) (fun x => True) := by
  refine Ret.of e_10 Tryd.func10 rfl Tryd.ntmps10 rfl rfl (fun w hpre => ?_)
  have hl := hpre.base
  have hm0 : maxLen = 9223372036854775807 := rfl
  refine Ex.regSeq (ExL.pures 1 rfl ?_)
  refine ExL.nil ?_
  refine Ex.regSeq (ExL.pures 1 rfl ?_)
  refine ExL.nil ?_
  refine Ex.seq ?_
  refine Ex.regSeq (ExL.pures 1 rfl ?_)
  refine ExL.nil ?_
  refine Ex.block ?_
  refine Ex.loopK (X := Nat) (fun k => [(3, sv (tText l k)), (4, .int .i64 k)]) (fun k => []) (fun k => k ≤ l.length) (fun k => l.length - k) 0 [(0, _), (2, _)] [] 0 [] ⟨rfl, rfl, trivial⟩ ⟨rfl, rfl, trivial⟩ (rfl) rfl (Nat.zero_le _) (fun k hI => ?_)
  have hI : k ≤ l.length := hI
  refine Ex.seq ?_
  refine Ex.regSeq (ExL.pures 3 rfl ?_)
  refine ExL.lss rfl rfl rfl rfl rfl rfl (fun h1 => ?_) (fun h1 => ?_)
  · refine ExL.nil ?_
    refine Ex.cond_t rfl ?_
    refine Ex.skip ?_
    refine Ex.seq ?_
    refine Ex.block ?_
    have hkl : k < l.length := by omega
    have hT := tot hv
    have hdy := hT.day k (by omega)
    have hct := hT.cnt k (by omega)
    have hi1 := itoa_le (n := (l.getD k zP).a) (by omega)
    have hi2 := itoa_le (n := (l.getD k zP).b) (by omega)
    have htx := tText_le hT (k := k) (by omega)
    refine Ex.drawM rfl ?_
    refine ExD.take (i := 0) rfl (by kernel_rfl) (pureVal_ok rfl) ((List.Sublist.refl _)) rfl rfl rfl ?_
    refine ExD.take (i := 1) rfl (by kernel_rfl) (pureVal_ok rfl) ((List.Sublist.refl _)) rfl rfl rfl ?_
    refine ExD.take (i := 2) rfl (by kernel_rfl) (pureVal_ok rfl) ((List.Sublist.refl _)) rfl rfl rfl ?_
    refine ExD.take (i := 3) rfl (by kernel_rfl) (fr_indexAddrF (Reads.old hl) encP_len rfl rfl rfl rfl rfl rfl (by omega)) ((List.Sublist.refl _)) rfl rfl rfl ?_
    refine ExD.take (i := 4) rfl (by kernel_rfl) (fr_fieldAddrF (i := (↑k : Int).toNat) (Reads.old hl) encP_len rfl rfl rfl (by omega) rfl rfl rfl rfl) ((List.Sublist.refl _)) rfl rfl rfl ?_
    refine ExD.take (i := 5) rfl (by kernel_rfl) (fr_load rfl rfl rfl rfl (by first | exact cellN (Reads.old hl) encP_len zP 0 rfl (by omega) rfl | exact cellF (Reads.old hl) encP_len zP 0 rfl (by omega) rfl)) ((List.Sublist.refl _)) rfl rfl rfl ?_
    refine ExD.take (i := 8) rfl (by kernel_rfl) (pureVal_ok rfl) ((List.Sublist.refl _)) rfl rfl rfl ?_
    refine ExD.take (i := 9) rfl (by kernel_rfl) (pureVal_ok rfl) ((List.Sublist.refl _)) rfl rfl rfl ?_
    refine ExD.take (i := 10) rfl (by kernel_rfl) (fr_indexAddrF (Reads.old hl) encP_len rfl rfl rfl rfl rfl rfl (by omega)) ((List.Sublist.refl _)) rfl rfl rfl ?_
    refine ExD.take (i := 11) rfl (by kernel_rfl) (fr_fieldAddrF (i := (↑k : Int).toNat) (Reads.old hl) encP_len rfl rfl rfl (by omega) rfl rfl rfl rfl) ((List.Sublist.refl _)) rfl rfl rfl ?_
    refine ExD.take (i := 12) rfl (by kernel_rfl) (fr_load rfl rfl rfl rfl (by first | exact cellN (Reads.old hl) encP_len zP 1 rfl (by omega) rfl | exact cellF (Reads.old hl) encP_len zP 1 rfl (by omega) rfl)) ((List.Sublist.refl _)) rfl rfl rfl ?_
    refine ExD.op (i := 6) rfl (by kernel_rfl) rfl (op_ret rfl rfl rfl (c_sDecimal (l.getD k zP).a (by omega)) (fun _ _ => trivial) rfl rfl (fun x2 hx2 => ⟨(List.Sublist.refl _), ?_⟩))
    refine ExD.take (i := 7) rfl (by kernel_rfl) (fr_addS (l := Lib.itoa ((l.getD k zP).a)) (r := [32]) rfl rfl rfl (by first | omega | (simp only [List.length_append, List.length_cons, List.length_nil]; omega))) ((List.Sublist.refl _)) rfl rfl rfl ?_
    refine ExD.op (i := 13) rfl (by kernel_rfl) rfl (op_ret rfl rfl rfl (c_sDecimal (l.getD k zP).b (by omega)) (fun _ _ => trivial) rfl rfl (fun x3 hx3 => ⟨(List.Sublist.refl _), ?_⟩))
    refine ExD.take (i := 14) rfl (by kernel_rfl) (fr_addS (l := (Lib.itoa ((l.getD k zP).a) ++ [32])) (r := Lib.itoa ((l.getD k zP).b)) rfl rfl rfl (by first | omega | (simp only [List.length_append, List.length_cons, List.length_nil]; omega))) ((List.Sublist.refl _)) rfl rfl rfl ?_
    refine ExD.take (i := 15) rfl (by kernel_rfl) (fr_addS (l := ((Lib.itoa ((l.getD k zP).a) ++ [32]) ++ Lib.itoa ((l.getD k zP).b))) (r := [10]) rfl rfl rfl (by first | omega | (simp only [List.length_append, List.length_cons, List.length_nil]; omega))) ((List.Sublist.refl _)) rfl rfl rfl ?_
    refine ExD.take (i := 16) rfl (by kernel_rfl) (fr_addS (l := (tText l k)) (r := (((Lib.itoa ((l.getD k zP).a) ++ [32]) ++ Lib.itoa ((l.getD k zP).b)) ++ [10])) rfl rfl rfl (by first | omega | (simp only [List.length_append, List.length_cons, List.length_nil]; omega))) ((List.Sublist.refl _)) rfl rfl rfl ?_
    refine ExD.take (i := 17) rfl (by kernel_rfl) (pureVal_ok rfl) ((List.Sublist.refl _)) rfl rfl rfl ?_
    refine ExD.done (by kernel_rfl) ?_
    refine Ex.region (ExL.pures 1 rfl ?_)
    refine ExL.free (by first | exact fr_add64 rfl rfl rfl (by omega) | exact fr_add rfl rfl rfl) rfl rfl rfl ?_
    refine ExL.pures 1 rfl ?_
    refine ExL.nil ?_
    refine Hand.mk (k + 1) 0 [] ⟨rfl, rfl, trivial⟩ ⟨rfl, rfl, trivial⟩ (rfl) rfl (by omega) (by omega)
  · refine ExL.nil ?_
    refine Ex.cond_f rfl ?_
    refine Ex.exit ?_
    obtain rfl : k = l.length := by omega
    refine Ex.regSeq (ExL.pures 2 rfl ?_)
    refine ExL.nil ?_
    refine Ex.ret ?_
    refine RetQ.mk () rfl (.tmp rfl .nil) (rfl) [] (rfl) rfl (trivial)
theorem e_5 : Enters Tryd.prog 5 := Enters.of Tryd.func5 rfl
theorem c_sTotalsText (l : List VP) (Al : Option Addr) (cl : Nat) (hll : l.length ≤ maxLen) : Ret Tryd.prog 5 [.slice Al l.length cl] (fun w => Rd w Al (l.flatMap encP)) (fun x : Unit => sv (totTx l)) (fun x => []) (fun x => True) := by
  refine Ret.of e_5 Tryd.func5 rfl Tryd.ntmps5 rfl rfl (fun w hpre => ?_)
  have hl := hpre.base
  have hm0 : maxLen = 9223372036854775807 := rfl
  refine Ex.regSeq (ExL.pures 1 rfl ?_)
  refine ExL.nil ?_
  refine Ex.seq ?_
  refine Ex.regSeq (ExL.pures 1 rfl ?_)
  refine ExL.op rfl (op_ret rfl rfl rfl (c_l06Totals l _ _ (by omega)) (Reads.get (Reads.old hl)) rfl rfl (fun x1 hx1 => ?_))
  refine ExL.pures 1 rfl ?_
  refine ExL.nil ?_
  refine Ex.cond rfl (fun hb2 => ?_) (fun hb2 => ?_)
  · replace hb2 := nb_t hb2
    refine Ex.regSeq (ExL.pures 1 rfl ?_)
    refine ExL.nil ?_
    refine Ex.ret ?_
    refine RetQ.mk () rfl (.tmp rfl .nil) (tS (by first | exact (totTx_f (by assumption)).symm | exact (totTx_t (by assumption)).symm)) [] (rfl) rfl (trivial)
  · replace hb2 := nb_f hb2
    refine Ex.skip ?_
    refine Ex.regSeq (ExL.pures 1 rfl ?_)
    refine ExL.op rfl (op_ret rfl rfl rfl (c_l06Text l _ _ (by omega) (by assumption)) (Reads.get (Reads.old hl)) rfl rfl (fun x3 hx3 => ?_))
    refine ExL.pures 1 rfl ?_
    refine ExL.nil ?_
    refine Ex.ret ?_
    refine RetQ.mk () rfl (.tmp rfl .nil) (tS (by first | exact (totTx_f (by assumption)).symm | exact (totTx_t (by assumption)).symm)) [] (rfl) rfl (trivial)
theorem e_7 : Enters Tryd.prog 7 := Enters.of Tryd.func7 rfl
theorem c_iTotalsText (l : List VP) (Al : Option Addr) (cl : Nat) (hll : l.length ≤ maxLen) : Ret Tryd.prog 7 [.slice Al l.length cl] (fun w => Rd w Al (l.flatMap encP) ∧ TabO Tryd.prog w) (fun x : Unit => sv (totTx l)) (fun x => []) (fun x => True) := by
  refine Ret.of e_7 Tryd.func7 rfl Tryd.ntmps7 rfl rfl (fun w hpre => ?_)
  have hl := hpre.1.base
  have htab := hpre.2
  have hm0 : maxLen = 9223372036854775807 := rfl
  refine Ex.regSeq (ExL.pures 1 rfl ?_)
  refine ExL.nil ?_
  refine Ex.seq ?_
  refine Ex.regSeq (ExL.pures 1 rfl ?_)
  refine ExL.op rfl (op_ret rfl rfl rfl (c_ValidTotals l _ _ (by omega)) (Reads.get (Reads.old hl)) rfl rfl (fun x1 hx1 => ?_))
  refine ExL.pures 1 rfl ?_
  refine ExL.nil ?_
  refine Ex.cond rfl (fun hb2 => ?_) (fun hb2 => ?_)
  · replace hb2 := nb_t hb2
    refine Ex.regSeq (ExL.pures 1 rfl ?_)
    refine ExL.nil ?_
    refine Ex.ret ?_
    refine RetQ.mk () rfl (.tmp rfl .nil) (tS (by first | exact (totTx_f (by assumption)).symm | exact hlast)) [] (rfl) rfl (trivial)
  · replace hb2 := nb_f hb2
    refine Ex.skip ?_
    refine Ex.regSeq (ExL.pures 0 rfl ?_)
    refine ExL.free (fr_build rfl rfl rfl rfl) rfl rfl rfl ?_
    refine ExL.op rfl (op_alloc rfl rfl rfl rfl rfl (fun b3 => ?_))
    refine ExL.op rfl (op_storeC (i := 0) rfl rfl rfl rfl rfl rfl rfl rfl rfl rfl ?_)
    refine ExL.nil ?_
    refine Ex.seq ?_
    refine Ex.nilRow 5 1 ?_
    refine Ex.regSeq (ExL.pures 3 rfl ?_)
    refine ExL.nil ?_
    refine Ex.block ?_
    refine Ex.loopK (X := BdS) (fun q => [(12, .int .i64 q.k)]) (fun q => [.blk b3 [bp b3 q.u, .slice q.A (tText l q.k).length q.c] 37, .row (.slice q.A (tText l q.k).length q.c) 5 1 (tText l q.k).length ((tText l q.k).flatMap eU)]) (fun q => q.k ≤ l.length ∧ (tText l q.k = [] → q.A = none ∧ q.c = 0)) (fun q => l.length - q.k) (⟨0, false, none, 0⟩ : BdS) [(2, _), (3, _), (10, _), (11, _)] [] 2 [1, 0] ⟨rfl, trivial⟩ ⟨rfl, rfl, rfl, rfl, trivial⟩ (rfl) rfl ⟨Nat.zero_le _, fun _ => ⟨rfl, rfl⟩⟩ (fun q hI => ?_)
    have hI : q.k ≤ l.length ∧ (tText l q.k = [] → q.A = none ∧ q.c = 0) := hI
    obtain ⟨hkq, hnil⟩ := hI
    refine Ex.regSeq (ExL.pures 0 rfl ?_)
    refine ExL.lss rfl rfl rfl rfl rfl rfl (fun h4 => ?_) (fun h4 => ?_)
    · refine ExL.nil ?_
      refine Ex.seq ?_
      refine Ex.cond_t rfl ?_
      refine Ex.skip ?_
      refine Ex.seq ?_
      refine Ex.block ?_
      have hkl : q.k < l.length := by omega
      have hT := tot (by assumption)
      have hdy := hT.day q.k (by omega)
      have hct := hT.cnt q.k (by omega)
      have hi1 := itoa_le (n := (l.getD q.k zP).a) (by omega)
      have hi2 := itoa_le (n := (l.getD q.k zP).b) (by omega)
      have htx := tText_le hT (k := q.k) (by omega)
      refine Ex.regSeq (ExL.pures 0 rfl ?_)
      refine ExL.free (fr_indexAddrF (Reads.old hl) encP_len rfl rfl rfl rfl rfl rfl (by omega)) rfl rfl rfl ?_
      refine ExL.free (fr_loadN rfl rfl rfl rfl rfl (by first | exact segN (Reads.old hl) encP_len rfl zP (by omega) | exact segF (Reads.old hl) encP_len rfl zP (by omega))) rfl rfl rfl ?_
      refine ExL.op rfl (op_alloc rfl rfl rfl rfl rfl (fun b5 => ?_))
      refine ExL.op rfl (op_storeC (i := 0) rfl rfl rfl rfl rfl rfl rfl rfl rfl rfl ?_)
      refine ExL.nil ?_
      refine Ex.drawI [0] rfl rfl ?_
      refine ExD.take (i := 0) rfl (by kernel_rfl) (pureVal_ok rfl) ((List.Sublist.cons_cons _ (List.nil_sublist _))) rfl rfl rfl ?_
      refine ExD.take (i := 1) rfl (by kernel_rfl) (fr_load rfl rfl rfl rfl (CellO.blk (i := 0) rfl rfl)) ((List.Sublist.cons_cons _ (List.nil_sublist _))) rfl rfl rfl ?_
      refine ExD.take (i := 4) rfl (by kernel_rfl) (pureVal_ok rfl) ((List.Sublist.cons_cons _ (List.nil_sublist _))) rfl rfl rfl ?_
      refine ExD.take (i := 5) rfl (by kernel_rfl) (fr_load rfl rfl rfl rfl (CellO.blk (i := 0) rfl rfl)) ((List.Sublist.cons_cons _ (List.nil_sublist _))) rfl rfl rfl ?_
      refine ExD.op (i := 2) rfl (by kernel_rfl) rfl (op_ret rfl rfl rfl (c_decimal (l.getD q.k zP).a (by omega)) (fun w hw => TabO.keep htab hw) rfl rfl (fun x6 hx6 => ⟨(List.Sublist.cons_cons _ (List.nil_sublist _)), ?_⟩))
      refine ExD.take (i := 3) rfl (by kernel_rfl) (fr_addS (l := Lib.itoa ((l.getD q.k zP).a)) (r := [32]) rfl rfl rfl (by first | omega | (simp only [List.length_append, List.length_cons, List.length_nil]; omega))) ((List.Sublist.cons_cons _ (List.nil_sublist _))) rfl rfl rfl ?_
      refine ExD.op (i := 6) rfl (by kernel_rfl) rfl (op_ret rfl rfl rfl (c_decimal (l.getD q.k zP).b (by omega)) (fun w hw => TabO.keep htab hw) rfl rfl (fun x7 hx7 => ⟨(List.Sublist.cons_cons _ (List.nil_sublist _)), ?_⟩))
      refine ExD.take (i := 7) rfl (by kernel_rfl) (fr_addS (l := (Lib.itoa ((l.getD q.k zP).a) ++ [32])) (r := Lib.itoa ((l.getD q.k zP).b)) rfl rfl rfl (by first | omega | (simp only [List.length_append, List.length_cons, List.length_nil]; omega))) ((List.Sublist.cons_cons _ (List.nil_sublist _))) rfl rfl rfl ?_
      refine ExD.take (i := 8) rfl (by kernel_rfl) (fr_addS (l := ((Lib.itoa ((l.getD q.k zP).a) ++ [32]) ++ Lib.itoa ((l.getD q.k zP).b))) (r := [10]) rfl rfl rfl (by first | omega | (simp only [List.length_append, List.length_cons, List.length_nil]; omega))) ((List.Sublist.cons_cons _ (List.nil_sublist _))) rfl rfl rfl ?_
      refine ExD.op (i := 9) rfl (by kernel_rfl) rfl (op_mut rfl rfl rfl (c_WriteString b3 q.u (tText l q.k) _ _ (((Lib.itoa ((l.getD q.k zP).a) ++ [32]) ++ Lib.itoa ((l.getD q.k zP).b)) ++ [10]) (by first | omega | (simp only [List.length_append, List.length_cons, List.length_nil]; omega))) (perm_lt (i := 1) (j := 2) rfl rfl rfl) (trivial) rfl rfl (fun x8 hx8 => ⟨(List.Sublist.cons _ (List.Sublist.cons _ (List.Sublist.refl _))), ?_⟩))
      refine ExD.done (by kernel_rfl) ?_
      refine Ex.region (ExL.pures 0 rfl ?_)
      refine ExL.free (by first | exact fr_add64 rfl rfl rfl (by omega) | exact fr_add rfl rfl rfl) rfl rfl rfl ?_
      refine ExL.pures 1 rfl ?_
      refine ExL.nil ?_
      refine Hand.mk (⟨q.k + 1, true, x8.1, x8.2⟩ : BdS) 3 [0, 1] ⟨rfl, trivial⟩ ⟨rfl, rfl, rfl, rfl, trivial⟩ (rfl) rfl (⟨by dsimp only; omega, fun h => absurd h (tText_pos (k := q.k + 1) (by omega))⟩) (by dsimp only; omega)
    · refine ExL.nil ?_
      refine Ex.seq ?_
      refine Ex.cond_f rfl ?_
      refine Ex.exit ?_
      have hkn : q.k = l.length := by omega
      have hlast : tText l q.k = totTx l := by rw [hkn]; exact (totTx_t (by assumption)).symm
      refine Ex.regSeq (ExL.pures 0 rfl ?_)
      refine ExL.op rfl (op_mut rfl rfl rfl (c_String b3 q.u (tText l q.k) _ _ (by assumption)) (perm_lt (i := 0) (j := 1) rfl rfl rfl) (trivial) rfl rfl (fun x9 hx9 => ?_))
      refine ExL.pures 1 rfl ?_
      refine ExL.nil ?_
      refine Ex.ret ?_
      refine RetQ.mk () rfl (.tmp rfl .nil) (tS (by first | exact (totTx_f (by assumption)).symm | exact hlast)) [] (rfl) rfl (trivial)
end Go.Proofs.YtlbmdndkaikchaaDoor
