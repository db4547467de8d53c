/- What these functions of the program hand back, each proved by walking its operations. -/
import Derived.Test.YthfbmkfbmmjchaaDoorProg
import Derived.Test.YthfbmkfbmmjchaaDoorFw
import Derived.Test.YthfbmkfbmmjchaaDoorGSG
import Derived.Test.YthfbmkfbmmjchaaDoorGSA
import Derived.Test.YthfbmkfbmmjchaaDoorGG
import Derived.Test.YthfbmkfbmmjchaaDoorM65
set_option linter.unusedVariables false
set_option linter.unusedSimpArgs false
set_option maxRecDepth 4000
namespace Go.Proofs.YthfbmkfbmmjchaaDoor
open Go Go.Sx Go.RowKit Go.W Go.Proofs
attribute [local irreducible] Ex ExL ExD Op1 Free RetQ MutQ Reads CellO SegO LoadsAs
theorem e_57 : Enters Tryd.prog 57 := Enters.of Tryd.func57 rfl
theorem c_l04Text (s : List Int) (hu : Nums 255 s) (As : Option Addr) (cs : Nat) (hls : s.length ≤ maxLen) (l : List VP) (Al : Option Addr) (cl : Nat) (hll : l.length ≤ maxLen) (hvl : validLog s l = true) : Ret Tryd.prog 57 [.slice As s.length cs, .slice Al l.length cl] (fun w => Rd w As (s.flatMap (eI .u8)) ∧ Rd w Al (l.flatMap encP)) (fun x : Unit => sv (lText s l l.length)) (fun x => []) (fun x => True) := by
  refine Ret.of e_57 Tryd.func57 rfl Tryd.ntmps57 rfl rfl (fun w hpre => ?_)
  have hs := hpre.1.base
  have hl := hpre.2.base
  have hvl : validLog s l = true := by assumption
  have hL := log hvl
  have hLl := hL.len
  have hvs := hL.stk
  have hS := stk hvs
  have hS1 := hS.le
  have hS3 := hS.pos
  have hS4 := hS.size_
  have hda : ∀ i, i < l.length → -9223372036854775808 ≤ (l.getD i zP).a ∧ (l.getD i zP).a ≤ 9223372036854775807 := fun i hi => by have := hL.day i hi; omega
  have hm0 : maxLen = 9223372036854775807 := rfl
  refine Ex.regSeq (ExL.pures 1 rfl ?_)
  refine ExL.nil ?_
  refine Ex.regSeq (ExL.pures 1 rfl ?_)
  refine ExL.nil ?_
  refine Ex.seq ?_
  refine Ex.regSeq (ExL.pures 1 rfl ?_)
  refine ExL.nil ?_
  refine Ex.block ?_
  refine Ex.loopK (X := Nat) (fun k => [(5, sv (lText s l k)), (6, .int .i64 k)]) (fun k => []) (fun k => k ≤ l.length) (fun k => l.length - k) 0 [(0, _), (1, _), (4, _)] [] 0 [] ⟨rfl, rfl, trivial⟩ ⟨rfl, rfl, rfl, trivial⟩ (rfl) rfl (Nat.zero_le _) (fun k hI => ?_)
  have hI : k ≤ l.length := hI
  refine Ex.seq ?_
  refine Ex.regSeq (ExL.pures 3 rfl ?_)
  refine ExL.lss rfl rfl rfl rfl rfl rfl (fun h1 => ?_) (fun h1 => ?_)
  · refine ExL.nil ?_
    refine Ex.cond_t rfl ?_
    refine Ex.skip ?_
    refine Ex.seq ?_
    refine Ex.block ?_
    have hkl : k < l.length := by omega
    have hv1 := hL.val k hkl
    have hd1 := hL.day k hkl
    have hn9 : Nums 255 (dig (digs s (l.getD k zP).b)).l := dsv_num hS _
    have hvd9 : validDig s (dig (digs s (l.getD k zP).b)).l = true := dsv_valid hS _
    have htx9 : digTx s (dig (digs s (l.getD k zP).b)).l = digT s (dsv s (l.getD k zP).b) := dsv_tx hvs _
    have hdl := dsv_le hvs (l.getD k zP).b
    have hdl2 : (digT s (dig (digs s (l.getD k zP).b)).l).length ≤ 24 := hdl
    have hdl3 : (digTx s (dig (digs s (l.getD k zP).b)).l).length ≤ 24 := by rw [htx9]; exact hdl
    have hi1 := itoa_le (n := (l.getD k zP).a) (by omega)
    have htx := lText_le (l := l) hvs (by omega) hda (k := k) (by omega)
    refine Ex.drawM rfl ?_
    refine ExD.take (i := 0) rfl (by kernel_rfl) (pureVal_ok rfl) ((List.Sublist.refl _)) rfl rfl rfl ?_
    refine ExD.take (i := 1) rfl (by kernel_rfl) (pureVal_ok rfl) ((List.Sublist.refl _)) rfl rfl rfl ?_
    refine ExD.take (i := 2) rfl (by kernel_rfl) (pureVal_ok rfl) ((List.Sublist.refl _)) rfl rfl rfl ?_
    refine ExD.take (i := 3) rfl (by kernel_rfl) (fr_indexAddrF (Reads.old hl) encP_len rfl rfl rfl rfl rfl rfl (by omega)) ((List.Sublist.refl _)) rfl rfl rfl ?_
    refine ExD.take (i := 4) rfl (by kernel_rfl) (fr_fieldAddrF (i := (↑k : Int).toNat) (Reads.old hl) encP_len rfl rfl rfl (by omega) rfl rfl rfl rfl) ((List.Sublist.refl _)) rfl rfl rfl ?_
    refine ExD.take (i := 5) rfl (by kernel_rfl) (fr_load rfl rfl rfl rfl (by first | exact cellN (Reads.old hl) encP_len zP 0 rfl (by omega) rfl | exact cellF (Reads.old hl) encP_len zP 0 rfl (by omega) rfl)) ((List.Sublist.refl _)) rfl rfl rfl ?_
    refine ExD.take (i := 8) rfl (by kernel_rfl) (pureVal_ok rfl) ((List.Sublist.refl _)) rfl rfl rfl ?_
    refine ExD.take (i := 9) rfl (by kernel_rfl) (pureVal_ok rfl) ((List.Sublist.refl _)) rfl rfl rfl ?_
    refine ExD.take (i := 10) rfl (by kernel_rfl) (pureVal_ok rfl) ((List.Sublist.refl _)) rfl rfl rfl ?_
    refine ExD.take (i := 11) rfl (by kernel_rfl) (pureVal_ok rfl) ((List.Sublist.refl _)) rfl rfl rfl ?_
    refine ExD.take (i := 12) rfl (by kernel_rfl) (fr_indexAddrF (Reads.old hl) encP_len rfl rfl rfl rfl rfl rfl (by omega)) ((List.Sublist.refl _)) rfl rfl rfl ?_
    refine ExD.take (i := 13) rfl (by kernel_rfl) (fr_fieldAddrF (i := (↑k : Int).toNat) (Reads.old hl) encP_len rfl rfl rfl (by omega) rfl rfl rfl rfl) ((List.Sublist.refl _)) rfl rfl rfl ?_
    refine ExD.take (i := 14) rfl (by kernel_rfl) (fr_load rfl rfl rfl rfl (by first | exact cellN (Reads.old hl) encP_len zP 1 rfl (by omega) rfl | exact cellF (Reads.old hl) encP_len zP 1 rfl (by omega) rfl)) ((List.Sublist.refl _)) rfl rfl rfl ?_
    refine ExD.op (i := 6) rfl (by kernel_rfl) rfl (op_ret rfl rfl rfl (c_sDecimal (l.getD k zP).a (by omega)) (fun _ _ => trivial) rfl rfl (fun x2 hx2 => ⟨(List.Sublist.refl _), ?_⟩))
    refine ExD.take (i := 7) rfl (by kernel_rfl) (fr_addS (l := Lib.itoa ((l.getD k zP).a)) (r := [32]) rfl rfl rfl (by first | omega | (simp only [List.length_append, List.length_cons, List.length_nil]; omega))) ((List.Sublist.refl _)) rfl rfl rfl ?_
    refine ExD.op (i := 15) rfl (by kernel_rfl) rfl (op_ret rfl rfl rfl (c_l01Of s (by first | assumption | simp_all) _ _ _ (by omega)) (Reads.get (Reads.old hs)) rfl rfl (fun x3 hx3 => ⟨(List.Sublist.refl _), ?_⟩))
    refine ExD.op (i := 16) rfl (by kernel_rfl) rfl (op_ret rfl rfl rfl (c_sDigitsText s (by assumption) _ _ (by omega) (dig (digs s (l.getD k zP).b)) (by assumption)) (Reads.get (Reads.old hs)) rfl rfl (fun x4 hx4 => ⟨(List.Sublist.refl _), ?_⟩))
    refine ExD.take (i := 17) rfl (by kernel_rfl) (fr_addS (l := (Lib.itoa ((l.getD k zP).a) ++ [32])) (r := (digTx s (dig (digs s (l.getD k zP).b)).l)) rfl rfl rfl (by first | omega | (simp only [List.length_append, List.length_cons, List.length_nil]; omega))) ((List.Sublist.refl _)) rfl rfl rfl ?_
    refine ExD.take (i := 18) rfl (by kernel_rfl) (fr_addS (l := ((Lib.itoa ((l.getD k zP).a) ++ [32]) ++ (digTx s (dig (digs s (l.getD k zP).b)).l))) (r := [10]) rfl rfl rfl (by first | omega | (simp only [List.length_append, List.length_cons, List.length_nil]; omega))) ((List.Sublist.refl _)) rfl rfl rfl ?_
    refine ExD.take (i := 19) rfl (by kernel_rfl) (fr_addS (l := (lText s l k)) (r := (((Lib.itoa ((l.getD k zP).a) ++ [32]) ++ (digTx s (dig (digs s (l.getD k zP).b)).l)) ++ [10])) rfl rfl rfl (by first | omega | (simp only [List.length_append, List.length_cons, List.length_nil]; omega))) ((List.Sublist.refl _)) rfl rfl rfl ?_
    refine ExD.take (i := 20) rfl (by kernel_rfl) (pureVal_ok rfl) ((List.Sublist.refl _)) rfl rfl rfl ?_
    refine ExD.done (by kernel_rfl) ?_
    refine Ex.region (ExL.pures 1 rfl ?_)
    refine ExL.free (by first | exact fr_add64 rfl rfl rfl (by omega) | exact fr_add rfl rfl rfl) rfl rfl rfl ?_
    refine ExL.pures 1 rfl ?_
    refine ExL.nil ?_
    refine Hand.mk (k + 1) 0 [] ⟨(agS (by rw [lText_s, htx9])), rfl, trivial⟩ ⟨rfl, rfl, rfl, trivial⟩ (rfl) rfl (by omega) (by omega)
  · refine ExL.nil ?_
    refine Ex.cond_f rfl ?_
    refine Ex.exit ?_
    obtain rfl : k = l.length := by omega
    refine Ex.regSeq (ExL.pures 2 rfl ?_)
    refine ExL.nil ?_
    refine Ex.ret ?_
    refine RetQ.mk () rfl (.tmp rfl .nil) (rfl) [] (rfl) rfl (trivial)
theorem e_25 : Enters Tryd.prog 25 := Enters.of Tryd.func25 rfl
theorem c_sLogText (s : List Int) (hu : Nums 255 s) (As : Option Addr) (cs : Nat) (hls : s.length ≤ maxLen) (l : List VP) (Al : Option Addr) (cl : Nat) (hll : l.length ≤ maxLen) : Ret Tryd.prog 25 [.slice As s.length cs, .slice Al l.length cl] (fun w => Rd w As (s.flatMap (eI .u8)) ∧ Rd w Al (l.flatMap encP)) (fun x : Unit => sv (logTx s l)) (fun x => []) (fun x => True) := by
  refine Ret.of e_25 Tryd.func25 rfl Tryd.ntmps25 rfl rfl (fun w hpre => ?_)
  have hs := hpre.1.base
  have hl := hpre.2.base
  have hm0 : maxLen = 9223372036854775807 := rfl
  refine Ex.regSeq (ExL.pures 1 rfl ?_)
  refine ExL.nil ?_
  refine Ex.seq ?_
  refine Ex.regSeq (ExL.pures 2 rfl ?_)
  refine ExL.op rfl (op_ret rfl rfl rfl (c_l04Ok s (by assumption) _ _ (by omega) l _ _ (by omega)) (fun w hw => ⟨Reads.get (Reads.old hs) w hw, Reads.get (Reads.old hl) w hw⟩) rfl rfl (fun x1 hx1 => ?_))
  refine ExL.pures 1 rfl ?_
  refine ExL.nil ?_
  refine Ex.cond rfl (fun hb2 => ?_) (fun hb2 => ?_)
  · replace hb2 := nb_t hb2
    refine Ex.regSeq (ExL.pures 1 rfl ?_)
    refine ExL.nil ?_
    refine Ex.ret ?_
    refine RetQ.mk () rfl (.tmp rfl .nil) (tS (by first | exact (logTx_f (by assumption)).symm | exact (logTx_t (by assumption)).symm)) [] (rfl) rfl (trivial)
  · replace hb2 := nb_f hb2
    refine Ex.skip ?_
    refine Ex.regSeq (ExL.pures 2 rfl ?_)
    refine ExL.op rfl (op_ret rfl rfl rfl (c_l04Text s (by assumption) _ _ (by omega) l _ _ (by omega) (by assumption)) (fun w hw => ⟨Reads.get (Reads.old hs) w hw, Reads.get (Reads.old hl) w hw⟩) rfl rfl (fun x3 hx3 => ?_))
    refine ExL.pures 1 rfl ?_
    refine ExL.nil ?_
    refine Ex.ret ?_
    refine RetQ.mk () rfl (.tmp rfl .nil) (tS (by first | exact (logTx_f (by assumption)).symm | exact (logTx_t (by assumption)).symm)) [] (rfl) rfl (trivial)
theorem e_27 : Enters Tryd.prog 27 := Enters.of Tryd.func27 rfl
theorem c_iLogText (s : List Int) (hu : Nums 255 s) (As : Option Addr) (cs : Nat) (hls : s.length ≤ maxLen) (l : List VP) (Al : Option Addr) (cl : Nat) (hll : l.length ≤ maxLen) : Ret Tryd.prog 27 [.slice As s.length cs, .slice Al l.length cl] (fun w => Rd w As (s.flatMap (eI .u8)) ∧ Rd w Al (l.flatMap encP) ∧ TabO Tryd.prog w) (fun x : Unit => sv (logTx s l)) (fun x => []) (fun x => True) := by
  refine Ret.of e_27 Tryd.func27 rfl Tryd.ntmps27 rfl rfl (fun w hpre => ?_)
  have hs := hpre.1.base
  have hl := hpre.2.1.base
  have htab := hpre.2.2
  have hm0 : maxLen = 9223372036854775807 := rfl
  refine Ex.regSeq (ExL.pures 1 rfl ?_)
  refine ExL.nil ?_
  refine Ex.seq ?_
  refine Ex.regSeq (ExL.pures 2 rfl ?_)
  refine ExL.op rfl (op_ret rfl rfl rfl (c_ValidLog s (by assumption) _ _ (by omega) l _ _ (by omega)) (fun w hw => ⟨Reads.get (Reads.old hs) w hw, Reads.get (Reads.old hl) w hw⟩) rfl rfl (fun x1 hx1 => ?_))
  refine ExL.pures 1 rfl ?_
  refine ExL.nil ?_
  refine Ex.cond rfl (fun hb2 => ?_) (fun hb2 => ?_)
  · replace hb2 := nb_t hb2
    refine Ex.regSeq (ExL.pures 1 rfl ?_)
    refine ExL.nil ?_
    refine Ex.ret ?_
    refine RetQ.mk () rfl (.tmp rfl .nil) (tS (by first | exact (logTx_f (by assumption)).symm | exact hlast)) [] (rfl) rfl (trivial)
  · replace hb2 := nb_f hb2
    refine Ex.skip ?_
    refine Ex.regSeq (ExL.pures 0 rfl ?_)
    refine ExL.free (fr_build rfl rfl rfl rfl) rfl rfl rfl ?_
    refine ExL.op rfl (op_alloc rfl rfl rfl rfl rfl (fun b3 => ?_))
    refine ExL.op rfl (op_storeC (i := 0) rfl rfl rfl rfl rfl rfl rfl rfl rfl rfl ?_)
    refine ExL.nil ?_
    refine Ex.seq ?_
    have hvl : validLog s l = true := by assumption
    have hL := log hvl
    have hLl := hL.len
    have hvs := hL.stk
    have hS := stk hvs
    have hS1 := hS.le
    have hS3 := hS.pos
    have hS4 := hS.size_
    have hda : ∀ i, i < l.length → -9223372036854775808 ≤ (l.getD i zP).a ∧ (l.getD i zP).a ≤ 9223372036854775807 := fun i hi => by have := hL.day i hi; omega
    refine Ex.nilRow 5 1 ?_
    refine Ex.regSeq (ExL.pures 3 rfl ?_)
    refine ExL.nil ?_
    refine Ex.block ?_
    refine Ex.loopK (X := BdS) (fun q => [(15, .int .i64 q.k)]) (fun q => [.blk b3 [bp b3 q.u, .slice q.A (lText s l q.k).length q.c] 71, .row (.slice q.A (lText s l q.k).length q.c) 5 1 (lText s l q.k).length ((lText s l q.k).flatMap eU)]) (fun q => q.k ≤ l.length ∧ (lText s l q.k = [] → q.A = none ∧ q.c = 0)) (fun q => l.length - q.k) (⟨0, false, none, 0⟩ : BdS) [(0, _), (4, _), (5, _), (13, _), (14, _)] [] 2 [1, 0] ⟨rfl, trivial⟩ ⟨rfl, rfl, rfl, rfl, rfl, trivial⟩ (rfl) rfl ⟨Nat.zero_le _, fun _ => ⟨rfl, rfl⟩⟩ (fun q hI => ?_)
    have hI : q.k ≤ l.length ∧ (lText s l q.k = [] → q.A = none ∧ q.c = 0) := hI
    obtain ⟨hkq, hnil⟩ := hI
    refine Ex.regSeq (ExL.pures 0 rfl ?_)
    refine ExL.lss rfl rfl rfl rfl rfl rfl (fun h4 => ?_) (fun h4 => ?_)
    · refine ExL.nil ?_
      refine Ex.seq ?_
      refine Ex.cond_t rfl ?_
      refine Ex.skip ?_
      refine Ex.seq ?_
      refine Ex.block ?_
      have hkl : q.k < l.length := by omega
      have hv1 := hL.val q.k hkl
      have hd1 := hL.day q.k hkl
      have hn9 : Nums 255 (dig (digs s (l.getD q.k zP).b)).l := dsv_num hS _
      have hvd9 : validDig s (dig (digs s (l.getD q.k zP).b)).l = true := dsv_valid hS _
      have htx9 : digTx s (dig (digs s (l.getD q.k zP).b)).l = digT s (dsv s (l.getD q.k zP).b) := dsv_tx hvs _
      have hdl := dsv_le hvs (l.getD q.k zP).b
      have hdl2 : (digT s (dig (digs s (l.getD q.k zP).b)).l).length ≤ 24 := hdl
      have hdl3 : (digTx s (dig (digs s (l.getD q.k zP).b)).l).length ≤ 24 := by rw [htx9]; exact hdl
      have hi1 := itoa_le (n := (l.getD q.k zP).a) (by omega)
      have htx := lText_le (l := l) hvs (by omega) hda (k := q.k) (by omega)
      refine Ex.regSeq (ExL.pures 0 rfl ?_)
      refine ExL.free (fr_indexAddrF (Reads.old hl) encP_len rfl rfl rfl rfl rfl rfl (by omega)) rfl rfl rfl ?_
      refine ExL.free (fr_loadN rfl rfl rfl rfl rfl (by first | exact segN (Reads.old hl) encP_len rfl zP (by omega) | exact segF (Reads.old hl) encP_len rfl zP (by omega))) rfl rfl rfl ?_
      refine ExL.op rfl (op_alloc rfl rfl rfl rfl rfl (fun b5 => ?_))
      refine ExL.op rfl (op_storeC (i := 0) rfl rfl rfl rfl rfl rfl rfl rfl rfl rfl ?_)
      refine ExL.nil ?_
      refine Ex.drawI [0] rfl rfl ?_
      refine ExD.take (i := 0) rfl (by kernel_rfl) (pureVal_ok rfl) ((List.Sublist.cons_cons _ (List.nil_sublist _))) rfl rfl rfl ?_
      refine ExD.take (i := 1) rfl (by kernel_rfl) (fr_load rfl rfl rfl rfl (CellO.blk (i := 0) rfl rfl)) ((List.Sublist.cons_cons _ (List.nil_sublist _))) rfl rfl rfl ?_
      refine ExD.take (i := 4) rfl (by kernel_rfl) (pureVal_ok rfl) ((List.Sublist.cons_cons _ (List.nil_sublist _))) rfl rfl rfl ?_
      refine ExD.take (i := 5) rfl (by kernel_rfl) (pureVal_ok rfl) ((List.Sublist.cons_cons _ (List.nil_sublist _))) rfl rfl rfl ?_
      refine ExD.take (i := 6) rfl (by kernel_rfl) (pureVal_ok rfl) ((List.Sublist.cons_cons _ (List.nil_sublist _))) rfl rfl rfl ?_
      refine ExD.take (i := 7) rfl (by kernel_rfl) (fr_load rfl rfl rfl rfl (CellO.blk (i := 0) rfl rfl)) ((List.Sublist.cons_cons _ (List.nil_sublist _))) rfl rfl rfl ?_
      refine ExD.op (i := 2) rfl (by kernel_rfl) rfl (op_ret rfl rfl rfl (c_decimal (l.getD q.k zP).a (by omega)) (fun w hw => TabO.keep htab hw) rfl rfl (fun x6 hx6 => ⟨(List.Sublist.cons_cons _ (List.nil_sublist _)), ?_⟩))
      refine ExD.take (i := 3) rfl (by kernel_rfl) (fr_addS (l := Lib.itoa ((l.getD q.k zP).a)) (r := [32]) rfl rfl rfl (by first | omega | (simp only [List.length_append, List.length_cons, List.length_nil]; omega))) ((List.Sublist.cons_cons _ (List.nil_sublist _))) rfl rfl rfl ?_
      refine ExD.op (i := 8) rfl (by kernel_rfl) rfl (op_ret rfl rfl rfl (c_digits s (by first | assumption | simp_all) _ _ _ (by omega)) (Reads.get (Reads.old hs)) rfl rfl (fun x7 hx7 => ⟨(List.Sublist.cons_cons _ (List.nil_sublist _)), ?_⟩))
      refine ExD.op (i := 9) rfl (by kernel_rfl) rfl (op_ret rfl rfl rfl (c_text s (by first | assumption | simp_all) _ _ (dig (digs s (l.getD q.k zP).b)) (by assumption) (by first | assumption | simp_all)) (fun w hw => ⟨Reads.get (Reads.old hs) w hw, TabO.keep htab hw⟩) rfl rfl (fun x8 hx8 => ⟨(List.Sublist.cons_cons _ (List.nil_sublist _)), ?_⟩))
      refine ExD.take (i := 10) rfl (by kernel_rfl) (fr_addS (l := (Lib.itoa ((l.getD q.k zP).a) ++ [32])) (r := (digT s (dig (digs s (l.getD q.k zP).b)).l)) rfl rfl rfl (by first | omega | (simp only [List.length_append, List.length_cons, List.length_nil]; omega))) ((List.Sublist.cons_cons _ (List.nil_sublist _))) rfl rfl rfl ?_
      refine ExD.take (i := 11) rfl (by kernel_rfl) (fr_addS (l := ((Lib.itoa ((l.getD q.k zP).a) ++ [32]) ++ (digT s (dig (digs s (l.getD q.k zP).b)).l))) (r := [10]) rfl rfl rfl (by first | omega | (simp only [List.length_append, List.length_cons, List.length_nil]; omega))) ((List.Sublist.cons_cons _ (List.nil_sublist _))) rfl rfl rfl ?_
      refine ExD.op (i := 12) rfl (by kernel_rfl) rfl (op_mut rfl rfl rfl (c_WriteString b3 q.u (lText s l q.k) _ _ (((Lib.itoa ((l.getD q.k zP).a) ++ [32]) ++ (digT s (dig (digs s (l.getD q.k zP).b)).l)) ++ [10]) (by first | omega | (simp only [List.length_append, List.length_cons, List.length_nil]; omega))) (perm_lt (i := 1) (j := 2) rfl rfl rfl) (trivial) rfl rfl (fun x9 hx9 => ⟨(List.Sublist.cons _ (List.Sublist.cons _ (List.Sublist.refl _))), ?_⟩))
      refine ExD.done (by kernel_rfl) ?_
      refine Ex.region (ExL.pures 0 rfl ?_)
      refine ExL.free (by first | exact fr_add64 rfl rfl rfl (by omega) | exact fr_add rfl rfl rfl) rfl rfl rfl ?_
      refine ExL.pures 1 rfl ?_
      refine ExL.nil ?_
      refine Hand.mk (⟨q.k + 1, true, x9.1, x9.2⟩ : BdS) 3 [0, 1] ⟨rfl, trivial⟩ ⟨rfl, rfl, rfl, rfl, rfl, trivial⟩ (rfl) rfl (⟨by dsimp only; omega, fun h => absurd h (lText_pos (k := q.k + 1) (by omega))⟩) (by dsimp only; omega)
    · refine ExL.nil ?_
      refine Ex.seq ?_
      refine Ex.cond_f rfl ?_
      refine Ex.exit ?_
      have hkn : q.k = l.length := by omega
      have hlast : lText s l q.k = logTx s l := by rw [hkn]; exact (logTx_t (by assumption)).symm
      refine Ex.regSeq (ExL.pures 0 rfl ?_)
      refine ExL.op rfl (op_mut rfl rfl rfl (c_String b3 q.u (lText s l q.k) _ _ (by assumption)) (perm_lt (i := 0) (j := 1) rfl rfl rfl) (trivial) rfl rfl (fun x10 hx10 => ?_))
      refine ExL.pures 1 rfl ?_
      refine ExL.nil ?_
      refine Ex.ret ?_
      refine RetQ.mk () rfl (.tmp rfl .nil) (tS (by first | exact (logTx_f (by assumption)).symm | exact hlast)) [] (rfl) rfl (trivial)
end Go.Proofs.YthfbmkfbmmjchaaDoor
