/- What these functions of the program hand back, each proved by walking its operations. -/
import Derived.Test.YthfbmkfbmmjchaaDoorProg
import Derived.Test.YthfbmkfbmmjchaaDoorFw
import Derived.Test.YthfbmkfbmmjchaaDoorGSF
import Derived.Test.YthfbmkfbmmjchaaDoorGPC
import Derived.Test.YthfbmkfbmmjchaaDoorM66
set_option linter.unusedVariables false
set_option linter.unusedSimpArgs false
set_option maxRecDepth 4000
namespace Go.Proofs.YthfbmkfbmmjchaaDoor
open Go Go.Sx Go.RowKit Go.W Go.Proofs
attribute [local irreducible] Ex ExL ExD Op1 Free RetQ MutQ Reads CellO SegO LoadsAs
theorem e_44 : Enters Tryd.prog 44 := Enters.of Tryd.func44 rfl
theorem c_Itoa (n : Int) (hn : -9223372036854775808 ≤ n ∧ n ≤ 9223372036854775807) : Ret Tryd.prog 44 [.int .i64 n] (fun w => TabO Tryd.prog w) (fun _ : Unit => sv (Lib.itoa n)) (fun _ => []) (fun _ => True) :=
  ⟨e_44, fun w ht => (Go.Proofs.Tryd.strconv_Itoa n hn.1 hn.2 w ht).mono (by rintro e w' ⟨rfl, q, os, rfl⟩; exact ⟨(), trivial, rfl, below_grw w q os, by simp, List.Pairwise.nil⟩)⟩
theorem e_71 : Enters Tryd.prog 71 := Enters.of Tryd.func71 rfl
theorem c_l05Wheel (m : VMk) (hm : OkMk m) (b : Int) (hb : 2 ≤ b ∧ b ≤ 100) (hlt : ∀ d, d < 128 → hasM m d = true → (d : Int) < b) : Ret Tryd.prog 71 [.agg (encMk m).toArray, .int .u8 b] (fun w => True) (fun x : Unit => sv (wheelT m b)) (fun x => []) (fun x => True) := by
  refine Ret.of e_71 Tryd.func71 rfl Tryd.ntmps71 rfl rfl (fun w hpre => ?_)
  refine Ex.regSeq (ExL.pures 0 rfl ?_)
  refine ExL.op rfl (op_box rfl rfl rfl rfl rfl (fun b1 => ?_))
  refine ExL.pures 1 rfl ?_
  refine ExL.nil ?_
  refine Ex.seq ?_
  refine Ex.drawSeqM rfl ?_
  refine ExD.take (i := 0) rfl (by kernel_rfl) (fr_loadN rfl rfl rfl rfl rfl (SegO.whole (i := 0) rfl)) ((List.Sublist.refl _)) rfl rfl rfl ?_
  refine ExD.take (i := 1) rfl (by kernel_rfl) (pureVal_ok rfl) ((List.Sublist.refl _)) rfl rfl rfl ?_
  refine ExD.op (i := 2) rfl (by kernel_rfl) rfl (op_ret rfl rfl rfl (c_l05Full b (by omega)) (fun _ _ => trivial) rfl rfl (fun x2 hx2 => ⟨(List.Sublist.refl _), ?_⟩))
  refine ExD.take (i := 3) rfl (by kernel_rfl) (fr_eql_ints m.l (fullM (b).toNat).l rfl rfl rfl rfl rfl rfl rfl rfl rfl rfl) ((List.Sublist.refl _)) rfl rfl rfl ?_
  refine ExD.done (by kernel_rfl) ?_
  refine Ex.cond rfl (fun hb3 => ?_) (fun hb3 => ?_)
  · refine Ex.regSeq (ExL.pures 1 rfl ?_)
    refine ExL.nil ?_
    refine Ex.ret ?_
    refine RetQ.mk () rfl (.tmp rfl .nil) (tS (by first | exact (if_pos (of_decide_eq_true (by assumption))).symm | (rw [show wheelT m b = marksT m 128 from if_neg (of_decide_eq_false (by assumption))]; exact marksT_end (b := k) (by omega) (fun d hd hh => by have := hlt d hd hh; omega)))) [] (rfl) rfl (trivial)
  · refine Ex.skip ?_
    refine Ex.regSeq (ExL.pures 1 rfl ?_)
    refine ExL.nil ?_
    refine Ex.seq ?_
    refine Ex.regSeq (ExL.pures 1 rfl ?_)
    refine ExL.nil ?_
    refine Ex.block ?_
    refine Ex.loopK (X := Nat) (fun k => [(5, sv (marksT m k)), (6, .int .i64 k)]) (fun k => []) (fun k => (k : Int) ≤ b) (fun k => b.toNat - k) 0 [(1, _), (2, _), (4, _)] [_] 1 [0] ⟨rfl, rfl, trivial⟩ ⟨rfl, rfl, rfl, trivial⟩ (rfl) rfl (by omega) (fun k hI => ?_)
    have hI : (k : Int) ≤ b := hI
    refine Ex.seq ?_
    refine Ex.regSeq (ExL.pures 2 rfl ?_)
    refine ExL.free (by first | exact fr_conv64 rfl rfl rfl rfl (by omega) | exact fr_conv rfl rfl rfl rfl) rfl rfl rfl ?_
    refine ExL.lss rfl rfl rfl rfl rfl rfl (fun h4 => ?_) (fun h4 => ?_)
    · refine ExL.nil ?_
      refine Ex.cond_t rfl ?_
      refine Ex.skip ?_
      refine Ex.seq ?_
      refine Ex.block ?_
      have hml := marksT_le (m := m) (k := k) (by omega)
      have hik := itoa_le (n := (k : Int)) (by omega)
      refine Ex.seq ?_
      refine Ex.regSeq (ExL.pures 0 rfl ?_)
      refine ExL.free (fr_loadN rfl rfl rfl rfl rfl (SegO.whole (i := 0) rfl)) rfl rfl rfl ?_
      refine ExL.pures 1 rfl ?_
      refine ExL.op rfl (op_ret rfl rfl rfl (c_l05Has m hm _ (by omega)) (fun _ _ => trivial) rfl rfl (fun x5 hx5 => ?_))
      refine ExL.pures 1 rfl ?_
      refine ExL.nil ?_
      refine Ex.cond rfl (fun hb6 => ?_) (fun hb6 => ?_)
      · replace hb6 := nb_t hb6
        refine Ex.exit ?_
        refine Ex.region (ExL.pures 1 rfl ?_)
        refine ExL.free (by first | exact fr_add64 rfl rfl rfl (by omega) | exact fr_add rfl rfl rfl) rfl rfl rfl ?_
        refine ExL.pures 1 rfl ?_
        refine ExL.nil ?_
        refine Hand.mk (k + 1) 1 [0] ⟨(agS (by first | exact (marksT_n (k := k) (by simp_all)).symm | exact (marksT_y0 (k := k) (by simp_all) (by assumption)).symm | exact (marksT_y1 (k := k) (by simp_all) (by assumption)).symm)), rfl, trivial⟩ ⟨rfl, rfl, rfl, trivial⟩ (rfl) rfl (by omega) (by omega)
      · replace hb6 := nb_f hb6
        refine Ex.skip ?_
        refine Ex.seq ?_
        refine Ex.regSeq (ExL.pures 1 rfl ?_)
        refine ExL.free (fr_neqS (l := (marksT m k)) (r := []) rfl rfl rfl) rfl rfl rfl ?_
        refine ExL.nil ?_
        refine Ex.cond rfl (fun hb7 => ?_) (fun hb7 => ?_)
        · replace hb7 := nd_t hb7
          refine Ex.region (ExL.pures 1 rfl ?_)
          refine ExL.free (fr_addS (l := (marksT m k)) (r := [124]) rfl rfl rfl (by first | omega | (simp only [List.length_append, List.length_cons, List.length_nil]; omega))) rfl rfl rfl ?_
          refine ExL.pures 1 rfl ?_
          refine ExL.nil ?_
          refine Ex.region (ExL.pures 2 rfl ?_)
          refine ExL.op rfl (op_ret rfl rfl rfl (c_sDecimal ↑k (by omega)) (fun _ _ => trivial) rfl rfl (fun x8 hx8 => ?_))
          refine ExL.free (fr_addS (l := ((marksT m k) ++ [124])) (r := Lib.itoa (↑k)) rfl rfl rfl (by first | omega | (simp only [List.length_append, List.length_cons, List.length_nil]; omega))) rfl rfl rfl ?_
          refine ExL.pures 1 rfl ?_
          refine ExL.nil ?_
          refine Ex.region (ExL.pures 1 rfl ?_)
          refine ExL.free (by first | exact fr_add64 rfl rfl rfl (by omega) | exact fr_add rfl rfl rfl) rfl rfl rfl ?_
          refine ExL.pures 1 rfl ?_
          refine ExL.nil ?_
          refine Hand.mk (k + 1) 1 [0] ⟨(agS (by first | exact (marksT_n (k := k) (by simp_all)).symm | exact (marksT_y0 (k := k) (by simp_all) (by assumption)).symm | exact (marksT_y1 (k := k) (by simp_all) (by assumption)).symm)), rfl, trivial⟩ ⟨rfl, rfl, rfl, trivial⟩ (rfl) rfl (by omega) (by omega)
        · replace hb7 := nd_f hb7
          refine Ex.skip ?_
          refine Ex.region (ExL.pures 2 rfl ?_)
          refine ExL.op rfl (op_ret rfl rfl rfl (c_sDecimal ↑k (by omega)) (fun _ _ => trivial) rfl rfl (fun x9 hx9 => ?_))
          refine ExL.free (fr_addS (l := (marksT m k)) (r := Lib.itoa (↑k)) rfl rfl rfl (by first | omega | (simp only [List.length_append, List.length_cons, List.length_nil]; omega))) rfl rfl rfl ?_
          refine ExL.pures 1 rfl ?_
          refine ExL.nil ?_
          refine Ex.region (ExL.pures 1 rfl ?_)
          refine ExL.free (by first | exact fr_add64 rfl rfl rfl (by omega) | exact fr_add rfl rfl rfl) rfl rfl rfl ?_
          refine ExL.pures 1 rfl ?_
          refine ExL.nil ?_
          refine Hand.mk (k + 1) 1 [0] ⟨(agS (by first | exact (marksT_n (k := k) (by simp_all)).symm | exact (marksT_y0 (k := k) (by simp_all) (by assumption)).symm | exact (marksT_y1 (k := k) (by simp_all) (by assumption)).symm)), rfl, trivial⟩ ⟨rfl, rfl, rfl, trivial⟩ (rfl) rfl (by omega) (by omega)
    · refine ExL.nil ?_
      refine Ex.cond_f rfl ?_
      refine Ex.exit ?_
      have hkb : (k : Int) = b := by omega
      refine Ex.regSeq (ExL.pures 2 rfl ?_)
      refine ExL.nil ?_
      refine Ex.ret ?_
      refine RetQ.mk () rfl (.tmp rfl .nil) (tS (by first | exact (if_pos (of_decide_eq_true (by assumption))).symm | (rw [show wheelT m b = marksT m 128 from if_neg (of_decide_eq_false (by assumption))]; exact marksT_end (b := k) (by omega) (fun d hd hh => by have := hlt d hd hh; omega)))) [] (rfl) rfl (trivial)
theorem e_38 : Enters Tryd.prog 38 := Enters.of Tryd.func38 rfl
theorem c_l05Text (s : List Int) (As : Option Addr) (cs : Nat) (p : VPh) (hp : OkPh p) (hvp : validPh s p = true) (b q : Nat) : Ret Tryd.prog 38 [.slice As s.length cs, .pointer (some ⟨b, q, none⟩)] (fun w => Rd w As (s.flatMap (eI .u8)) ∧ Rd w (some ⟨b, q, none⟩) (encPh p)) (fun x : Unit => sv (phT s p.l)) (fun x => []) (fun x => True) := by
  refine Ret.of e_38 Tryd.func38 rfl Tryd.ntmps38 rfl rfl (fun w hpre => ?_)
  have hpt := hpre.2.base
  have hs := hpre.1.base
  obtain ⟨hvs, hS, hP⟩ := vph hp hvp
  have h8 := hS.len8
  have hm0 : maxLen = 9223372036854775807 := rfl
  refine Ex.regSeq (ExL.pures 1 rfl ?_)
  refine ExL.nil ?_
  refine Ex.regSeq (ExL.pures 1 rfl ?_)
  refine ExL.nil ?_
  refine Ex.seq ?_
  refine Ex.regSeq (ExL.pures 2 rfl ?_)
  refine ExL.free (by first | exact fr_sub64 rfl rfl rfl (by omega) | exact fr_sub rfl rfl rfl) rfl rfl rfl ?_
  refine ExL.pures 1 rfl ?_
  refine ExL.nil ?_
  refine Ex.block ?_
  refine Ex.loopK (X := Nat) (fun k => [(5, sv (sepT (wpart s p.l) [58] s.length k)), (6, .int .i64 ((s.length : Int) - 1 - k))]) (fun k => []) (fun k => k ≤ s.length) (fun k => s.length - k) 0 [(0, _), (1, _), (4, _)] [] 0 [] ⟨rfl, agI (by simp), trivial⟩ ⟨rfl, rfl, rfl, trivial⟩ (rfl) rfl (Nat.zero_le _) (fun k hI => ?_)
  have hI : k ≤ s.length := hI
  refine Ex.seq ?_
  refine Ex.regSeq (ExL.pures 1 rfl ?_)
  refine ExL.geq rfl rfl rfl rfl rfl rfl (fun h1 => ?_) (fun h1 => ?_)
  · refine ExL.nil ?_
    refine Ex.cond_t rfl ?_
    refine Ex.skip ?_
    refine Ex.seq ?_
    refine Ex.block ?_
    have hkl : k < s.length := by omega
    obtain ⟨j, hj⟩ : ∃ j : Nat, (s.length : Int) - 1 - k = (j : Int) := ⟨s.length - 1 - k, by omega⟩
    rw [hj]
    have hjj : s.length - 1 - k = j := by omega
    have hjs : j < s.length := by omega
    have hbj := hS.bases j hjs
    have hwp : wheelT (p.l.getD j zMk) (s.getD j 0) = wpart s p.l k := by unfold wpart; rw [hjj]
    have hwl := wheelT_le (m := p.l.getD j zMk) (b := s.getD j 0)
    have hsl := sepW_le (l := p.l) hS (k := k) (by omega)
    refine Ex.drawSeqM rfl ?_
    refine ExD.take (i := 0) rfl (by kernel_rfl) (pureVal_ok rfl) ((List.Sublist.refl _)) rfl rfl rfl ?_
    refine ExD.take (i := 1) rfl (by kernel_rfl) (pureVal_ok rfl) ((List.Sublist.refl _)) rfl rfl rfl ?_
    refine ExD.take (i := 2) rfl (by kernel_rfl) (pureVal_ok rfl) ((List.Sublist.refl _)) rfl rfl rfl ?_
    refine ExD.take (i := 3) rfl (by kernel_rfl) (pureVal_ok rfl) ((List.Sublist.refl _)) rfl rfl rfl ?_
    refine ExD.take (i := 4) rfl (by kernel_rfl) (fr_indexAddr_b (sz := 2) rfl rfl rfl rfl rfl (by omega)) ((List.Sublist.refl _)) rfl rfl rfl ?_
    refine ExD.take (i := 5) rfl (by kernel_rfl) (fr_loadN rfl rfl rfl rfl rfl (segOld (Reads.old hpt) encMk_len zMk rfl (by rw [ph_len]; omega))) ((List.Sublist.refl _)) rfl rfl rfl ?_
    refine ExD.take (i := 6) rfl (by kernel_rfl) (pureVal_ok rfl) ((List.Sublist.refl _)) rfl rfl rfl ?_
    refine ExD.take (i := 7) rfl (by kernel_rfl) (pureVal_ok rfl) ((List.Sublist.refl _)) rfl rfl rfl ?_
    refine ExD.take (i := 8) rfl (by kernel_rfl) (fr_indexAddrF (Reads.old hs) (eI_len .u8) rfl rfl rfl rfl rfl rfl (by omega)) ((List.Sublist.refl _)) rfl rfl rfl ?_
    refine ExD.take (i := 9) rfl (by kernel_rfl) (fr_load rfl rfl rfl rfl (by first | exact cellN (Reads.old hs) (eI_len .u8) 0 0 rfl (by omega) rfl | exact cellF (Reads.old hs) (eI_len .u8) 0 0 rfl (by omega) rfl)) ((List.Sublist.refl _)) rfl rfl rfl ?_
    refine ExD.op (i := 10) rfl (by kernel_rfl) rfl (op_ret rfl rfl rfl (c_l05Wheel (p.l.getD j zMk) (hp j (by omega)) (s.getD j 0) (by omega) (hP.lt j hjs)) (fun _ _ => trivial) rfl rfl (fun x2 hx2 => ⟨(List.Sublist.refl _), ?_⟩))
    refine ExD.take (i := 11) rfl (by kernel_rfl) (fr_addS (l := (sepT (wpart s p.l) [58] s.length k)) (r := (wheelT (p.l.getD j zMk) (s.getD j 0))) rfl rfl rfl (by first | omega | (simp only [List.length_append, List.length_cons, List.length_nil]; omega))) ((List.Sublist.refl _)) rfl rfl rfl ?_
    refine ExD.take (i := 12) rfl (by kernel_rfl) (pureVal_ok rfl) ((List.Sublist.refl _)) rfl rfl rfl ?_
    refine ExD.done (by kernel_rfl) ?_
    refine Ex.regSeq (ExL.pures 1 rfl ?_)
    refine ExL.gtr rfl rfl rfl rfl rfl rfl (fun h3 => ?_) (fun h3 => ?_)
    · refine ExL.nil ?_
      refine Ex.cond_t rfl ?_
      refine Ex.region (ExL.pures 1 rfl ?_)
      refine ExL.free (fr_addS (l := ((sepT (wpart s p.l) [58] s.length k) ++ (wheelT (p.l.getD j zMk) (s.getD j 0)))) (r := [58]) rfl rfl rfl (by first | omega | (simp only [List.length_append, List.length_cons, List.length_nil]; omega))) rfl rfl rfl ?_
      refine ExL.pures 1 rfl ?_
      refine ExL.nil ?_
      refine Ex.region (ExL.pures 1 rfl ?_)
      refine ExL.free (by first | exact fr_sub64 rfl rfl rfl (by omega) | exact fr_sub rfl rfl rfl) rfl rfl rfl ?_
      refine ExL.pures 1 rfl ?_
      refine ExL.nil ?_
      refine Hand.mk (k + 1) 0 [] ⟨(agS (by first | (rw [hwp, sepT_s (by omega)]; done) | (rw [hwp, sepT_l (by omega)]; done))), agI (by omega), trivial⟩ ⟨rfl, rfl, rfl, trivial⟩ (rfl) rfl (by omega) (by omega)
    · refine ExL.nil ?_
      refine Ex.cond_f rfl ?_
      refine Ex.skip ?_
      refine Ex.region (ExL.pures 1 rfl ?_)
      refine ExL.free (by first | exact fr_sub64 rfl rfl rfl (by omega) | exact fr_sub rfl rfl rfl) rfl rfl rfl ?_
      refine ExL.pures 1 rfl ?_
      refine ExL.nil ?_
      refine Hand.mk (k + 1) 0 [] ⟨(agS (by first | (rw [hwp, sepT_s (by omega)]; done) | (rw [hwp, sepT_l (by omega)]; done))), agI (by omega), trivial⟩ ⟨rfl, rfl, rfl, trivial⟩ (rfl) rfl (by omega) (by omega)
  · refine ExL.nil ?_
    refine Ex.cond_f rfl ?_
    refine Ex.exit ?_
    obtain rfl : k = s.length := by omega
    refine Ex.regSeq (ExL.pures 2 rfl ?_)
    refine ExL.nil ?_
    refine Ex.ret ?_
    refine RetQ.mk () rfl (.tmp rfl .nil) (tS sepT_end) [] (rfl) rfl (trivial)
theorem e_13 : Enters Tryd.prog 13 := Enters.of Tryd.func13 rfl
theorem c_sPhotoText (s : List Int) (hu : Nums 255 s) (As : Option Addr) (cs : Nat) (hls : s.length ≤ maxLen) (p : VPh) (hp : OkPh p) : Ret Tryd.prog 13 [.slice As s.length cs, .agg (encPh p).toArray] (fun w => Rd w As (s.flatMap (eI .u8))) (fun x : Unit => sv (phTx s p)) (fun x => []) (fun x => True) := by
  refine Ret.of e_13 Tryd.func13 rfl Tryd.ntmps13 rfl rfl (fun w hpre => ?_)
  have hs := hpre.base
  have hm0 : maxLen = 9223372036854775807 := rfl
  refine Ex.regSeq (ExL.pures 0 rfl ?_)
  refine ExL.op rfl (op_box rfl rfl rfl rfl rfl (fun b1 => ?_))
  refine ExL.pures 1 rfl ?_
  refine ExL.nil ?_
  refine Ex.seq ?_
  refine Ex.regSeq (ExL.pures 1 rfl ?_)
  refine ExL.free (fr_loadN rfl rfl rfl rfl rfl (SegO.whole (i := 0) rfl)) rfl rfl rfl ?_
  refine ExL.op rfl (op_ret rfl rfl rfl (c_sValidPhoto s (by assumption) _ _ (by omega) p hp) (Reads.get (Reads.old hs)) rfl rfl (fun x2 hx2 => ?_))
  refine ExL.pures 1 rfl ?_
  refine ExL.nil ?_
  refine Ex.cond rfl (fun hb3 => ?_) (fun hb3 => ?_)
  · replace hb3 := nb_t hb3
    refine Ex.regSeq (ExL.pures 1 rfl ?_)
    refine ExL.nil ?_
    refine Ex.ret ?_
    refine RetQ.mk () rfl (.tmp rfl .nil) (tS (by first | exact (phTx_f (by assumption)).symm | exact (phTx_t (by assumption)).symm)) [] (rfl) rfl (trivial)
  · replace hb3 := nb_f hb3
    refine Ex.skip ?_
    refine Ex.regSeq (ExL.pures 1 rfl ?_)
    refine ExL.op rfl (op_ret rfl rfl rfl (c_l05Text s _ _ p hp (by assumption) _ _) (fun w hw => ⟨Reads.get (Reads.old hs) w hw, Reads.get (Reads.blk (i := 0) rfl) w hw⟩) rfl rfl (fun x4 hx4 => ?_))
    refine ExL.pures 1 rfl ?_
    refine ExL.nil ?_
    refine Ex.ret ?_
    refine RetQ.mk () rfl (.tmp rfl .nil) (tS (by first | exact (phTx_f (by assumption)).symm | exact (phTx_t (by assumption)).symm)) [] (rfl) rfl (trivial)
theorem e_16 : Enters Tryd.prog 16 := Enters.of Tryd.func16 rfl
set_option maxHeartbeats 1000000 in
theorem c_iPhotoText (s : List Int) (hu : Nums 255 s) (As : Option Addr) (cs : Nat) (hls : s.length ≤ maxLen) (p : VPh) (hp : OkPh p) : Ret Tryd.prog 16 [.slice As s.length cs, .agg (encPh p).toArray] (fun w => Rd w As (s.flatMap (eI .u8)) ∧ TabO Tryd.prog w) (fun x : Unit => sv (phTx s p)) (fun x => []) (fun x => True) := by
  refine Ret.of e_16 Tryd.func16 rfl Tryd.ntmps16 rfl rfl (fun w hpre => ?_)
  have hs := hpre.1.base
  have htab := hpre.2.base
  have hm0 : maxLen = 9223372036854775807 := rfl
  refine Ex.regSeq (ExL.pures 0 rfl ?_)
  refine ExL.op rfl (op_box rfl rfl rfl rfl rfl (fun b1 => ?_))
  refine ExL.pures 1 rfl ?_
  refine ExL.nil ?_
  refine Ex.seq ?_
  refine Ex.regSeq (ExL.pures 1 rfl ?_)
  refine ExL.free (fr_loadN rfl rfl rfl rfl rfl (SegO.whole (i := 0) rfl)) rfl rfl rfl ?_
  refine ExL.op rfl (op_ret rfl rfl rfl (c_iValidPhoto s (by assumption) _ _ (by omega) p hp) (Reads.get (Reads.old hs)) rfl rfl (fun x2 hx2 => ?_))
  refine ExL.pures 1 rfl ?_
  refine ExL.nil ?_
  refine Ex.cond rfl (fun hb3 => ?_) (fun hb3 => ?_)
  · replace hb3 := nb_t hb3
    refine Ex.regSeq (ExL.pures 1 rfl ?_)
    refine ExL.nil ?_
    refine Ex.ret ?_
    refine RetQ.mk () rfl (.tmp rfl .nil) (tS (by first | exact (phTx_f (by assumption)).symm | exact (phTx_t (by assumption)).symm)) [] (rfl) rfl (trivial)
  · replace hb3 := nb_f hb3
    refine Ex.skip ?_
    have hvp := (by assumption : validPh s p = true)
    obtain ⟨hvs, hS, hP⟩ := vph hp hvp
    have h8 := hS.len8
    refine Ex.regSeq (ExL.pures 0 rfl ?_)
    refine ExL.op rfl (op_buildSlice (sz := 1) rfl rfl rfl rfl rfl rfl rfl rfl (by decide) rfl rfl rfl (fun r4 => ?_))
    refine ExL.op rfl (op_alloc rfl rfl rfl rfl rfl (fun b5 => ?_))
    refine ExL.op rfl (op_storeC (i := 0) rfl rfl rfl rfl rfl rfl rfl rfl rfl rfl ?_)
    refine ExL.nil ?_
    refine ExT.seq ?_
    refine ExT.reg (ExL.pures 1 rfl ?_)
    refine ExL.op rfl (op_ret rfl rfl rfl (c_Back s _ _) (fun _ _ => trivial) rfl rfl (fun x6 hx6 => ?_))
    refine ExL.nil ?_
    refine Ex.rangeKX (X := Option Addr × Nat) (N := s.length) (encs := fun k => [.int .i64 ((s.length - 1 - k : Nat) : Int), .int .u8 (s.getD (s.length - 1 - k) 0)]) (fun k => [(6, .int .i64 ((s.length - 1 - k : Nat) : Int)), (7, .int .u8 (s.getD (s.length - 1 - k) 0))]) (fun k q => [.blk b5 [.slice q.1 k q.2] 82, .row (.slice q.1 k q.2) 9 1 k ((partsF (wpart s p.l) k).flatMap eSt)]) (fun k q => True) ((some ⟨r4, 0, none⟩), 0) [(3, _), (5, _)] [_] 4 [0, 1, 2, 3] rfl (c_back1X s As cs (by omega) _ _ _ hs) (fun _ => rfl) rfl rfl rfl (rfl) rfl (trivial) ⟨rfl, rfl, trivial⟩ (fun l k W q hk hI hW => ?_) (fun l k W q hk hI hW => ?_) (fun D W q hI hW => ?_)
    · have hs := hs.keep hW
      have htab := htab.keep hW
      refine Ex.regSeq (ExL.pures 1 rfl ?_)
      refine ExL.nil ?_
      refine Ex.region (ExL.pures 1 rfl ?_)
      refine ExL.nil ?_
      exact ⟨rfl, ⟨rfl, rfl, rfl, rfl, trivial⟩, rfl⟩
    · have hs := hs.keep hW
      have htab := htab.keep hW
      obtain ⟨j, hj⟩ : ∃ j : Nat, s.length - 1 - k = j := ⟨_, rfl⟩
      have hjs : j < s.length := by omega
      rw [hj]
      have hbj := hS.bases j hjs
      have hmj := hp j (by omega)
      have hlt := hP.lt j hjs
      have hw1 : cntM (p.l.getD j zMk) = s.getD j 0 → wpart s p.l k = [63] := fun h => by unfold wpart; rw [hj]; exact wheel_y hmj (by omega) hlt h
      have hw2 : ¬ cntM (p.l.getD j zMk) = s.getD j 0 → wpart s p.l k = Lib.join (strsP (digI (p.l.getD j zMk)) (digI (p.l.getD j zMk)).length) [124] := fun h => by unfold wpart; rw [hj, strs_join]; exact wheel_n hmj (by omega) hlt h
      have hdl := digI_len' (p.l.getD j zMk)
      refine Ex.block ?_
      refine Ex.seq ?_
      refine Ex.regSeq (ExL.pures 1 rfl ?_)
      refine ExL.free (fr_indexAddr_b (sz := 2) rfl rfl rfl rfl rfl (by omega)) rfl rfl rfl ?_
      refine ExL.free (fr_loadN rfl rfl rfl rfl rfl (segB (i := 3) rfl encMk_len zMk (by rw [ph_len]; omega))) rfl rfl rfl ?_
      refine ExL.op rfl (op_ret rfl rfl rfl (c_count (p.l.getD j zMk) (hp j (by omega))) (fun _ _ => trivial) rfl rfl (fun x7 hx7 => ?_))
      refine ExL.pures 1 rfl ?_
      refine ExL.free (by first | exact fr_conv64 rfl rfl rfl rfl (by omega) | exact fr_conv rfl rfl rfl rfl) rfl rfl rfl ?_
      refine ExL.eql rfl rfl rfl rfl rfl rfl (fun h8 => ?_) (fun h8 => ?_)
      · refine ExL.nil ?_
        refine Ex.cond_t rfl ?_
        refine Ex.regSeq (ExL.pures 0 rfl ?_)
        refine ExL.free (fr_load rfl rfl rfl rfl (CellO.blk (i := 1) rfl rfl)) rfl rfl rfl ?_
        refine ExL.op rfl (op_buildSlice (sz := 1) rfl rfl rfl rfl rfl rfl rfl rfl (by decide) rfl rfl rfl (fun r9 => ?_))
        refine ExL.op rfl (op_append (sz := 1) (bytes := 16) (i := 3) rfl rfl rfl rfl (Reads.row (i := 0) rfl) rfl (fun e => nomatch e) rfl rfl rfl rfl (by constructor <;> first | omega | (unfold maxLen; omega)) rfl rfl (fun A10 cA10 => ?_))
        refine ExL.op rfl (op_storeC (i := 2) rfl rfl rfl rfl rfl rfl rfl rfl rfl rfl ?_)
        refine ExL.nil ?_
        refine Ex.exit ?_
        exact ⟨rfl, (A10, cA10), 5, [1, 2, 3, 4], trivial, (by first | exact pk3R (by rw [partsF_s, List.flatMap_append, hw1 (by assumption)]; rfl) | exact pk3R (by rw [partsF_s, List.flatMap_append, hw3 (by assumption)]; rfl)), rfl⟩
      · refine ExL.nil ?_
        refine Ex.cond_f rfl ?_
        refine Ex.skip ?_
        refine Ex.regSeq (ExL.pures 0 rfl ?_)
        refine ExL.op rfl (op_buildSlice (sz := 1) rfl rfl rfl rfl rfl rfl rfl rfl (by decide) rfl rfl rfl (fun r12 => ?_))
        refine ExL.pures 1 rfl ?_
        refine ExL.nil ?_
        refine Ex.seq ?_
        refine Ex.regSeq (ExL.pures 1 rfl ?_)
        refine ExL.free (fr_indexAddr_b (sz := 2) rfl rfl rfl rfl rfl (by omega)) rfl rfl rfl ?_
        refine ExL.free (fr_loadN rfl rfl rfl rfl rfl (segB (i := 4) rfl encMk_len zMk (by rw [ph_len]; omega))) rfl rfl rfl ?_
        refine ExL.op rfl (op_ret rfl rfl rfl (c_digitsM (p.l.getD j zMk) (hp j (by omega))) (fun _ _ => trivial) rfl rfl (fun x13 hx13 => ?_))
        refine ExL.pures 2 rfl ?_
        refine ExL.nil ?_
        refine Ex.block ?_
        refine Ex.loopA (fun i A c => [(8, .slice A (strsP (digI (p.l.getD j zMk)) i).length c), (36, .int .i64 i)]) (fun i A c => [.row (.slice A (strsP (digI (p.l.getD j zMk)) i).length c) 9 1 (strsP (digI (p.l.getD j zMk)) i).length ((strsP (digI (p.l.getD j zMk)) i).flatMap eSt)]) (fun i => i ≤ (digI (p.l.getD j zMk)).length) (fun i => (digI (p.l.getD j zMk)).length - i) 0 ((some ⟨r12, 0, none⟩)) (0) [(5, _), (34, _), (35, _)] [_, _, _, _, _] 6 [1, 0, 2, 3, 4, 5] ⟨rfl, rfl, trivial⟩ ⟨rfl, rfl, rfl, trivial⟩ (rfl) rfl (Nat.zero_le _) (fun i A c hI => ?_)
        have hI : i ≤ (digI (p.l.getD j zMk)).length := hI
        refine Ex.regSeq (ExL.pures 0 rfl ?_)
        refine ExL.lss rfl rfl rfl rfl rfl rfl (fun h14 => ?_) (fun h14 => ?_)
        · refine ExL.nil ?_
          refine Ex.seq ?_
          refine Ex.cond_t rfl ?_
          refine Ex.skip ?_
          refine Ex.seq ?_
          refine Ex.block ?_
          have hil : i < (digI (p.l.getD j zMk)).length := by omega
          have hsl := strsP_len (l := digI (p.l.getD j zMk)) (k := i) (by omega)
          have hdb := digI_bd (p.l.getD j zMk) i
          refine Ex.regSeq (ExL.pures 0 rfl ?_)
          refine ExL.free (fr_indexAddrR (sz := 1) 1 rfl rfl rfl rfl rfl rfl (by omega)) rfl rfl rfl ?_
          refine ExL.free (fr_load rfl rfl rfl rfl (by first | exact cellN (Reads.row (i := 1) rfl) (eI_len .i64) 0 0 rfl (by omega) rfl | exact cellF (Reads.row (i := 1) rfl) (eI_len .i64) 0 0 rfl (by omega) rfl)) rfl rfl rfl ?_
          refine ExL.pures 1 rfl ?_
          refine ExL.nil ?_
          refine Ex.region (ExL.pures 2 rfl ?_)
          refine ExL.op rfl (op_ret rfl rfl rfl (c_Itoa ((digI (p.l.getD j zMk)).getD i 0) (by omega)) (fun w hw => TabB.get htab hw) rfl rfl (fun x15 hx15 => ?_))
          refine ExL.op rfl (op_buildSlice (sz := 1) rfl rfl rfl rfl rfl rfl rfl rfl (by decide) rfl rfl rfl (fun r16 => ?_))
          refine ExL.op rfl (op_append (sz := 1) (bytes := 16) (i := 1) rfl rfl rfl rfl (Reads.row (i := 0) rfl) rfl (fun e => nomatch e) rfl rfl rfl rfl (by constructor <;> first | omega | (unfold maxLen; omega)) rfl rfl (fun A17 cA17 => ?_))
          refine ExL.pures 1 rfl ?_
          refine ExL.nil ?_
          refine Ex.region (ExL.pures 0 rfl ?_)
          refine ExL.free (by first | exact fr_add64 rfl rfl rfl (by omega) | exact fr_add rfl rfl rfl) rfl rfl rfl ?_
          refine ExL.pures 1 rfl ?_
          refine ExL.nil ?_
          refine HandA.of (i + 1) (A17) (cA17) 7 [1, 2, 3, 4, 5, 6] ⟨(by rw [strsP_s hil, List.length_append]; rfl), rfl, trivial⟩ ⟨rfl, rfl, rfl, trivial⟩ (by rw [strsP_s hil, List.length_append, List.flatMap_append]; rfl) rfl (by omega) (by omega)
        · refine ExL.nil ?_
          refine Ex.seq ?_
          refine Ex.cond_f rfl ?_
          refine Ex.exit ?_
          have hin : i = (digI (p.l.getD j zMk)).length := by omega
          have hsl9 := strsP_len (l := digI (p.l.getD j zMk)) (k := i) (by omega)
          have hw3 : ¬ cntM (p.l.getD j zMk) = s.getD j 0 → wpart s p.l k = Lib.join (strsP (digI (p.l.getD j zMk)) i) [124] := fun h => by rw [hin]; exact hw2 h
          refine Ex.know (row_cap' (i := 0) rfl) (fun hcap1 => ?_)
          refine Ex.drawI [0, 1, 2, 3, 5] rfl rfl ?_
          refine ExD.take (i := 0) rfl (by kernel_rfl) (fr_load rfl rfl rfl rfl (CellO.blk (i := 3) rfl rfl)) ((List.Sublist.cons_cons _ (List.Sublist.cons_cons _ (List.Sublist.cons_cons _ (List.Sublist.cons_cons _ (List.Sublist.cons _ (List.Sublist.refl _))))))) rfl rfl rfl ?_
          refine ExD.take (i := 1) rfl (by kernel_rfl) (pureVal_ok rfl) ((List.Sublist.cons_cons _ (List.Sublist.cons_cons _ (List.Sublist.cons_cons _ (List.Sublist.cons_cons _ (List.Sublist.cons _ (List.Sublist.refl _))))))) rfl rfl rfl ?_
          refine ExD.op (i := 2) rfl (by kernel_rfl) rfl (op_ret rfl rfl rfl (c_Join (strsP (digI (p.l.getD j zMk)) i) _ rfl _ _ [124] hcap1 (by omega) (by rw [hin, strs_join]; have := marksT_le (m := (p.l.getD j zMk)) (k := 128) (by omega); omega)) (Reads.get (Reads.row (i := 0) rfl)) rfl rfl (fun x19 hx19 => ⟨(List.Sublist.cons_cons _ (List.Sublist.cons_cons _ (List.Sublist.cons_cons _ (List.Sublist.cons_cons _ (List.Sublist.cons _ (List.Sublist.refl _)))))), ?_⟩))
          refine ExD.op (i := 3) rfl (by kernel_rfl) rfl (op_buildSlice (sz := 1) rfl rfl rfl rfl rfl rfl rfl rfl (by decide) rfl rfl rfl (fun r20 => ⟨(List.Sublist.cons _ (List.Sublist.cons_cons _ (List.Sublist.cons_cons _ (List.Sublist.cons_cons _ (List.Sublist.cons_cons _ (List.Sublist.cons _ (List.Sublist.refl _))))))), ?_⟩))
          refine ExD.op (i := 4) rfl (by kernel_rfl) rfl (op_append (sz := 1) (bytes := 16) (i := 5) rfl rfl rfl rfl (Reads.row (i := 0) rfl) rfl (fun e => nomatch e) rfl rfl rfl rfl (by constructor <;> first | omega | (unfold maxLen; omega)) rfl rfl (fun A21 cA21 => ⟨(List.Sublist.cons _ (List.Sublist.cons_cons _ (List.Sublist.cons_cons _ (List.Sublist.cons_cons _ (List.Sublist.cons_cons _ (List.Sublist.cons _ (List.Sublist.refl _))))))), ?_⟩))
          refine ExD.last (i := 5) rfl (by kernel_rfl) (by kernel_rfl) rfl (op_storeC (i := 4) rfl rfl rfl rfl rfl rfl rfl rfl rfl rfl ?_)
          refine ExD.done (by kernel_rfl) ?_
          exact ⟨rfl, (A21, cA21), 7, [3, 4, 5, 6], trivial, (by first | exact pk3R (by rw [partsF_s, List.flatMap_append, hw1 (by assumption)]; rfl) | exact pk3R (by rw [partsF_s, List.flatMap_append, hw3 (by assumption)]; rfl)), rfl⟩
    · have hs := hs.keep hW
      have htab := htab.keep hW
      refine Ex.know (row_cap' (i := 2) rfl) (fun hcap => ?_)
      have hpl := partsF_len (wpart s p.l) s.length
      refine Ex.regSeq (ExL.pures 0 rfl ?_)
      refine ExL.free (fr_load rfl rfl rfl rfl (CellO.blk (i := 1) rfl rfl)) rfl rfl rfl ?_
      refine ExL.op rfl (op_ret rfl rfl rfl (c_Join (partsF (wpart s p.l) s.length) _ hpl _ _ [58] hcap (by omega) (Nat.le_trans (phT_le hS) (by decide))) (Reads.get (Reads.row (i := 2) rfl)) rfl rfl (fun x23 hx23 => ?_))
      refine ExL.pures 1 rfl ?_
      refine ExL.nil ?_
      refine Ex.ret ?_
      refine ⟨rfl, ?_⟩
      refine RetQ.mk () rfl (.tmp rfl .nil) (tS (by first | exact (phTx_f (by assumption)).symm | exact (phTx_t (by assumption)).symm)) [] (rfl) rfl (trivial)
end Go.Proofs.YthfbmkfbmmjchaaDoor
