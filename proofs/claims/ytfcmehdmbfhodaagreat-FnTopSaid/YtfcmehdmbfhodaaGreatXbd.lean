/- Several texts, one behind the other. -/
import Derived.Test.YtfcmehdmbfhodaaGreatProg
import Derived.Test.YtfcmehdmbfhodaaGreatXaa
import Derived.Test.YtfcmehdmbfhodaaGreatXab
import Derived.Test.YtfcmehdmbfhodaaGreatXba
import Derived.Test.YtfcmehdmbfhodaaGreatXbb
import Derived.Test.YtfcmehdmbfhodaaGreatXbc
/- What these functions of the program hand back, each proved by walking its operations. -/
set_option linter.unusedVariables false
set_option linter.unusedSimpArgs false
set_option maxRecDepth 4000
namespace Go.Proofs.YtfcmehdmbfhodaaGreat
open Go Go.Sx Go.RowKit Go.W Go.Proofs
attribute [local irreducible] Ex ExL ExD Op1 Free RetQ MutQ Reads CellO SegO LoadsAs
theorem e_3 : Enters Tryz.prog 3 := Enters.of Tryz.func3 rfl
set_option maxHeartbeats 2000000 in
theorem w_FnTop (s : List Int) (hus : Nums 255 s) (As : Option Addr) (cs : Nat) (hls : s.length ≤ maxLen) (t : List Int) (hut : Nums 255 t) (At : Option Addr) (ct : Nat) (hlt : t.length ≤ maxLen) : Ret Tryz.prog 3 [.slice As s.length cs, .slice At t.length ct] (fun w => Rd w As (s.flatMap (eI .u8)) ∧ Rd w At (t.flatMap (eI .u8))) (fun x : Unit => .bool true) (fun x => []) (fun x => True) := by
  refine Ret.of e_3 Tryz.func3 rfl Tryz.ntmps3 rfl rfl (fun w hpre => ?_)
  have hs := hpre.1.base
  have ht := hpre.2.base
  have hm0 : maxLen = 9223372036854775807 := rfl
  refine Ex.regSeq (ExL.pures 1 rfl ?_)
  refine ExL.nil ?_
  refine Ex.seq ?_
  refine Ex.regSeq (ExL.pures 2 rfl ?_)
  refine ExL.op rfl (op_ret rfl rfl rfl (c_a2Long s _ _ (by omega) t _ _ (by omega)) (fun _ _ => trivial) rfl rfl (fun x1 hx1 => ?_))
  refine ExL.nil ?_
  refine Ex.cond rfl (fun hb2 => ?_) (fun hb2 => ?_)
  · replace hb2 := of_decide_eq_true hb2
    refine Ex.regSeq (ExL.pures 1 rfl ?_)
    refine ExL.nil ?_
    refine Ex.ret ?_
    refine RetQ.mk () rfl (.tmp rfl .nil) (tB (by first | rfl | exact absurd rfl (by assumption) | (exfalso; simp_all [sameV_refl]; done) | (rw [if_pos (by omega)] at hw1; rw [hw1]; rfl) | (rw [if_neg (by omega)] at hw1; rw [hw1]; first | rfl | exact dec_t rfl) | (exfalso; rw [if_neg (by omega)] at hw1; simp_all; done))) [] (rfl) rfl (trivial)
  · replace hb2 := of_decide_eq_false hb2
    refine Ex.skip ?_
    refine Ex.regSeq (ExL.pures 1 rfl ?_)
    refine ExL.op rfl (op_ret rfl rfl rfl (c_P6Stack s _ _ (by omega) (by assumption)) (Reads.get (Reads.old hs)) rfl rfl (fun x3 hx3 => ?_))
    have hSx3 := hx3
    have hux3 := hSx3.nums
    have hvx3 := hSx3.valid
    have hzx3 := hSx3.size
    have hlx3 := hSx3.2
    refine ExL.pures 1 rfl ?_
    refine ExL.nil ?_
    refine Ex.regSeq (ExL.pures 1 rfl ?_)
    refine ExL.op rfl (op_ret rfl rfl rfl (c_P6Train t _ _ (by omega) (by assumption)) (Reads.get (Reads.old ht)) rfl rfl (fun x4 hx4 => ?_))
    obtain ⟨hTx4, hTlx4, hTmx4⟩ := hx4
    refine ExL.know (row_cap' (i := 0) rfl) (fun hcapx4 => ?_)
    obtain ⟨ht1x4, htox4⟩ := hTx4.one hTlx4
    refine ExL.free (fr_slice_h (sz := 2) (x4.2.take 1).length (by omega) rfl rfl rfl rfl rfl (by omega)) rfl rfl rfl ?_
    refine ExL.pures 1 rfl ?_
    refine ExL.nil ?_
    refine Ex.regSeq (ExL.pures 1 rfl ?_)
    refine ExL.op rfl (op_ret rfl rfl rfl (c_P6Pick s _ _ (by omega) (by assumption) 3000 (by omega)) (Reads.get (Reads.old hs)) rfl rfl (fun x5 hx5 => ?_))
    obtain ⟨kx5, hkx5⟩ : ∃ k : Nat, x5 = (k : Int) := ⟨x5.toNat, by omega⟩
    subst hkx5
    refine ExL.pures 1 rfl ?_
    refine ExL.nil ?_
    refine Ex.know (row_cap' (i := 1) rfl) (fun hcap => ?_)
    have hvs := hvx3
    have hus := hux3
    have hSk := stk hvs
    have h8 := hSk.len8
    have hl1 := hSk.len1
    have hz1 := hSk.size_
    have hz2 := hSk.le
    have hz3 := hSk.pos
    have hqk : QOk ((x4.2.take 1).getD 0 zQ) := htox4 0 (by omega)
    obtain ⟨⟨hqa1, hqa2⟩, hqb1, hqb2⟩ := id hqk
    obtain ⟨pp, qq, hR⟩ := rt_of (a := ((x4.2.take 1).getD 0 zQ).a) (b := ((x4.2.take 1).getD 0 zQ).b) (by omega) (by omega)
    have hfm := mul_le2 (a := ↑kx5) (b := ((x4.2.take 1).getD 0 zQ).a) (m := 3000) (n := 120) (by omega) (by omega)
    have hfd := div_bd (a := ↑kx5 * ((x4.2.take 1).getD 0 zQ).a) (b := ((x4.2.take 1).getD 0 zQ).b) (m := 360000) (by omega) (by omega)
    have hm1 := Int.emod_nonneg (↑kx5 * ((x4.2.take 1).getD 0 zQ).a / ((x4.2.take 1).getD 0 zQ).b) (show size x3.2 ≠ 0 by omega)
    have hm2 := Int.emod_lt_of_pos (↑kx5 * ((x4.2.take 1).getD 0 zQ).a / ((x4.2.take 1).getD 0 zQ).b) (show 0 < size x3.2 by omega)
    refine Ex.regSeq (ExL.pures 2 rfl ?_)
    refine ExL.op rfl (op_ret rfl rfl rfl (c_iDriven (x4.2.take 1) (by assumption) (by assumption) _ _ pp qq (by assumption) ↑kx5 (by omega)) (Reads.get (Reads.takeF (Reads.row (i := 0) rfl) 1)) rfl rfl (fun x6 hx6 => ?_))
    refine ExL.pures 5 rfl ?_
    refine ExL.nil ?_
    refine Ex.regSeq (ExL.pures 2 rfl ?_)
    refine ExL.op rfl (op_ret rfl rfl rfl (c_sDriven (x4.2.take 1) (by assumption) (by assumption) _ _ pp qq (by assumption) ↑kx5 (by omega)) (Reads.get (Reads.takeF (Reads.row (i := 0) rfl) 1)) rfl rfl (fun x7 hx7 => ?_))
    refine ExL.pures 5 rfl ?_
    refine ExL.nil ?_
    refine Ex.drawSeqM rfl ?_
    refine ExD.take (i := 0) rfl (by kernel_rfl) (pureVal_ok rfl) ((List.Sublist.refl _)) rfl rfl rfl ?_
    refine ExD.take (i := 1) rfl (by kernel_rfl) (pureVal_ok rfl) ((List.Sublist.refl _)) rfl rfl rfl ?_
    refine ExD.take (i := 2) rfl (by kernel_rfl) (fr_indexAddrF (Reads.takeF (Reads.row (i := 0) rfl) 1) encQ_len rfl rfl rfl rfl rfl rfl (by omega)) ((List.Sublist.refl _)) rfl rfl rfl ?_
    refine ExD.take (i := 3) rfl (by kernel_rfl) (fr_fieldAddrF (i := (0 : Int).toNat) (Reads.takeF (Reads.row (i := 0) rfl) 1) encQ_len rfl rfl rfl (by omega) rfl rfl rfl rfl) ((List.Sublist.refl _)) rfl rfl rfl ?_
    refine ExD.take (i := 4) rfl (by kernel_rfl) (fr_load rfl rfl rfl rfl (cellJ (i := 0) 0 (Reads.takeF (Reads.row (i := 0) rfl) 1) encQ_len zQ 0 rfl (by omega) (by omega) rfl)) ((List.Sublist.refl _)) rfl rfl rfl ?_
    refine ExD.take (i := 5) rfl (by kernel_rfl) (by first | exact fr_conv64 rfl rfl rfl rfl (by omega) | exact fr_conv rfl rfl rfl rfl) ((List.Sublist.refl _)) rfl rfl rfl ?_
    refine ExD.take (i := 6) rfl (by kernel_rfl) (pureVal_ok rfl) ((List.Sublist.refl _)) rfl rfl rfl ?_
    refine ExD.take (i := 7) rfl (by kernel_rfl) (fr_indexAddrF (Reads.takeF (Reads.row (i := 0) rfl) 1) encQ_len rfl rfl rfl rfl rfl rfl (by omega)) ((List.Sublist.refl _)) rfl rfl rfl ?_
    refine ExD.take (i := 8) rfl (by kernel_rfl) (fr_fieldAddrF (i := (0 : Int).toNat) (Reads.takeF (Reads.row (i := 0) rfl) 1) encQ_len rfl rfl rfl (by omega) rfl rfl rfl rfl) ((List.Sublist.refl _)) rfl rfl rfl ?_
    refine ExD.take (i := 9) rfl (by kernel_rfl) (fr_load rfl rfl rfl rfl (cellJ (i := 0) 0 (Reads.takeF (Reads.row (i := 0) rfl) 1) encQ_len zQ 1 rfl (by omega) (by omega) rfl)) ((List.Sublist.refl _)) rfl rfl rfl ?_
    refine ExD.take (i := 10) rfl (by kernel_rfl) (by first | exact fr_conv64 rfl rfl rfl rfl (by omega) | exact fr_conv rfl rfl rfl rfl) ((List.Sublist.refl _)) rfl rfl rfl ?_
    refine ExD.take (i := 11) rfl (by kernel_rfl) (fr_build rfl rfl rfl rfl) ((List.Sublist.refl _)) rfl rfl rfl ?_
    refine ExD.op (i := 12) rfl (by kernel_rfl) rfl (op_alloc rfl rfl rfl rfl rfl (fun b8 => ⟨(List.Sublist.cons _ (List.Sublist.refl _)), ?_⟩))
    refine ExD.last (i := 13) rfl (by kernel_rfl) (by kernel_rfl) rfl (op_storeC (i := 0) rfl rfl rfl rfl rfl rfl rfl rfl rfl rfl ?_)
    refine ExD.done (by kernel_rfl) ?_
    refine Ex.regSeq (ExL.pures 0 rfl ?_)
    refine ExL.free (fr_loadN rfl rfl rfl rfl rfl (SegO.whole (i := 0) rfl)) rfl rfl rfl ?_
    refine ExL.pures 1 rfl ?_
    refine ExL.op rfl (op_ret rfl rfl rfl (c_CountAfter x3.2 (by assumption) (by assumption) _ _ ((x4.2.take 1).getD 0 zQ) (by first | assumption | exact ⟨⟨by omega, by omega⟩, by omega, by omega⟩) ↑kx5 (by omega)) (Reads.get (Reads.row (i := 2) rfl)) rfl rfl (fun x9 hx9 => ?_))
    refine ExL.pures 5 rfl ?_
    refine ExL.nil ?_
    refine Ex.regSeq (ExL.pures 0 rfl ?_)
    refine ExL.free (fr_loadN rfl rfl rfl rfl rfl (SegO.whole (i := 0) rfl)) rfl rfl rfl ?_
    refine ExL.pures 1 rfl ?_
    refine ExL.op rfl (op_ret rfl rfl rfl (c_iShowsAfter x3.2 (by assumption) (by assumption) _ _ ((x4.2.take 1).getD 0 zQ) (by first | assumption | exact ⟨⟨by omega, by omega⟩, by omega, by omega⟩) ↑kx5 (by omega)) (Reads.get (Reads.row (i := 2) rfl)) rfl rfl (fun x10 hx10 => ?_))
    refine ExL.pures 7 rfl ?_
    refine ExL.nil ?_
    refine Ex.regSeq (ExL.pures 0 rfl ?_)
    refine ExL.free (fr_loadN rfl rfl rfl rfl rfl (SegO.whole (i := 0) rfl)) rfl rfl rfl ?_
    refine ExL.pures 1 rfl ?_
    refine ExL.op rfl (op_ret rfl rfl rfl (c_sShowsAfter x3.2 (by assumption) (by assumption) _ _ ((x4.2.take 1).getD 0 zQ) (by first | assumption | exact ⟨⟨by omega, by omega⟩, by omega, by omega⟩) ↑kx5 (by omega)) (Reads.get (Reads.row (i := 2) rfl)) rfl rfl (fun x11 hx11 => ?_))
    refine ExL.pures 7 rfl ?_
    refine ExL.nil ?_
    refine Ex.seq ?_
    obtain ⟨dv, hdv⟩ : ∃ z : Int, (↑kx5 * ((x4.2.take 1).getD 0 zQ).a / ((x4.2.take 1).getD 0 zQ).b) = z := ⟨_, rfl⟩
    rw [hdv] at hfd hm1 hm2 ⊢
    obtain ⟨sv, hsv⟩ : ∃ z : Int, dv % size x3.2 = z := ⟨_, rfl⟩
    rw [hsv] at hm1 hm2 ⊢
    obtain ⟨rv, hrv⟩ : ∃ z : Int, dv / size x3.2 = z := ⟨_, rfl⟩
    rw [hrv]
    refine Ex.regSeq (ExL.pures 2 rfl ?_)
    refine ExL.free (fr_neq_f rfl rfl rfl (fun h => h rfl)) rfl rfl rfl ?_
    refine ExL.pures 2 rfl ?_
    refine ExL.free (fr_neq_f rfl rfl rfl (fun h => h rfl)) rfl rfl rfl ?_
    refine ExL.pures 4 rfl ?_
    refine ExL.free (fr_neq_f rfl rfl rfl (fun h => h rfl)) rfl rfl rfl ?_
    refine ExL.pures 3 rfl ?_
    refine ExL.free (fr_neq_f rfl rfl rfl (fun h => h rfl)) rfl rfl rfl ?_
    refine ExL.pures 4 rfl ?_
    refine ExL.free (fr_neq_f rfl rfl rfl (fun h => h rfl)) rfl rfl rfl ?_
    refine ExL.pures 4 rfl ?_
    refine ExL.free (fr_neq_f rfl rfl rfl (fun h => h rfl)) rfl rfl rfl ?_
    refine ExL.pures 3 rfl ?_
    refine ExL.free (fr_neq_f rfl rfl rfl (fun h => h rfl)) rfl rfl rfl ?_
    refine ExL.pures 4 rfl ?_
    refine ExL.free (fr_neq_f rfl rfl rfl (fun h => h rfl)) rfl rfl rfl ?_
    refine ExL.pures 4 rfl ?_
    refine ExL.free (fr_neq_f rfl rfl rfl (fun h => h rfl)) rfl rfl rfl ?_
    refine ExL.pures 1 rfl ?_
    refine ExL.nil ?_
    refine Ex.cond_f rfl ?_
    refine Ex.skip ?_
    refine Ex.regSeq (ExL.pures 1 rfl ?_)
    refine ExL.op rfl (op_ret rfl rfl rfl (c_sNewDevice x3.2 (by assumption) _ _ (by omega)) (Reads.get (Reads.row (i := 2) rfl)) rfl rfl (fun x12 hx12 => ?_))
    refine ExL.pures 3 rfl ?_
    refine ExL.op rfl (op_alloc rfl rfl rfl rfl rfl (fun b13 => ?_))
    refine ExL.op rfl (op_storeC (i := 0) rfl rfl rfl rfl rfl rfl rfl rfl rfl rfl ?_)
    refine ExL.pures 1 rfl ?_
    refine ExL.nil ?_
    obtain ⟨hnd1, hnd2⟩ := nd_dN hvs
    rw [hnd1, hnd2]
    refine Ex.know (row_nil (i := 1) rfl) (fun hAn => ?_)
    have hdn : (dN x3.2).stack.length ≤ 8 := h8
    have hdk := dN_ok h8 hus
    have hak := aN_ok (n := dv) hfd
    obtain ⟨hdo1, hdo2, hdo3⟩ := dN_do (n := dv) hvs hfd
    rw [hsv] at hdo1
    have hza := c_iDoAct (dN x3.2) hdk x12.1 x12.2 hAn (Nat.le_trans hdn (show 8 ≤ 1048576 by decide)) (⟨1, dv⟩ : VAct) hak
    have hzb := c_sDoAct (dN x3.2) hdk x12.1 x12.2 hAn (Nat.le_trans hdn (show 8 ≤ 1048576 by decide)) (⟨1, dv⟩ : VAct) hak
    refine Ex.regSeq (ExL.pures 0 rfl ?_)
    refine ExL.free (fr_loadN rfl rfl rfl rfl rfl (SegO.whole (i := 0) rfl)) rfl rfl rfl ?_
    refine ExL.pures 1 rfl ?_
    refine ExL.free (fr_build rfl rfl rfl rfl) rfl rfl rfl ?_
    refine ExL.op rfl (op_ret (f := 14) (fst := []) (cap := []) (hc := hza) rfl rfl rfl (Reads.get (Reads.row (i := 1) rfl)) rfl rfl (fun x14 hx14 => ?_))
    refine ExL.pures 4 rfl ?_
    refine ExL.op rfl (op_alloc rfl rfl rfl rfl rfl (fun b15 => ?_))
    refine ExL.op rfl (op_storeC (i := 0) rfl rfl rfl rfl rfl rfl rfl rfl rfl rfl ?_)
    refine ExL.pures 2 rfl ?_
    refine ExL.nil ?_
    refine Ex.regSeq (ExL.pures 0 rfl ?_)
    refine ExL.free (fr_loadN rfl rfl rfl rfl rfl (SegO.whole (i := 2) rfl)) rfl rfl rfl ?_
    refine ExL.pures 1 rfl ?_
    refine ExL.free (fr_build rfl rfl rfl rfl) rfl rfl rfl ?_
    refine ExL.op rfl (op_ret (f := 15) (fst := []) (cap := []) (hc := hzb) rfl rfl rfl (Reads.get (Reads.row (i := 3) rfl)) rfl rfl (fun x16 hx16 => ?_))
    refine ExL.pures 4 rfl ?_
    refine ExL.op rfl (op_alloc rfl rfl rfl rfl rfl (fun b17 => ?_))
    refine ExL.op rfl (op_storeC (i := 0) rfl rfl rfl rfl rfl rfl rfl rfl rfl rfl ?_)
    refine ExL.pures 2 rfl ?_
    refine ExL.nil ?_
    rw [hdo1, hdo2, hdo3]
    have hds : (dS x3.2 sv).stack.length ≤ 8 := h8
    refine Ex.regSeq (ExL.pures 2 rfl ?_)
    refine ExL.op rfl (op_ret rfl rfl rfl (c_DigitsOf x3.2 (by assumption) (by assumption) _ _ sv (by omega)) (Reads.get (Reads.row (i := 8) rfl)) rfl rfl (fun x18 hx18 => ?_))
    refine ExL.pures 3 rfl ?_
    refine ExL.op rfl (op_alloc rfl rfl rfl rfl rfl (fun b19 => ?_))
    refine ExL.op rfl (op_storeC (i := 0) rfl rfl rfl rfl rfl rfl rfl rfl rfl rfl ?_)
    refine ExL.pures 1 rfl ?_
    refine ExL.nil ?_
    refine Ex.seq ?_
    refine Ex.regSeq (ExL.pures 1 rfl ?_)
    refine ExL.neq rfl rfl rfl rfl rfl rfl (fun h20 => ?_) (fun h20 => ?_)
    · refine ExL.pures 34 rfl ?_
      refine ExL.nil ?_
      refine Ex.cond_t rfl ?_
      refine Ex.regSeq (ExL.pures 1 rfl ?_)
      refine ExL.nil ?_
      refine Ex.ret ?_
      refine RetQ.mk () rfl (.tmp rfl .nil) (tB (by first | rfl | exact absurd rfl (by assumption) | (exfalso; simp_all [sameV_refl]; done) | (rw [if_pos (by omega)] at hw1; rw [hw1]; rfl) | (rw [if_neg (by omega)] at hw1; rw [hw1]; first | rfl | exact dec_t rfl) | (exfalso; rw [if_neg (by omega)] at hw1; simp_all; done))) [] (rfl) rfl (trivial)
    · refine ExL.pures 3 rfl ?_
      refine ExL.neq rfl rfl rfl rfl rfl rfl (fun h21 => ?_) (fun h21 => ?_)
      · refine ExL.pures 30 rfl ?_
        refine ExL.nil ?_
        refine Ex.cond_t rfl ?_
        refine Ex.regSeq (ExL.pures 1 rfl ?_)
        refine ExL.nil ?_
        refine Ex.ret ?_
        refine RetQ.mk () rfl (.tmp rfl .nil) (tB (by first | rfl | exact absurd rfl (by assumption) | (exfalso; simp_all [sameV_refl]; done) | (rw [if_pos (by omega)] at hw1; rw [hw1]; rfl) | (rw [if_neg (by omega)] at hw1; rw [hw1]; first | rfl | exact dec_t rfl) | (exfalso; rw [if_neg (by omega)] at hw1; simp_all; done))) [] (rfl) rfl (trivial)
      · refine ExL.pures 3 rfl ?_
        refine ExL.neq rfl rfl rfl rfl rfl rfl (fun h22 => ?_) (fun h22 => ?_)
        · refine ExL.pures 26 rfl ?_
          refine ExL.nil ?_
          refine Ex.cond_t rfl ?_
          refine Ex.regSeq (ExL.pures 1 rfl ?_)
          refine ExL.nil ?_
          refine Ex.ret ?_
          refine RetQ.mk () rfl (.tmp rfl .nil) (tB (by first | rfl | exact absurd rfl (by assumption) | (exfalso; simp_all [sameV_refl]; done) | (rw [if_pos (by omega)] at hw1; rw [hw1]; rfl) | (rw [if_neg (by omega)] at hw1; rw [hw1]; first | rfl | exact dec_t rfl) | (exfalso; rw [if_neg (by omega)] at hw1; simp_all; done))) [] (rfl) rfl (trivial)
        · refine ExL.pures 2 rfl ?_
          refine ExL.free (fr_loadN rfl rfl rfl rfl rfl (SegO.whole (i := 3) rfl)) rfl rfl rfl ?_
          refine ExL.free (fr_loadN rfl rfl rfl rfl rfl (SegO.whole (i := 1) rfl)) rfl rfl rfl ?_
          refine ExL.op rfl (op_ret rfl rfl rfl (c_sSameDevice (dS x3.2 sv) (dS x3.2 sv) _ _ _ _ (by omega) (by omega)) (fun w hw => ⟨Reads.get (Reads.row (i := 4) rfl) w hw, Reads.get (Reads.row (i := 2) rfl) w hw⟩) rfl rfl (fun x23 hx23 => ?_))
          refine ExL.pures 3 rfl ?_
          refine ExL.bool (d := 188) rfl (fun hb24 => ?_) (fun hb24 => ?_)
          · replace hb24 := nb_t hb24
            refine ExL.pures 18 rfl ?_
            refine ExL.nil ?_
            refine Ex.cond_t rfl ?_
            refine Ex.regSeq (ExL.pures 1 rfl ?_)
            refine ExL.nil ?_
            refine Ex.ret ?_
            refine RetQ.mk () rfl (.tmp rfl .nil) (tB (by first | rfl | exact absurd rfl (by assumption) | (exfalso; simp_all [sameV_refl]; done) | (rw [if_pos (by omega)] at hw1; rw [hw1]; rfl) | (rw [if_neg (by omega)] at hw1; rw [hw1]; first | rfl | exact dec_t rfl) | (exfalso; rw [if_neg (by omega)] at hw1; simp_all; done))) [] (rfl) rfl (trivial)
          · replace hb24 := nb_f hb24
            refine ExL.pures 2 rfl ?_
            refine ExL.free (fr_neq_f rfl rfl rfl (fun h => h rfl)) rfl rfl rfl ?_
            refine ExL.pures 3 rfl ?_
            refine ExL.free (fr_neq_f rfl rfl rfl (fun h => h rfl)) rfl rfl rfl ?_
            refine ExL.pures 3 rfl ?_
            refine ExL.free (fr_neq_f rfl rfl rfl (fun h => h rfl)) rfl rfl rfl ?_
            refine ExL.pures 3 rfl ?_
            refine ExL.free (fr_loadN rfl rfl rfl rfl rfl (SegO.part (i := 1) 8 rfl)) rfl rfl rfl ?_
            refine ExL.free (fr_loadN rfl rfl rfl rfl rfl (SegO.whole (i := 0) rfl)) rfl rfl rfl ?_
            refine ExL.free (fr_neq_ints_eq (dS x3.2 sv).shows.l (dig (digs x3.2 sv)).l (rfl) rfl rfl rfl rfl rfl rfl rfl rfl rfl rfl) rfl rfl rfl ?_
            refine ExL.pures 1 rfl ?_
            refine ExL.nil ?_
            refine Ex.cond_f rfl ?_
            refine Ex.skip ?_
            refine Ex.regSeq (ExL.pures 1 rfl ?_)
            refine ExL.free (fr_build rfl rfl rfl rfl) rfl rfl rfl ?_
            refine ExL.op rfl (op_alloc rfl rfl rfl rfl rfl (fun b25 => ?_))
            refine ExL.op rfl (op_storeC (i := 0) rfl rfl rfl rfl rfl rfl rfl rfl rfl rfl ?_)
            refine ExL.nil ?_
            refine Ex.seq ?_
            refine Ex.nilRow 59 2 ?_
            refine Ex.regSeq (ExL.pures 1 rfl ?_)
            refine ExL.nil ?_
            refine Ex.block ?_
            refine Ex.loopK (X := MoS) (fun q => [(32, .int .i64 ((q.l.length : Int) + 1))]) (fun q => [.blk b25 (encMo (x3.1.1) (x3.1.2) x3.2 q.A q.c q.l) 56, .row (.slice q.A q.l.length q.c) 59 2 q.l.length (q.l.flatMap encJn)]) (fun q => JnOk q.l ∧ q.l.length + 1 ≤ x3.2.length) (fun q => x3.2.length - q.l.length) (⟨[], none, 0⟩ : MoS) [(1, _), (4, _), (5, _), (10, _), (18, _), (29, _), (31, _)] [_, _] 12 [1, 0, 2, 11] ⟨rfl, trivial⟩ ⟨rfl, rfl, rfl, rfl, rfl, rfl, rfl, trivial⟩ (rfl) rfl ⟨JnOk.nil, by show 0 + 1 ≤ _; omega⟩ (fun q hI => ?_)
            have hI : JnOk q.l ∧ q.l.length + 1 ≤ x3.2.length := hI
            obtain ⟨hJq, hLq⟩ := hI
            refine Ex.seq ?_
            refine Ex.regSeq (ExL.pures 3 rfl ?_)
            refine ExL.lss rfl rfl rfl rfl rfl rfl (fun h26 => ?_) (fun h26 => ?_)
            · refine ExL.nil ?_
              refine Ex.cond_t rfl ?_
              refine Ex.skip ?_
              refine Ex.seq ?_
              refine Ex.block ?_
              have hk : q.l.length + 1 < x3.2.length := by omega
              refine Ex.drawI [0, 2, 3] rfl rfl ?_
              refine ExD.take (i := 0) rfl (by kernel_rfl) (pureVal_ok rfl) ((List.Sublist.cons_cons _ (List.Sublist.cons _ (List.Sublist.refl _)))) rfl rfl rfl ?_
              refine ExD.take (i := 1) rfl (by kernel_rfl) (fr_load rfl rfl rfl rfl (CellO.blk (i := 0) rfl rfl)) ((List.Sublist.cons_cons _ (List.Sublist.cons _ (List.Sublist.refl _)))) rfl rfl rfl ?_
              refine ExD.take (i := 2) rfl (by kernel_rfl) (pureVal_ok rfl) ((List.Sublist.cons_cons _ (List.Sublist.cons _ (List.Sublist.refl _)))) rfl rfl rfl ?_
              refine ExD.take (i := 3) rfl (by kernel_rfl) (pureVal_ok rfl) ((List.Sublist.cons_cons _ (List.Sublist.cons _ (List.Sublist.refl _)))) rfl rfl rfl ?_
              refine ExD.op (i := 4) rfl (by kernel_rfl) rfl (op_ret rfl rfl rfl (c_a2At t hut _ _ (by omega) ((q.l.length : Int) + 1) (by omega) 1000 (by omega)) (Reads.get (Reads.old ht)) rfl rfl (fun x27 hx27 => ⟨(List.Sublist.cons_cons _ (List.Sublist.cons _ (List.Sublist.refl _))), ?_⟩))
              have hbax27 := aAt_bd (t := t) (i := ((q.l.length : Int) + 1)) (n := 1000) (by assumption) (by omega)
              refine ExD.take (i := 5) rfl (by kernel_rfl) (fr_convW _ rfl rfl rfl rfl (IntWalk.i16_in _ (by omega))) ((List.Sublist.cons_cons _ (List.Sublist.cons _ (List.Sublist.refl _)))) rfl rfl rfl ?_
              refine ExD.take (i := 6) rfl (by kernel_rfl) (fr_build rfl rfl rfl rfl) ((List.Sublist.cons_cons _ (List.Sublist.cons _ (List.Sublist.refl _)))) rfl rfl rfl ?_
              refine ExD.op (i := 7) rfl (by kernel_rfl) rfl (op_buildSlice (sz := 2) rfl rfl rfl rfl rfl rfl rfl rfl (by decide) rfl rfl rfl (fun r28 => ⟨(List.Sublist.cons _ (List.Sublist.cons_cons _ (List.Sublist.cons _ (List.Sublist.refl _)))), ?_⟩))
              refine ExD.op (i := 8) rfl (by kernel_rfl) rfl (op_append (sz := 2) (bytes := 4) (i := 2) rfl rfl rfl rfl (Reads.row (i := 0) rfl) rfl (fun e => nomatch e) rfl rfl rfl rfl (by constructor <;> first | omega | (unfold maxLen; omega)) rfl rfl (fun A29 cA29 => ⟨(List.Sublist.cons _ (List.Sublist.cons_cons _ (List.Sublist.cons _ (List.Sublist.refl _)))), ?_⟩))
              refine ExD.take (i := 9) rfl (by kernel_rfl) (pureVal_ok rfl) ((List.Sublist.cons _ (List.Sublist.cons_cons _ (List.Sublist.cons _ (List.Sublist.refl _))))) rfl rfl rfl ?_
              refine ExD.last (i := 10) rfl (by kernel_rfl) (by kernel_rfl) rfl (op_storeC (i := 1) rfl rfl rfl rfl rfl rfl rfl rfl rfl rfl ?_)
              refine ExD.done (by kernel_rfl) ?_
              refine Ex.region (ExL.pures 1 rfl ?_)
              refine ExL.free (by first | exact fr_add64 rfl rfl rfl (by omega) | exact fr_add rfl rfl rfl) rfl rfl rfl ?_
              refine ExL.pures 1 rfl ?_
              refine ExL.nil ?_
              refine Hand.mk ((⟨q.l ++ [⟨1, (aAt t ((q.l.length : Int) + 1) 1000)⟩], A29, cA29⟩ : MoS)) 5 [1, 2, 3, 4] ⟨agI (by dsimp only; rw [List.length_append, List.length_singleton]; omega), trivial⟩ ⟨rfl, rfl, rfl, rfl, rfl, rfl, rfl, trivial⟩ (by dsimp only [encMo]; rw [List.length_append, List.flatMap_append]; rfl) rfl (⟨hJq.next ⟨rfl, by dsimp only; omega, by dsimp only; omega⟩, by dsimp only; rw [List.length_append, List.length_singleton]; omega⟩) (by dsimp only; rw [List.length_append, List.length_singleton]; omega)
            · refine ExL.nil ?_
              refine Ex.cond_f rfl ?_
              refine Ex.exit ?_
              have hLq9 : q.l.length + 1 = x3.2.length := by omega
              refine Ex.regSeq (ExL.pures 1 rfl ?_)
              refine ExL.free (by first | exact fr_mul64 rfl rfl rfl (by omega) | exact fr_mul rfl rfl rfl) rfl rfl rfl ?_
              refine ExL.pures 1 rfl ?_
              refine ExL.op rfl (op_ret rfl rfl rfl (c_P6Pick t _ _ (by omega) (by assumption) 1000 (by omega)) (Reads.get (Reads.old ht)) rfl rfl (fun x31 hx31 => ?_))
              obtain ⟨kx31, hkx31⟩ : ∃ k : Nat, x31 = (k : Int) := ⟨x31.toNat, by omega⟩
              subst hkx31
              refine ExL.free (by first | exact fr_add64 rfl rfl rfl (by omega) | exact fr_add rfl rfl rfl) rfl rfl rfl ?_
              refine ExL.pures 1 rfl ?_
              refine ExL.nil ?_
              obtain ⟨tn, htn0⟩ : ∃ z : Int, (sv * 1000 + ↑kx31) = z := ⟨_, rfl⟩
              rw [htn0]
              have htn : tn / 1000 = sv := by omega
              have htb : 0 ≤ tn ∧ tn < size x3.2 * 1000 := by omega
              have hJs := hJq.js hLq9
              have hPO := parL_ok (s := x3.2) (J := jF q.l) (t := tn) hSk hJs
              have hR9 : ∀ i, i < x3.2.length → (parL x3.2 (jF q.l) tn x3.2.length).getD i 0 / 1000 = dAt x3.2 (tn / 1000) i := fun i hi => parL_dig hSk hJs hi
              refine Ex.regSeq (ExL.pures 0 rfl ?_)
              refine ExL.free (fr_loadN rfl rfl rfl rfl rfl (SegO.whole (i := 0) rfl)) rfl rfl rfl ?_
              refine ExL.pures 1 rfl ?_
              refine ExL.op rfl (op_ret rfl rfl rfl (c_RightDigits x3.2 (by assumption) (by assumption) _ _ q.l (by assumption) (by omega) _ _ tn (by omega)) (fun w hw => ⟨Reads.get (Reads.row (i := 3) rfl) w hw, Reads.get (Reads.row (i := 1) rfl) w hw⟩) rfl rfl (fun x32 hx32 => ?_))
              refine ExL.pures 3 rfl ?_
              refine ExL.op rfl (op_alloc rfl rfl rfl rfl rfl (fun b33 => ?_))
              refine ExL.op rfl (op_storeC (i := 0) rfl rfl rfl rfl rfl rfl rfl rfl rfl rfl ?_)
              refine ExL.pures 1 rfl ?_
              refine ExL.nil ?_
              refine Ex.regSeq (ExL.pures 0 rfl ?_)
              refine ExL.free (fr_loadN rfl rfl rfl rfl rfl (SegO.whole (i := 1) rfl)) rfl rfl rfl ?_
              refine ExL.pures 1 rfl ?_
              refine ExL.op rfl (op_ret rfl rfl rfl (c_PartsAt x3.2 (by assumption) (by assumption) _ _ q.l (by assumption) (by omega) _ _ tn (by omega)) (fun w hw => ⟨Reads.get (Reads.row (i := 4) rfl) w hw, Reads.get (Reads.row (i := 2) rfl) w hw⟩) rfl rfl (fun x34 hx34 => ?_))
              refine ExL.pures 3 rfl ?_
              refine ExL.op rfl (op_alloc rfl rfl rfl rfl rfl (fun b35 => ?_))
              refine ExL.op rfl (op_storeC (i := 0) rfl rfl rfl rfl rfl rfl rfl rfl rfl rfl ?_)
              refine ExL.pures 1 rfl ?_
              refine ExL.nil ?_
              refine Ex.regSeq (ExL.pures 0 rfl ?_)
              refine ExL.free (fr_loadN rfl rfl rfl rfl rfl (SegO.whole (i := 2) rfl)) rfl rfl rfl ?_
              refine ExL.free (fr_loadN rfl rfl rfl rfl rfl (SegO.whole (i := 0) rfl)) rfl rfl rfl ?_
              refine ExL.op rfl (op_ret rfl rfl rfl (c_EyeReads x3.2 (by assumption) (by assumption) _ _ q.l (by assumption) (by omega) _ _ (parL x3.2 (jF q.l) tn x3.2.length) (by first | assumption | exact parL_len _ _ _ _) (by assumption) _ (by assumption)) (fun w hw => ⟨Reads.get (Reads.row (i := 5) rfl) w hw, Reads.get (Reads.row (i := 3) rfl) w hw⟩) rfl rfl (fun x36 hx36 => ?_))
              refine ExL.pures 3 rfl ?_
              refine ExL.op rfl (op_alloc rfl rfl rfl rfl rfl (fun b37 => ?_))
              refine ExL.op rfl (op_storeC (i := 0) rfl rfl rfl rfl rfl rfl rfl rfl rfl rfl ?_)
              refine ExL.pures 1 rfl ?_
              refine ExL.nil ?_
              refine Ex.seq ?_
              refine Ex.regSeq (ExL.pures 1 rfl ?_)
              refine ExL.neq rfl rfl rfl rfl rfl rfl (fun h38 => ?_) (fun h38 => ?_)
              · refine ExL.pures 18 rfl ?_
                refine ExL.nil ?_
                refine Ex.cond_t rfl ?_
                refine Ex.regSeq (ExL.pures 1 rfl ?_)
                refine ExL.nil ?_
                refine Ex.ret ?_
                refine RetQ.mk () rfl (.tmp rfl .nil) (tB (by first | rfl | exact absurd rfl (by assumption) | (exfalso; simp_all [sameV_refl]; done) | (rw [if_pos (by omega)] at hw1; rw [hw1]; rfl) | (rw [if_neg (by omega)] at hw1; rw [hw1]; first | rfl | exact dec_t rfl) | (exfalso; rw [if_neg (by omega)] at hw1; simp_all; done))) [] (rfl) rfl (trivial)
              · refine ExL.pures 1 rfl ?_
                refine ExL.free (fr_loadN rfl rfl rfl rfl rfl (SegO.whole (i := 2) rfl)) rfl rfl rfl ?_
                refine ExL.free (fr_loadN rfl rfl rfl rfl rfl (SegO.whole (i := 5) rfl)) rfl rfl rfl ?_
                refine ExL.free (fr_neq_ints_eq (dig (digs x3.2 (tn / 1000))).l (dig (digs x3.2 sv)).l (by rw [htn]) rfl rfl rfl rfl rfl rfl rfl rfl rfl rfl) rfl rfl rfl ?_
                refine ExL.pures 3 rfl ?_
                refine ExL.free (fr_neq_f rfl rfl rfl (fun h => h rfl)) rfl rfl rfl ?_
                refine ExL.pures 3 rfl ?_
                refine ExL.free (fr_neq_f rfl rfl rfl (fun h => h rfl)) rfl rfl rfl ?_
                refine ExL.pures 2 rfl ?_
                refine ExL.free (fr_loadN rfl rfl rfl rfl rfl (SegO.whole (i := 0) rfl)) rfl rfl rfl ?_
                refine ExL.free (fr_loadN rfl rfl rfl rfl rfl (SegO.whole (i := 5) rfl)) rfl rfl rfl ?_
                refine ExL.free (fr_neq_ints_eq (dig (digs x3.2 (tn / 1000))).l (dig (digs x3.2 sv)).l (by rw [htn]) rfl rfl rfl rfl rfl rfl rfl rfl rfl rfl) rfl rfl rfl ?_
                refine ExL.pures 1 rfl ?_
                refine ExL.nil ?_
                refine Ex.cond_f rfl ?_
                refine Ex.skip ?_
                refine Ex.regSeq (ExL.pures 1 rfl ?_)
                refine ExL.free (fr_build rfl rfl rfl rfl) rfl rfl rfl ?_
                refine ExL.pures 1 rfl ?_
                refine ExL.free (fr_build rfl rfl rfl rfl) rfl rfl rfl ?_
                refine ExL.pures 1 rfl ?_
                refine ExL.free (fr_build rfl rfl rfl rfl) rfl rfl rfl ?_
                refine ExL.op rfl (op_ret rfl rfl rfl (c_CountsBetween x3.2 (by assumption) (by assumption) _ _ (by omega) sv dv (by omega) (by omega) (by first | assumption | rfl)) (Reads.get (Reads.row (i := 6) rfl)) rfl rfl (fun x39 hx39 => ?_))
                refine ExL.pures 7 rfl ?_
                refine ExL.nil ?_
                refine Ex.regSeq (ExL.pures 3 rfl ?_)
                refine ExL.op rfl (op_ret rfl rfl rfl (c_P6Photo t _ _ (by omega) (by assumption) x3.2 (by first | assumption | exact valid2) _ _ (by first | assumption | exact nums2) sv (by omega)) (fun w hw => ⟨Reads.get (Reads.old ht) w hw, Reads.get (Reads.row (i := 6) rfl) w hw⟩) rfl rfl (fun x40 hx40 => ?_))
                refine ExL.op rfl (op_alloc rfl rfl rfl rfl rfl (fun b41 => ?_))
                refine ExL.op rfl (op_storeC (i := 0) rfl rfl rfl rfl rfl rfl rfl rfl rfl rfl ?_)
                refine ExL.nil ?_
                obtain ⟨hop, hkp, hwp⟩ := id hx40
                have hvp : validPh x3.2 x40 = true := by unfold validPh; rw [hvs, hkp]; rfl
                have hPp := phOk hSk hop hkp
                have hcb := cho_le hPp hSk (i := x3.2.length) (Nat.le_refl _)
                have hdn9 : Nums 255 (dig (digs x3.2 sv)).l := by rw [dig_l (digs_len _ _)]; exact digs_num hSk.bases
                have hdo : validDig x3.2 (dig (digs x3.2 sv)).l = true := by rw [dig_l (digs_len _ _)]; exact digs_valid hSk
                have hsh : shV x3.2 x40 (dig (digs x3.2 sv)) = (true, 0) := by rw [sh_0 hvp (by rw [hvs, hdo]; rfl), dig_l (digs_len _ _), hwp]
                have hLk : ∀ k, k < [x40].length → OkPh ([x40].getD k zPh) := one_ok hop
                have hw1 := ways_one hop hvp
                refine Ex.regSeq (ExL.pures 1 rfl ?_)
                refine ExL.free (fr_loadN rfl rfl rfl rfl rfl (SegO.whole (i := 0) rfl)) rfl rfl rfl ?_
                refine ExL.free (fr_loadN rfl rfl rfl rfl rfl (SegO.whole (i := 6) rfl)) rfl rfl rfl ?_
                refine ExL.op rfl (op_ret rfl rfl rfl (c_iShows x3.2 (by assumption) _ _ (by omega) x40 (hx40.1) (dig (digs x3.2 sv)) (by assumption)) (Reads.get (Reads.row (i := 7) rfl)) rfl rfl (fun x42 hx42 => ?_))
                refine ExL.pures 5 rfl ?_
                refine ExL.nil ?_
                rw [hsh]
                refine Ex.regSeq (ExL.pures 1 rfl ?_)
                refine ExL.free (fr_loadN rfl rfl rfl rfl rfl (SegO.whole (i := 0) rfl)) rfl rfl rfl ?_
                refine ExL.op rfl (op_ret rfl rfl rfl (c_sChoices x3.2 (by assumption) _ _ (by omega) x40 (hx40.1) (by assumption)) (Reads.get (Reads.row (i := 7) rfl)) rfl rfl (fun x43 hx43 => ?_))
                refine ExL.pures 5 rfl ?_
                refine ExL.nil ?_
                refine Ex.seq ?_
                refine Ex.regSeq (ExL.pures 1 rfl ?_)
                refine ExL.neq rfl rfl rfl rfl rfl rfl (fun h44 => ?_) (fun h44 => ?_)
                · refine ExL.pures 22 rfl ?_
                  refine ExL.nil ?_
                  refine Ex.cond_t rfl ?_
                  refine Ex.regSeq (ExL.pures 1 rfl ?_)
                  refine ExL.nil ?_
                  refine Ex.ret ?_
                  refine RetQ.mk () rfl (.tmp rfl .nil) (tB (by first | rfl | exact absurd rfl (by assumption) | (exfalso; simp_all [sameV_refl]; done) | (rw [if_pos (by omega)] at hw1; rw [hw1]; rfl) | (rw [if_neg (by omega)] at hw1; rw [hw1]; first | rfl | exact dec_t rfl) | (exfalso; rw [if_neg (by omega)] at hw1; simp_all; done))) [] (rfl) rfl (trivial)
                · refine ExL.pures 3 rfl ?_
                  refine ExL.neq rfl rfl rfl rfl rfl rfl (fun h45 => ?_) (fun h45 => ?_)
                  · refine ExL.pures 18 rfl ?_
                    refine ExL.nil ?_
                    refine Ex.cond_t rfl ?_
                    refine Ex.regSeq (ExL.pures 1 rfl ?_)
                    refine ExL.nil ?_
                    refine Ex.ret ?_
                    refine RetQ.mk () rfl (.tmp rfl .nil) (tB (by first | rfl | exact absurd rfl (by assumption) | (exfalso; simp_all [sameV_refl]; done) | (rw [if_pos (by omega)] at hw1; rw [hw1]; rfl) | (rw [if_neg (by omega)] at hw1; rw [hw1]; first | rfl | exact dec_t rfl) | (exfalso; rw [if_neg (by omega)] at hw1; simp_all; done))) [] (rfl) rfl (trivial)
                  · refine ExL.pures 4 rfl ?_
                    refine ExL.free (fr_neq_f rfl rfl rfl (fun h => h rfl)) rfl rfl rfl ?_
                    refine ExL.pures 3 rfl ?_
                    refine ExL.free (fr_neq_f rfl rfl rfl (fun h => h rfl)) rfl rfl rfl ?_
                    refine ExL.pures 7 rfl ?_
                    refine ExL.free (fr_neq_f rfl rfl rfl (fun h => h rfl)) rfl rfl rfl ?_
                    refine ExL.pures 1 rfl ?_
                    refine ExL.nil ?_
                    refine Ex.cond_f rfl ?_
                    refine Ex.skip ?_
                    refine Ex.regSeq (ExL.pures 1 rfl ?_)
                    refine ExL.free (fr_loadN rfl rfl rfl rfl rfl (SegO.whole (i := 0) rfl)) rfl rfl rfl ?_
                    refine ExL.op rfl (op_buildSlice (sz := 16) rfl rfl rfl rfl rfl rfl rfl rfl (by decide) rfl rfl rfl (fun r46 => ?_))
                    refine ExL.op rfl (op_ret rfl rfl rfl (c_iWays x3.2 (by assumption) _ _ (by omega) [x40] (by assumption) _ _ (by show 1 ≤ _; omega) 0 0) (fun w hw => ⟨Reads.get (Reads.row (i := 8) rfl) w hw, Reads.get (Reads.row (i := 0) rfl) w hw⟩) rfl rfl (fun x47 hx47 => ?_))
                    refine ExL.pures 5 rfl ?_
                    refine ExL.nil ?_
                    refine Ex.seq ?_
                    refine Ex.regSeq (ExL.pures 1 rfl ?_)
                    refine ExL.gtr rfl rfl rfl rfl rfl rfl (fun h48 => ?_) (fun h48 => ?_)
                    · refine ExL.nil ?_
                      refine Ex.cond_t rfl ?_
                      refine Ex.regSeq (ExL.pures 1 rfl ?_)
                      refine ExL.eql rfl rfl rfl rfl rfl rfl (fun h49 => ?_) (fun h49 => ?_)
                      · refine ExL.pures 1 rfl ?_
                        refine ExL.nil ?_
                        refine Ex.ret ?_
                        refine RetQ.mk () rfl (.tmp rfl .nil) (tB (by first | rfl | exact absurd rfl (by assumption) | (exfalso; simp_all [sameV_refl]; done) | (rw [if_pos (by omega)] at hw1; rw [hw1]; rfl) | (rw [if_neg (by omega)] at hw1; rw [hw1]; first | rfl | exact dec_t rfl) | (exfalso; rw [if_neg (by omega)] at hw1; simp_all; done))) [] (rfl) rfl (trivial)
                      · refine ExL.pures 1 rfl ?_
                        refine ExL.nil ?_
                        refine Ex.ret ?_
                        refine RetQ.mk () rfl (.tmp rfl .nil) (tB (by first | rfl | exact absurd rfl (by assumption) | (exfalso; simp_all [sameV_refl]; done) | (rw [if_pos (by omega)] at hw1; rw [hw1]; rfl) | (rw [if_neg (by omega)] at hw1; rw [hw1]; first | rfl | exact dec_t rfl) | (exfalso; rw [if_neg (by omega)] at hw1; simp_all; done))) [] (rfl) rfl (trivial)
                    · refine ExL.nil ?_
                      refine Ex.cond_f rfl ?_
                      refine Ex.skip ?_
                      refine Ex.regSeq (ExL.pures 1 rfl ?_)
                      refine ExL.eql rfl rfl rfl rfl rfl rfl (fun h50 => ?_) (fun h50 => ?_)
                      · refine ExL.pures 3 rfl ?_
                        refine ExL.eql rfl rfl rfl rfl rfl rfl (fun h51 => ?_) (fun h51 => ?_)
                        · refine ExL.pures 2 rfl ?_
                          refine ExL.nil ?_
                          refine Ex.ret ?_
                          refine RetQ.mk () rfl (.tmp rfl .nil) (tB (by first | rfl | exact absurd rfl (by assumption) | (exfalso; simp_all [sameV_refl]; done) | (rw [if_pos (by omega)] at hw1; rw [hw1]; rfl) | (rw [if_neg (by omega)] at hw1; rw [hw1]; first | rfl | exact dec_t rfl) | (exfalso; rw [if_neg (by omega)] at hw1; simp_all; done))) [] (rfl) rfl (trivial)
                        · refine ExL.pures 2 rfl ?_
                          refine ExL.nil ?_
                          refine Ex.ret ?_
                          refine RetQ.mk () rfl (.tmp rfl .nil) (tB (by first | rfl | exact absurd rfl (by assumption) | (exfalso; simp_all [sameV_refl]; done) | (rw [if_pos (by omega)] at hw1; rw [hw1]; rfl) | (rw [if_neg (by omega)] at hw1; rw [hw1]; first | rfl | exact dec_t rfl) | (exfalso; rw [if_neg (by omega)] at hw1; simp_all; done))) [] (rfl) rfl (trivial)
                      · refine ExL.pures 6 rfl ?_
                        refine ExL.nil ?_
                        refine Ex.ret ?_
                        refine RetQ.mk () rfl (.tmp rfl .nil) (tB (by first | rfl | exact absurd rfl (by assumption) | (exfalso; simp_all [sameV_refl]; done) | (rw [if_pos (by omega)] at hw1; rw [hw1]; rfl) | (rw [if_neg (by omega)] at hw1; rw [hw1]; first | rfl | exact dec_t rfl) | (exfalso; rw [if_neg (by omega)] at hw1; simp_all; done))) [] (rfl) rfl (trivial)
end Go.Proofs.YtfcmehdmbfhodaaGreat
