/- What these functions of the program hand back, each proved by walking its operations. -/
import Derived.Test.YtepahnikcojepaaProg
import Derived.Test.YtepahnikcojepaaFw
import Derived.Test.YtepahnikcojepaaGD4
set_option linter.unusedVariables false
set_option linter.unusedSimpArgs false
set_option maxRecDepth 4000
namespace Go.Proofs.Ytepahnikcojepaa
open Go Go.Sx Go.RowKit Go.W Go.Proofs
attribute [local irreducible] Ex ExL ExD Op1 Free RetQ MutQ Reads CellO SegO LoadsAs
theorem e_8 : Enters Try.prog 8 := Enters.of Try.func8 rfl
theorem w_FnDrifts (s : List Int) (hus : Nums 255 s) (As : Option Addr) (cs : Nat) (hls : s.length ≤ maxLen) (t : List Int) (hut : Nums 255 t) (At : Option Addr) (ct : Nat) (hlt : t.length ≤ maxLen) : Ret Try.prog 8 [.slice As s.length cs, .slice At t.length ct] (fun w => Rd w As (s.flatMap (eI .u8)) ∧ Rd w At (t.flatMap (eI .u8))) (fun x : Unit => .bool true) (fun x => []) (fun x => True) := by
  refine Ret.of e_8 Try.func8 rfl Try.ntmps8 rfl rfl (fun w hpre => ?_)
  have hs := hpre.1.base
  have ht := hpre.2.base
  have hm0 : maxLen = 9223372036854775807 := rfl
  refine Ex.regSeq (ExL.pures 1 rfl ?_)
  refine ExL.nil ?_
  refine Ex.seq ?_
  refine Ex.regSeq (ExL.pures 2 rfl ?_)
  refine ExL.op rfl (op_ret rfl rfl rfl (c_a2Long s _ _ (by omega) t _ _ (by omega)) (fun _ _ => trivial) rfl rfl (fun x1 hx1 => ?_))
  refine ExL.nil ?_
  refine Ex.cond rfl (fun hb2 => ?_) (fun hb2 => ?_)
  · replace hb2 := of_decide_eq_true hb2
    refine Ex.regSeq (ExL.pures 1 rfl ?_)
    refine ExL.nil ?_
    refine Ex.ret ?_
    refine RetQ.mk () rfl (.tmp rfl .nil) (tB (by first | rfl | (exfalso; omega) | (exfalso; simp_all [sameV_refl, sameTs_refl, sameAs_refl, sameNs_refl, sameT_refl, samePs_refl]))) [] (rfl) rfl (trivial)
  · replace hb2 := of_decide_eq_false hb2
    refine Ex.skip ?_
    refine Ex.regSeq (ExL.pures 1 rfl ?_)
    refine ExL.op rfl (op_ret rfl rfl rfl (c_A2Totals s _ _ (by omega) (by assumption)) (Reads.get (Reads.old hs)) rfl rfl (fun x3 hx3 => ?_))
    obtain ⟨hTx3, hlx3, hdx3⟩ := hx3
    have hSx3 : Small x3.2 := ⟨hTx3, hlx3, hdx3⟩
    have hvx3 := tot_valid hTx3
    refine ExL.pures 1 rfl ?_
    refine ExL.nil ?_
    refine Ex.regSeq (ExL.pures 1 rfl ?_)
    refine ExL.op rfl (op_ret rfl rfl rfl (c_A2Totals t _ _ (by omega) (by assumption)) (Reads.get (Reads.old ht)) rfl rfl (fun x4 hx4 => ?_))
    obtain ⟨hTx4, hlx4, hdx4⟩ := hx4
    have hSx4 : Small x4.2 := ⟨hTx4, hlx4, hdx4⟩
    have hvx4 := tot_valid hTx4
    refine ExL.pures 1 rfl ?_
    refine ExL.nil ?_
    refine Ex.regSeq (ExL.pures 2 rfl ?_)
    refine ExL.op rfl (op_ret rfl rfl rfl (c_iWorst x3.2 _ _ (by omega) x4.2 _ _ (by omega)) (fun w hw => ⟨Reads.get (Reads.row (i := 1) rfl) w hw, Reads.get (Reads.row (i := 0) rfl) w hw⟩) rfl rfl (fun x5 hx5 => ?_))
    refine ExL.pures 7 rfl ?_
    refine ExL.nil ?_
    refine Ex.regSeq (ExL.pures 2 rfl ?_)
    refine ExL.op rfl (op_ret rfl rfl rfl (c_sWorst x3.2 _ _ (by omega) x4.2 _ _ (by omega)) (fun w hw => ⟨Reads.get (Reads.row (i := 1) rfl) w hw, Reads.get (Reads.row (i := 0) rfl) w hw⟩) rfl rfl (fun x6 hx6 => ?_))
    refine ExL.pures 7 rfl ?_
    refine ExL.nil ?_
    refine Ex.regSeq (ExL.pures 2 rfl ?_)
    refine ExL.op rfl (op_ret rfl rfl rfl (c_iBestShift x3.2 _ _ (by omega) x4.2 _ _ (by omega)) (fun w hw => ⟨Reads.get (Reads.row (i := 1) rfl) w hw, Reads.get (Reads.row (i := 0) rfl) w hw⟩) rfl rfl (fun x7 hx7 => ?_))
    refine ExL.pures 7 rfl ?_
    refine ExL.nil ?_
    refine Ex.regSeq (ExL.pures 2 rfl ?_)
    refine ExL.op rfl (op_ret rfl rfl rfl (c_sBestShift x3.2 _ _ (by omega) x4.2 _ _ (by omega)) (fun w hw => ⟨Reads.get (Reads.row (i := 1) rfl) w hw, Reads.get (Reads.row (i := 0) rfl) w hw⟩) rfl rfl (fun x8 hx8 => ?_))
    refine ExL.pures 7 rfl ?_
    refine ExL.nil ?_
    refine Ex.regSeq (ExL.pures 2 rfl ?_)
    refine ExL.op rfl (op_buildSlice (sz := 1) rfl rfl rfl rfl rfl rfl rfl rfl (by decide) rfl rfl rfl (fun r9 => ?_))
    refine ExL.op rfl (op_ret rfl rfl rfl (c_iLeaksIn x3.2 _ _ (by omega) [⟨x3.1.1, x3.1.2, x3.2⟩] _ _ (by first | omega | (simp only [List.length_cons, List.length_nil]; omega)) (by first | assumption | exact (fun e => nomatch e)) (len1 (by omega)) [x3.2] rfl _) (fun w hw => ⟨Reads.get (Reads.row (i := 2) rfl) w hw, Reads.get (Reads.row (i := 0) rfl) w hw, rd1 (Reads.get (Reads.row (i := 2) rfl) w hw)⟩) rfl rfl (fun x10 hx10 => ?_))
    refine ExL.pures 5 rfl ?_
    refine ExL.nil ?_
    refine Ex.regSeq (ExL.pures 2 rfl ?_)
    refine ExL.op rfl (op_buildSlice (sz := 1) rfl rfl rfl rfl rfl rfl rfl rfl (by decide) rfl rfl rfl (fun r11 => ?_))
    refine ExL.op rfl (op_ret rfl rfl rfl (c_iLeaksIn x3.2 _ _ (by omega) [⟨x4.1.1, x4.1.2, x4.2⟩] _ _ (by first | omega | (simp only [List.length_cons, List.length_nil]; omega)) (by first | assumption | exact (fun e => nomatch e)) (len1 (by omega)) [x4.2] rfl _) (fun w hw => ⟨Reads.get (Reads.row (i := 4) rfl) w hw, Reads.get (Reads.row (i := 0) rfl) w hw, rd1 (Reads.get (Reads.row (i := 3) rfl) w hw)⟩) rfl rfl (fun x12 hx12 => ?_))
    refine ExL.pures 5 rfl ?_
    refine ExL.nil ?_
    refine Ex.regSeq (ExL.pures 2 rfl ?_)
    refine ExL.op rfl (op_buildSlice (sz := 1) rfl rfl rfl rfl rfl rfl rfl rfl (by decide) rfl rfl rfl (fun r13 => ?_))
    refine ExL.op rfl (op_ret rfl rfl rfl (c_sLeaksIn x3.2 _ _ (by omega) [⟨x4.1.1, x4.1.2, x4.2⟩] _ _ (by first | omega | (simp only [List.length_cons, List.length_nil]; omega)) (by first | assumption | exact (fun e => nomatch e)) (len1 (by omega)) [x4.2] rfl _) (fun w hw => ⟨Reads.get (Reads.row (i := 6) rfl) w hw, Reads.get (Reads.row (i := 0) rfl) w hw, rd1 (Reads.get (Reads.row (i := 5) rfl) w hw)⟩) rfl rfl (fun x14 hx14 => ?_))
    refine ExL.pures 5 rfl ?_
    refine ExL.nil ?_
    refine Ex.seq ?_
    have hlk4 : (leakV x3.2 [x4.2] 2).1.length ≤ 400 := leak_len x3.2 [⟨none, 0, x4.2⟩] 2
    have hwc := wo_code x3.2 x4.2
    have hbc := be_code x3.2 x4.2
    have hb6 := both_small hSx3 hSx4
    have hlk1 := leak_selfs hSx3
    have hlk2 := (leak_small hSx3 hSx4 (wn := 2) ⟨by decide, by decide⟩).1
    have hlk3 := leak_six hSx3 hSx4 (wn := 2) ⟨by decide, by decide⟩
    refine Ex.regSeq (ExL.pures 2 rfl ?_)
    refine ExL.neq rfl rfl rfl rfl rfl rfl (fun h15 => ?_) (fun h15 => ?_)
    · refine ExL.pures 49 rfl ?_
      refine ExL.nil ?_
      refine Ex.cond_t rfl ?_
      refine Ex.regSeq (ExL.pures 1 rfl ?_)
      refine ExL.nil ?_
      refine Ex.ret ?_
      refine RetQ.mk () rfl (.tmp rfl .nil) (tB (by first | rfl | (exfalso; omega) | (exfalso; simp_all [sameV_refl, sameTs_refl, sameAs_refl, sameNs_refl, sameT_refl, samePs_refl]))) [] (rfl) rfl (trivial)
    · refine ExL.pures 3 rfl ?_
      refine ExL.neq rfl rfl rfl rfl rfl rfl (fun h16 => ?_) (fun h16 => ?_)
      · refine ExL.pures 45 rfl ?_
        refine ExL.nil ?_
        refine Ex.cond_t rfl ?_
        refine Ex.regSeq (ExL.pures 1 rfl ?_)
        refine ExL.nil ?_
        refine Ex.ret ?_
        refine RetQ.mk () rfl (.tmp rfl .nil) (tB (by first | rfl | (exfalso; omega) | (exfalso; simp_all [sameV_refl, sameTs_refl, sameAs_refl, sameNs_refl, sameT_refl, samePs_refl]))) [] (rfl) rfl (trivial)
      · refine ExL.pures 4 rfl ?_
        refine ExL.neq rfl rfl rfl rfl rfl rfl (fun h17 => ?_) (fun h17 => ?_)
        · refine ExL.pures 40 rfl ?_
          refine ExL.nil ?_
          refine Ex.cond_t rfl ?_
          refine Ex.regSeq (ExL.pures 1 rfl ?_)
          refine ExL.nil ?_
          refine Ex.ret ?_
          refine RetQ.mk () rfl (.tmp rfl .nil) (tB (by first | rfl | (exfalso; omega) | (exfalso; simp_all [sameV_refl, sameTs_refl, sameAs_refl, sameNs_refl, sameT_refl, samePs_refl]))) [] (rfl) rfl (trivial)
        · refine ExL.pures 4 rfl ?_
          refine ExL.neq rfl rfl rfl rfl rfl rfl (fun h18 => ?_) (fun h18 => ?_)
          · refine ExL.pures 35 rfl ?_
            refine ExL.nil ?_
            refine Ex.cond_t rfl ?_
            refine Ex.regSeq (ExL.pures 1 rfl ?_)
            refine ExL.nil ?_
            refine Ex.ret ?_
            refine RetQ.mk () rfl (.tmp rfl .nil) (tB (by first | rfl | (exfalso; omega) | (exfalso; simp_all [sameV_refl, sameTs_refl, sameAs_refl, sameNs_refl, sameT_refl, samePs_refl]))) [] (rfl) rfl (trivial)
          · refine ExL.pures 4 rfl ?_
            refine ExL.neq rfl rfl rfl rfl rfl rfl (fun h19 => ?_) (fun h19 => ?_)
            · refine ExL.pures 30 rfl ?_
              refine ExL.nil ?_
              refine Ex.cond_t rfl ?_
              refine Ex.regSeq (ExL.pures 1 rfl ?_)
              refine ExL.nil ?_
              refine Ex.ret ?_
              refine RetQ.mk () rfl (.tmp rfl .nil) (tB (by first | rfl | (exfalso; omega) | (exfalso; simp_all [sameV_refl, sameTs_refl, sameAs_refl, sameNs_refl, sameT_refl, samePs_refl]))) [] (rfl) rfl (trivial)
            · refine ExL.pures 4 rfl ?_
              refine ExL.neq rfl rfl rfl rfl rfl rfl (fun h20 => ?_) (fun h20 => ?_)
              · refine ExL.pures 25 rfl ?_
                refine ExL.nil ?_
                refine Ex.cond_t rfl ?_
                refine Ex.regSeq (ExL.pures 1 rfl ?_)
                refine ExL.nil ?_
                refine Ex.ret ?_
                refine RetQ.mk () rfl (.tmp rfl .nil) (tB (by first | rfl | (exfalso; omega) | (exfalso; simp_all [sameV_refl, sameTs_refl, sameAs_refl, sameNs_refl, sameT_refl, samePs_refl]))) [] (rfl) rfl (trivial)
              · refine ExL.pures 3 rfl ?_
                refine ExL.neq rfl rfl rfl rfl rfl rfl (fun h21 => ?_) (fun h21 => ?_)
                · refine ExL.pures 21 rfl ?_
                  refine ExL.nil ?_
                  refine Ex.cond_t rfl ?_
                  refine Ex.regSeq (ExL.pures 1 rfl ?_)
                  refine ExL.nil ?_
                  refine Ex.ret ?_
                  refine RetQ.mk () rfl (.tmp rfl .nil) (tB (by first | rfl | (exfalso; omega) | (exfalso; simp_all [sameV_refl, sameTs_refl, sameAs_refl, sameNs_refl, sameT_refl, samePs_refl]))) [] (rfl) rfl (trivial)
                · refine ExL.pures 4 rfl ?_
                  refine ExL.neq rfl rfl rfl rfl rfl rfl (fun h22 => ?_) (fun h22 => ?_)
                  · refine ExL.pures 16 rfl ?_
                    refine ExL.nil ?_
                    refine Ex.cond_t rfl ?_
                    refine Ex.regSeq (ExL.pures 1 rfl ?_)
                    refine ExL.nil ?_
                    refine Ex.ret ?_
                    refine RetQ.mk () rfl (.tmp rfl .nil) (tB (by first | rfl | (exfalso; omega) | (exfalso; simp_all [sameV_refl, sameTs_refl, sameAs_refl, sameNs_refl, sameT_refl, samePs_refl]))) [] (rfl) rfl (trivial)
                  · refine ExL.pures 4 rfl ?_
                    refine ExL.neq rfl rfl rfl rfl rfl rfl (fun h23 => ?_) (fun h23 => ?_)
                    · refine ExL.pures 11 rfl ?_
                      refine ExL.nil ?_
                      refine Ex.cond_t rfl ?_
                      refine Ex.regSeq (ExL.pures 1 rfl ?_)
                      refine ExL.nil ?_
                      refine Ex.ret ?_
                      refine RetQ.mk () rfl (.tmp rfl .nil) (tB (by first | rfl | (exfalso; omega) | (exfalso; simp_all [sameV_refl, sameTs_refl, sameAs_refl, sameNs_refl, sameT_refl, samePs_refl]))) [] (rfl) rfl (trivial)
                    · refine ExL.pures 3 rfl ?_
                      refine ExL.neq rfl rfl rfl rfl rfl rfl (fun h24 => ?_) (fun h24 => ?_)
                      · refine ExL.pures 7 rfl ?_
                        refine ExL.nil ?_
                        refine Ex.cond_t rfl ?_
                        refine Ex.regSeq (ExL.pures 1 rfl ?_)
                        refine ExL.nil ?_
                        refine Ex.ret ?_
                        refine RetQ.mk () rfl (.tmp rfl .nil) (tB (by first | rfl | (exfalso; omega) | (exfalso; simp_all [sameV_refl, sameTs_refl, sameAs_refl, sameNs_refl, sameT_refl, samePs_refl]))) [] (rfl) rfl (trivial)
                      · refine ExL.pures 4 rfl ?_
                        refine ExL.op rfl (op_ret rfl rfl rfl (c_A2Same ((leakV x3.2 [x4.2] 2).1) (x12.1) (x12.2) (by omega) ((leakV x3.2 [x4.2] 2).1) (x14.1) (x14.2) (by omega)) (fun w hw => ⟨Reads.get (Reads.row (i := 2) rfl) w hw, Reads.get (Reads.row (i := 0) rfl) w hw⟩) rfl rfl (fun x25 hx25 => ?_))
                        refine ExL.pures 2 rfl ?_
                        refine ExL.nil ?_
                        refine Ex.cond rfl (fun hb26 => ?_) (fun hb26 => ?_)
                        · replace hb26 := nd_t hb26
                          refine Ex.regSeq (ExL.pures 1 rfl ?_)
                          refine ExL.nil ?_
                          refine Ex.ret ?_
                          refine RetQ.mk () rfl (.tmp rfl .nil) (tB (by first | rfl | (exfalso; omega) | (exfalso; simp_all [sameV_refl, sameTs_refl, sameAs_refl, sameNs_refl, sameT_refl, samePs_refl]))) [] (rfl) rfl (trivial)
                        · replace hb26 := nd_f hb26
                          refine Ex.skip ?_
                          refine Ex.seq ?_
                          refine Ex.regSeq (ExL.pures 1 rfl ?_)
                          refine ExL.neq rfl rfl rfl rfl rfl rfl (fun h27 => ?_) (fun h27 => ?_)
                          · refine ExL.nil ?_
                            refine Ex.cond_t rfl ?_
                            refine Ex.regSeq (ExL.pures 1 rfl ?_)
                            refine ExL.eql rfl rfl rfl rfl rfl rfl (fun h28 => ?_) (fun h28 => ?_)
                            · refine ExL.pures 2 rfl ?_
                              refine ExL.eql rfl rfl rfl rfl rfl rfl (fun h29 => ?_) (fun h29 => ?_)
                              · refine ExL.pures 4 rfl ?_
                                refine ExL.eql rfl rfl rfl rfl rfl rfl (fun h30 => ?_) (fun h30 => ?_)
                                · refine ExL.pures 2 rfl ?_
                                  refine ExL.nil ?_
                                  refine Ex.ret ?_
                                  refine RetQ.mk () rfl (.tmp rfl .nil) (tB (by first | rfl | (exfalso; omega) | (exfalso; simp_all [sameV_refl, sameTs_refl, sameAs_refl, sameNs_refl, sameT_refl, samePs_refl]))) [] (rfl) rfl (trivial)
                                · refine ExL.pures 2 rfl ?_
                                  refine ExL.nil ?_
                                  refine Ex.ret ?_
                                  refine RetQ.mk () rfl (.tmp rfl .nil) (tB (by first | rfl | (exfalso; omega) | (exfalso; simp_all [sameV_refl, sameTs_refl, sameAs_refl, sameNs_refl, sameT_refl, samePs_refl]))) [] (rfl) rfl (trivial)
                              · refine ExL.pures 7 rfl ?_
                                refine ExL.nil ?_
                                refine Ex.ret ?_
                                refine RetQ.mk () rfl (.tmp rfl .nil) (tB (by first | rfl | (exfalso; omega) | (exfalso; simp_all [sameV_refl, sameTs_refl, sameAs_refl, sameNs_refl, sameT_refl, samePs_refl]))) [] (rfl) rfl (trivial)
                            · refine ExL.pures 10 rfl ?_
                              refine ExL.nil ?_
                              refine Ex.ret ?_
                              refine RetQ.mk () rfl (.tmp rfl .nil) (tB (by first | rfl | (exfalso; omega) | (exfalso; simp_all [sameV_refl, sameTs_refl, sameAs_refl, sameNs_refl, sameT_refl, samePs_refl]))) [] (rfl) rfl (trivial)
                          · refine ExL.nil ?_
                            refine Ex.cond_f rfl ?_
                            refine Ex.skip ?_
                            have hcode : (bothV x3.2 x4.2).2.2 = 0 := by omega
                            have hwb := worst_bd hcode
                            have hend := lw_end hSx3 hcode
                            have hBo := both hcode
                            have hB0 := hBo.lo
                            have hBl := hBo.le
                            refine Ex.regSeq (ExL.pures 1 rfl ?_)
                            refine ExL.nil ?_
                            refine Ex.regSeq (ExL.pures 1 rfl ?_)
                            refine ExL.nil ?_
                            refine Ex.regSeq (ExL.pures 1 rfl ?_)
                            refine ExL.nil ?_
                            refine Ex.seq ?_
                            refine Ex.regSeq (ExL.pures 1 rfl ?_)
                            refine ExL.nil ?_
                            refine Ex.block ?_
                            refine Ex.loopK (X := Nat) (fun k => [(25, .int .i64 (lwV x3.2 x4.2 k)), (26, .int .i64 (hwV x3.2 x4.2 k)), (27, .bool (decide ((bothV x3.2 x4.2).1 < (k : Int)))), (28, .int .i64 k)]) (fun k => []) (fun k => k ≤ 61) (fun k => 61 - k) 0 [(5, _), (6, _), (10, _), (11, _), (15, _), (16, _), (17, _)] [_, _] 8 [6, 7] ⟨agI (by unfold lwV; rw [if_pos (by omega)]), agI (by unfold hwV; rw [if_pos (by omega)]), agB (dec_f (by omega)), rfl, trivial⟩ ⟨rfl, rfl, rfl, rfl, rfl, rfl, rfl, trivial⟩ (rfl) rfl (by omega) (fun k hI => ?_)
                            have hI : k ≤ 61 := hI
                            refine Ex.seq ?_
                            refine Ex.regSeq (ExL.pures 1 rfl ?_)
                            refine ExL.leq rfl rfl rfl rfl rfl rfl (fun h31 => ?_) (fun h31 => ?_)
                            · refine ExL.nil ?_
                              refine Ex.cond_t rfl ?_
                              refine Ex.skip ?_
                              refine Ex.seq ?_
                              refine Ex.block ?_
                              have hdb := dri_bd (tot (by assumption : validTot x3.2 = true)) (tot (by assumption : validTot x4.2 = true)) (k : Int)
                              refine Ex.regSeq (ExL.pures 3 rfl ?_)
                              refine ExL.op rfl (op_ret rfl rfl rfl (c_iDriftOn x3.2 (by assumption) _ _ (by omega) x4.2 (by assumption) _ _ (by omega) _) (fun w hw => ⟨Reads.get (Reads.row (i := 1) rfl) w hw, Reads.get (Reads.row (i := 0) rfl) w hw⟩) rfl rfl (fun x32 hx32 => ?_))
                              refine ExL.pures 5 rfl ?_
                              refine ExL.nil ?_
                              refine Ex.regSeq (ExL.pures 3 rfl ?_)
                              refine ExL.op rfl (op_ret rfl rfl rfl (c_sDriftOn x3.2 (by assumption) _ _ (by omega) x4.2 (by assumption) _ _ (by omega) _) (fun w hw => ⟨Reads.get (Reads.row (i := 1) rfl) w hw, Reads.get (Reads.row (i := 0) rfl) w hw⟩) rfl rfl (fun x33 hx33 => ?_))
                              refine ExL.pures 5 rfl ?_
                              refine ExL.nil ?_
                              refine Ex.seq ?_
                              refine Ex.regSeq (ExL.pures 2 rfl ?_)
                              refine ExL.neq rfl rfl rfl rfl rfl rfl (fun h34 => ?_) (fun h34 => ?_)
                              · refine ExL.pures 5 rfl ?_
                                refine ExL.nil ?_
                                refine Ex.cond_t rfl ?_
                                refine Ex.regSeq (ExL.pures 1 rfl ?_)
                                refine ExL.nil ?_
                                refine Ex.ret ?_
                                refine RetQ.mk () rfl (.tmp rfl .nil) (tB (by first | rfl | (exfalso; omega) | (exfalso; simp_all [sameV_refl, sameTs_refl, sameAs_refl, sameNs_refl, sameT_refl, samePs_refl]))) [] (rfl) rfl (trivial)
                              · refine ExL.pures 3 rfl ?_
                                refine ExL.neq rfl rfl rfl rfl rfl rfl (fun h35 => ?_) (fun h35 => ?_)
                                · refine ExL.pures 1 rfl ?_
                                  refine ExL.nil ?_
                                  refine Ex.cond_t rfl ?_
                                  refine Ex.regSeq (ExL.pures 1 rfl ?_)
                                  refine ExL.nil ?_
                                  refine Ex.ret ?_
                                  refine RetQ.mk () rfl (.tmp rfl .nil) (tB (by first | rfl | (exfalso; omega) | (exfalso; simp_all [sameV_refl, sameTs_refl, sameAs_refl, sameNs_refl, sameT_refl, samePs_refl]))) [] (rfl) rfl (trivial)
                                · refine ExL.pures 1 rfl ?_
                                  refine ExL.nil ?_
                                  refine Ex.cond_f rfl ?_
                                  refine Ex.skip ?_
                                  refine Ex.seq ?_
                                  refine Ex.regSeq (ExL.pures 1 rfl ?_)
                                  refine ExL.neq rfl rfl rfl rfl rfl rfl (fun h36 => ?_) (fun h36 => ?_)
                                  · refine ExL.nil ?_
                                    refine Ex.cond_t rfl ?_
                                    refine Ex.exit ?_
                                    refine Ex.region (ExL.pures 1 rfl ?_)
                                    refine ExL.free (by first | exact fr_add64 rfl rfl rfl (by omega) | exact fr_add rfl rfl rfl) rfl rfl rfl ?_
                                    refine ExL.pures 1 rfl ?_
                                    refine ExL.nil ?_
                                    refine Hand.mk (k + 1) 2 [0, 1] ⟨agI (by first | exact (lw_no hcode (day_no hcode (by omega) (by omega))).1.symm | (rw [hyes.2.2.1, (lw_first hcode (by omega)).1]; omega) | (rw [hyes.2.2.1, (lw_step hcode (by omega) (by omega)).1])), agI (by first | exact (lw_no hcode (day_no hcode (by omega) (by omega))).2.symm | (rw [hyes.2.2.1, (lw_first hcode (by omega)).2]; omega) | (rw [hyes.2.2.1, (lw_step hcode (by omega) (by omega)).2])), agB (by first | exact dec_t (by omega) | exact decide_eq_decide.2 (by have h9 := day_no hcode (day := (k : Int)) (by omega) (by omega); omega)), rfl, trivial⟩ ⟨rfl, rfl, rfl, rfl, rfl, rfl, rfl, trivial⟩ (rfl) rfl (by omega) (by omega)
                                  · refine ExL.nil ?_
                                    refine Ex.cond_f rfl ?_
                                    refine Ex.skip ?_
                                    refine Ex.seq ?_
                                    have hyes := day_yes hcode (day := (k : Int)) (by omega)
                                    refine Ex.regSeq (ExL.pures 2 rfl ?_)
                                    refine ExL.free (by first | exact fr_neg64 rfl rfl (by omega) | exact fr_neg rfl rfl) rfl rfl rfl ?_
                                    refine ExL.free (fr_max rfl rfl rfl) rfl rfl rfl ?_
                                    refine ExL.pures 2 rfl ?_
                                    refine ExL.free (by first | exact fr_neg64 rfl rfl (by omega) | exact fr_neg rfl rfl) rfl rfl rfl ?_
                                    refine ExL.free (fr_max rfl rfl rfl) rfl rfl rfl ?_
                                    refine ExL.gtr rfl rfl rfl rfl rfl rfl (fun h37 => ?_) (fun h37 => ?_)
                                    · refine ExL.pures 26 rfl ?_
                                      refine ExL.nil ?_
                                      refine Ex.cond_t rfl ?_
                                      refine Ex.regSeq (ExL.pures 1 rfl ?_)
                                      refine ExL.nil ?_
                                      refine Ex.ret ?_
                                      refine RetQ.mk () rfl (.tmp rfl .nil) (tB (by first | rfl | (exfalso; omega) | (exfalso; simp_all [sameV_refl, sameTs_refl, sameAs_refl, sameNs_refl, sameT_refl, samePs_refl]))) [] (rfl) rfl (trivial)
                                    · refine ExL.pures 3 rfl ?_
                                      refine ExL.eql rfl rfl rfl rfl rfl rfl (fun h38 => ?_) (fun h38 => ?_)
                                      · refine ExL.pures 3 rfl ?_
                                        refine ExL.neq rfl rfl rfl rfl rfl rfl (fun h39 => ?_) (fun h39 => ?_)
                                        · refine ExL.pures 18 rfl ?_
                                          refine ExL.nil ?_
                                          refine Ex.cond_t rfl ?_
                                          refine Ex.regSeq (ExL.pures 1 rfl ?_)
                                          refine ExL.nil ?_
                                          refine Ex.ret ?_
                                          refine RetQ.mk () rfl (.tmp rfl .nil) (tB (by first | rfl | (exfalso; omega) | (exfalso; simp_all [sameV_refl, sameTs_refl, sameAs_refl, sameNs_refl, sameT_refl, samePs_refl]))) [] (rfl) rfl (trivial)
                                        · refine ExL.pures 5 rfl ?_
                                          refine ExL.lss rfl rfl rfl rfl rfl rfl (fun h40 => ?_) (fun h40 => ?_)
                                          · refine ExL.pures 3 rfl ?_
                                            refine ExL.free (by first | exact fr_neg64 rfl rfl (by omega) | exact fr_neg rfl rfl) rfl rfl rfl ?_
                                            refine ExL.free (fr_max rfl rfl rfl) rfl rfl rfl ?_
                                            refine ExL.pures 2 rfl ?_
                                            refine ExL.free (by first | exact fr_neg64 rfl rfl (by omega) | exact fr_neg rfl rfl) rfl rfl rfl ?_
                                            refine ExL.free (fr_max rfl rfl rfl) rfl rfl rfl ?_
                                            refine ExL.eql rfl rfl rfl rfl rfl rfl (fun h41 => ?_) (fun h41 => ?_)
                                            · refine ExL.pures 2 rfl ?_
                                              refine ExL.nil ?_
                                              refine Ex.cond_t rfl ?_
                                              refine Ex.regSeq (ExL.pures 1 rfl ?_)
                                              refine ExL.nil ?_
                                              refine Ex.ret ?_
                                              refine RetQ.mk () rfl (.tmp rfl .nil) (tB (by first | rfl | (exfalso; omega) | (exfalso; simp_all [sameV_refl, sameTs_refl, sameAs_refl, sameNs_refl, sameT_refl, samePs_refl]))) [] (rfl) rfl (trivial)
                                            · refine ExL.pures 2 rfl ?_
                                              refine ExL.nil ?_
                                              refine Ex.cond_f rfl ?_
                                              refine Ex.skip ?_
                                              refine Ex.seq ?_
                                              refine Ex.regSeq (ExL.pures 2 rfl ?_)
                                              refine ExL.nil ?_
                                              refine Ex.cond rfl (fun hb42 => ?_) (fun hb42 => ?_)
                                              · replace hb42 := nd_t hb42
                                                refine Ex.regSeq (ExL.pures 2 rfl ?_)
                                                refine ExL.nil ?_
                                                refine Ex.region (ExL.pures 2 rfl ?_)
                                                refine ExL.nil ?_
                                                refine Ex.regSeq (ExL.pures 1 rfl ?_)
                                                refine ExL.nil ?_
                                                refine Ex.regSeq (ExL.pures 2 rfl ?_)
                                                refine ExL.free (fr_min rfl rfl rfl) rfl rfl rfl ?_
                                                refine ExL.pures 1 rfl ?_
                                                refine ExL.nil ?_
                                                refine Ex.region (ExL.pures 2 rfl ?_)
                                                refine ExL.free (fr_max rfl rfl rfl) rfl rfl rfl ?_
                                                refine ExL.pures 1 rfl ?_
                                                refine ExL.nil ?_
                                                refine Ex.region (ExL.pures 1 rfl ?_)
                                                refine ExL.free (by first | exact fr_add64 rfl rfl rfl (by omega) | exact fr_add rfl rfl rfl) rfl rfl rfl ?_
                                                refine ExL.pures 1 rfl ?_
                                                refine ExL.nil ?_
                                                refine Hand.mk (k + 1) 2 [0, 1] ⟨agI (by first | exact (lw_no hcode (day_no hcode (by omega) (by omega))).1.symm | (rw [hyes.2.2.1, (lw_first hcode (by omega)).1]; omega) | (rw [hyes.2.2.1, (lw_step hcode (by omega) (by omega)).1])), agI (by first | exact (lw_no hcode (day_no hcode (by omega) (by omega))).2.symm | (rw [hyes.2.2.1, (lw_first hcode (by omega)).2]; omega) | (rw [hyes.2.2.1, (lw_step hcode (by omega) (by omega)).2])), agB (by first | exact dec_t (by omega) | exact decide_eq_decide.2 (by have h9 := day_no hcode (day := (k : Int)) (by omega) (by omega); omega)), rfl, trivial⟩ ⟨rfl, rfl, rfl, rfl, rfl, rfl, rfl, trivial⟩ (rfl) rfl (by omega) (by omega)
                                              · replace hb42 := nd_f hb42
                                                refine Ex.skip ?_
                                                refine Ex.regSeq (ExL.pures 1 rfl ?_)
                                                refine ExL.nil ?_
                                                refine Ex.regSeq (ExL.pures 2 rfl ?_)
                                                refine ExL.free (fr_min rfl rfl rfl) rfl rfl rfl ?_
                                                refine ExL.pures 1 rfl ?_
                                                refine ExL.nil ?_
                                                refine Ex.region (ExL.pures 2 rfl ?_)
                                                refine ExL.free (fr_max rfl rfl rfl) rfl rfl rfl ?_
                                                refine ExL.pures 1 rfl ?_
                                                refine ExL.nil ?_
                                                refine Ex.region (ExL.pures 1 rfl ?_)
                                                refine ExL.free (by first | exact fr_add64 rfl rfl rfl (by omega) | exact fr_add rfl rfl rfl) rfl rfl rfl ?_
                                                refine ExL.pures 1 rfl ?_
                                                refine ExL.nil ?_
                                                refine Hand.mk (k + 1) 2 [0, 1] ⟨agI (by first | exact (lw_no hcode (day_no hcode (by omega) (by omega))).1.symm | (rw [hyes.2.2.1, (lw_first hcode (by omega)).1]; omega) | (rw [hyes.2.2.1, (lw_step hcode (by omega) (by omega)).1])), agI (by first | exact (lw_no hcode (day_no hcode (by omega) (by omega))).2.symm | (rw [hyes.2.2.1, (lw_first hcode (by omega)).2]; omega) | (rw [hyes.2.2.1, (lw_step hcode (by omega) (by omega)).2])), agB (by first | exact dec_t (by omega) | exact decide_eq_decide.2 (by have h9 := day_no hcode (day := (k : Int)) (by omega) (by omega); omega)), rfl, trivial⟩ ⟨rfl, rfl, rfl, rfl, rfl, rfl, rfl, trivial⟩ (rfl) rfl (by omega) (by omega)
                                          · refine ExL.pures 12 rfl ?_
                                            refine ExL.nil ?_
                                            refine Ex.cond_f rfl ?_
                                            refine Ex.skip ?_
                                            refine Ex.seq ?_
                                            refine Ex.regSeq (ExL.pures 2 rfl ?_)
                                            refine ExL.nil ?_
                                            refine Ex.cond rfl (fun hb43 => ?_) (fun hb43 => ?_)
                                            · replace hb43 := nd_t hb43
                                              refine Ex.regSeq (ExL.pures 2 rfl ?_)
                                              refine ExL.nil ?_
                                              refine Ex.region (ExL.pures 2 rfl ?_)
                                              refine ExL.nil ?_
                                              refine Ex.regSeq (ExL.pures 1 rfl ?_)
                                              refine ExL.nil ?_
                                              refine Ex.regSeq (ExL.pures 2 rfl ?_)
                                              refine ExL.free (fr_min rfl rfl rfl) rfl rfl rfl ?_
                                              refine ExL.pures 1 rfl ?_
                                              refine ExL.nil ?_
                                              refine Ex.region (ExL.pures 2 rfl ?_)
                                              refine ExL.free (fr_max rfl rfl rfl) rfl rfl rfl ?_
                                              refine ExL.pures 1 rfl ?_
                                              refine ExL.nil ?_
                                              refine Ex.region (ExL.pures 1 rfl ?_)
                                              refine ExL.free (by first | exact fr_add64 rfl rfl rfl (by omega) | exact fr_add rfl rfl rfl) rfl rfl rfl ?_
                                              refine ExL.pures 1 rfl ?_
                                              refine ExL.nil ?_
                                              refine Hand.mk (k + 1) 2 [0, 1] ⟨agI (by first | exact (lw_no hcode (day_no hcode (by omega) (by omega))).1.symm | (rw [hyes.2.2.1, (lw_first hcode (by omega)).1]; omega) | (rw [hyes.2.2.1, (lw_step hcode (by omega) (by omega)).1])), agI (by first | exact (lw_no hcode (day_no hcode (by omega) (by omega))).2.symm | (rw [hyes.2.2.1, (lw_first hcode (by omega)).2]; omega) | (rw [hyes.2.2.1, (lw_step hcode (by omega) (by omega)).2])), agB (by first | exact dec_t (by omega) | exact decide_eq_decide.2 (by have h9 := day_no hcode (day := (k : Int)) (by omega) (by omega); omega)), rfl, trivial⟩ ⟨rfl, rfl, rfl, rfl, rfl, rfl, rfl, trivial⟩ (rfl) rfl (by omega) (by omega)
                                            · replace hb43 := nd_f hb43
                                              refine Ex.skip ?_
                                              refine Ex.regSeq (ExL.pures 1 rfl ?_)
                                              refine ExL.nil ?_
                                              refine Ex.regSeq (ExL.pures 2 rfl ?_)
                                              refine ExL.free (fr_min rfl rfl rfl) rfl rfl rfl ?_
                                              refine ExL.pures 1 rfl ?_
                                              refine ExL.nil ?_
                                              refine Ex.region (ExL.pures 2 rfl ?_)
                                              refine ExL.free (fr_max rfl rfl rfl) rfl rfl rfl ?_
                                              refine ExL.pures 1 rfl ?_
                                              refine ExL.nil ?_
                                              refine Ex.region (ExL.pures 1 rfl ?_)
                                              refine ExL.free (by first | exact fr_add64 rfl rfl rfl (by omega) | exact fr_add rfl rfl rfl) rfl rfl rfl ?_
                                              refine ExL.pures 1 rfl ?_
                                              refine ExL.nil ?_
                                              refine Hand.mk (k + 1) 2 [0, 1] ⟨agI (by first | exact (lw_no hcode (day_no hcode (by omega) (by omega))).1.symm | (rw [hyes.2.2.1, (lw_first hcode (by omega)).1]; omega) | (rw [hyes.2.2.1, (lw_step hcode (by omega) (by omega)).1])), agI (by first | exact (lw_no hcode (day_no hcode (by omega) (by omega))).2.symm | (rw [hyes.2.2.1, (lw_first hcode (by omega)).2]; omega) | (rw [hyes.2.2.1, (lw_step hcode (by omega) (by omega)).2])), agB (by first | exact dec_t (by omega) | exact decide_eq_decide.2 (by have h9 := day_no hcode (day := (k : Int)) (by omega) (by omega); omega)), rfl, trivial⟩ ⟨rfl, rfl, rfl, rfl, rfl, rfl, rfl, trivial⟩ (rfl) rfl (by omega) (by omega)
                                      · refine ExL.pures 9 rfl ?_
                                        refine ExL.lss rfl rfl rfl rfl rfl rfl (fun h44 => ?_) (fun h44 => ?_)
                                        · refine ExL.pures 3 rfl ?_
                                          refine ExL.free (by first | exact fr_neg64 rfl rfl (by omega) | exact fr_neg rfl rfl) rfl rfl rfl ?_
                                          refine ExL.free (fr_max rfl rfl rfl) rfl rfl rfl ?_
                                          refine ExL.pures 2 rfl ?_
                                          refine ExL.free (by first | exact fr_neg64 rfl rfl (by omega) | exact fr_neg rfl rfl) rfl rfl rfl ?_
                                          refine ExL.free (fr_max rfl rfl rfl) rfl rfl rfl ?_
                                          refine ExL.eql rfl rfl rfl rfl rfl rfl (fun h45 => ?_) (fun h45 => ?_)
                                          · refine ExL.pures 2 rfl ?_
                                            refine ExL.nil ?_
                                            refine Ex.cond_t rfl ?_
                                            refine Ex.regSeq (ExL.pures 1 rfl ?_)
                                            refine ExL.nil ?_
                                            refine Ex.ret ?_
                                            refine RetQ.mk () rfl (.tmp rfl .nil) (tB (by first | rfl | (exfalso; omega) | (exfalso; simp_all [sameV_refl, sameTs_refl, sameAs_refl, sameNs_refl, sameT_refl, samePs_refl]))) [] (rfl) rfl (trivial)
                                          · refine ExL.pures 2 rfl ?_
                                            refine ExL.nil ?_
                                            refine Ex.cond_f rfl ?_
                                            refine Ex.skip ?_
                                            refine Ex.seq ?_
                                            refine Ex.regSeq (ExL.pures 2 rfl ?_)
                                            refine ExL.nil ?_
                                            refine Ex.cond rfl (fun hb46 => ?_) (fun hb46 => ?_)
                                            · replace hb46 := nd_t hb46
                                              refine Ex.regSeq (ExL.pures 2 rfl ?_)
                                              refine ExL.nil ?_
                                              refine Ex.region (ExL.pures 2 rfl ?_)
                                              refine ExL.nil ?_
                                              refine Ex.regSeq (ExL.pures 1 rfl ?_)
                                              refine ExL.nil ?_
                                              refine Ex.regSeq (ExL.pures 2 rfl ?_)
                                              refine ExL.free (fr_min rfl rfl rfl) rfl rfl rfl ?_
                                              refine ExL.pures 1 rfl ?_
                                              refine ExL.nil ?_
                                              refine Ex.region (ExL.pures 2 rfl ?_)
                                              refine ExL.free (fr_max rfl rfl rfl) rfl rfl rfl ?_
                                              refine ExL.pures 1 rfl ?_
                                              refine ExL.nil ?_
                                              refine Ex.region (ExL.pures 1 rfl ?_)
                                              refine ExL.free (by first | exact fr_add64 rfl rfl rfl (by omega) | exact fr_add rfl rfl rfl) rfl rfl rfl ?_
                                              refine ExL.pures 1 rfl ?_
                                              refine ExL.nil ?_
                                              refine Hand.mk (k + 1) 2 [0, 1] ⟨agI (by first | exact (lw_no hcode (day_no hcode (by omega) (by omega))).1.symm | (rw [hyes.2.2.1, (lw_first hcode (by omega)).1]; omega) | (rw [hyes.2.2.1, (lw_step hcode (by omega) (by omega)).1])), agI (by first | exact (lw_no hcode (day_no hcode (by omega) (by omega))).2.symm | (rw [hyes.2.2.1, (lw_first hcode (by omega)).2]; omega) | (rw [hyes.2.2.1, (lw_step hcode (by omega) (by omega)).2])), agB (by first | exact dec_t (by omega) | exact decide_eq_decide.2 (by have h9 := day_no hcode (day := (k : Int)) (by omega) (by omega); omega)), rfl, trivial⟩ ⟨rfl, rfl, rfl, rfl, rfl, rfl, rfl, trivial⟩ (rfl) rfl (by omega) (by omega)
                                            · replace hb46 := nd_f hb46
                                              refine Ex.skip ?_
                                              refine Ex.regSeq (ExL.pures 1 rfl ?_)
                                              refine ExL.nil ?_
                                              refine Ex.regSeq (ExL.pures 2 rfl ?_)
                                              refine ExL.free (fr_min rfl rfl rfl) rfl rfl rfl ?_
                                              refine ExL.pures 1 rfl ?_
                                              refine ExL.nil ?_
                                              refine Ex.region (ExL.pures 2 rfl ?_)
                                              refine ExL.free (fr_max rfl rfl rfl) rfl rfl rfl ?_
                                              refine ExL.pures 1 rfl ?_
                                              refine ExL.nil ?_
                                              refine Ex.region (ExL.pures 1 rfl ?_)
                                              refine ExL.free (by first | exact fr_add64 rfl rfl rfl (by omega) | exact fr_add rfl rfl rfl) rfl rfl rfl ?_
                                              refine ExL.pures 1 rfl ?_
                                              refine ExL.nil ?_
                                              refine Hand.mk (k + 1) 2 [0, 1] ⟨agI (by first | exact (lw_no hcode (day_no hcode (by omega) (by omega))).1.symm | (rw [hyes.2.2.1, (lw_first hcode (by omega)).1]; omega) | (rw [hyes.2.2.1, (lw_step hcode (by omega) (by omega)).1])), agI (by first | exact (lw_no hcode (day_no hcode (by omega) (by omega))).2.symm | (rw [hyes.2.2.1, (lw_first hcode (by omega)).2]; omega) | (rw [hyes.2.2.1, (lw_step hcode (by omega) (by omega)).2])), agB (by first | exact dec_t (by omega) | exact decide_eq_decide.2 (by have h9 := day_no hcode (day := (k : Int)) (by omega) (by omega); omega)), rfl, trivial⟩ ⟨rfl, rfl, rfl, rfl, rfl, rfl, rfl, trivial⟩ (rfl) rfl (by omega) (by omega)
                                        · refine ExL.pures 12 rfl ?_
                                          refine ExL.nil ?_
                                          refine Ex.cond_f rfl ?_
                                          refine Ex.skip ?_
                                          refine Ex.seq ?_
                                          refine Ex.regSeq (ExL.pures 2 rfl ?_)
                                          refine ExL.nil ?_
                                          refine Ex.cond rfl (fun hb47 => ?_) (fun hb47 => ?_)
                                          · replace hb47 := nd_t hb47
                                            refine Ex.regSeq (ExL.pures 2 rfl ?_)
                                            refine ExL.nil ?_
                                            refine Ex.region (ExL.pures 2 rfl ?_)
                                            refine ExL.nil ?_
                                            refine Ex.regSeq (ExL.pures 1 rfl ?_)
                                            refine ExL.nil ?_
                                            refine Ex.regSeq (ExL.pures 2 rfl ?_)
                                            refine ExL.free (fr_min rfl rfl rfl) rfl rfl rfl ?_
                                            refine ExL.pures 1 rfl ?_
                                            refine ExL.nil ?_
                                            refine Ex.region (ExL.pures 2 rfl ?_)
                                            refine ExL.free (fr_max rfl rfl rfl) rfl rfl rfl ?_
                                            refine ExL.pures 1 rfl ?_
                                            refine ExL.nil ?_
                                            refine Ex.region (ExL.pures 1 rfl ?_)
                                            refine ExL.free (by first | exact fr_add64 rfl rfl rfl (by omega) | exact fr_add rfl rfl rfl) rfl rfl rfl ?_
                                            refine ExL.pures 1 rfl ?_
                                            refine ExL.nil ?_
                                            refine Hand.mk (k + 1) 2 [0, 1] ⟨agI (by first | exact (lw_no hcode (day_no hcode (by omega) (by omega))).1.symm | (rw [hyes.2.2.1, (lw_first hcode (by omega)).1]; omega) | (rw [hyes.2.2.1, (lw_step hcode (by omega) (by omega)).1])), agI (by first | exact (lw_no hcode (day_no hcode (by omega) (by omega))).2.symm | (rw [hyes.2.2.1, (lw_first hcode (by omega)).2]; omega) | (rw [hyes.2.2.1, (lw_step hcode (by omega) (by omega)).2])), agB (by first | exact dec_t (by omega) | exact decide_eq_decide.2 (by have h9 := day_no hcode (day := (k : Int)) (by omega) (by omega); omega)), rfl, trivial⟩ ⟨rfl, rfl, rfl, rfl, rfl, rfl, rfl, trivial⟩ (rfl) rfl (by omega) (by omega)
                                          · replace hb47 := nd_f hb47
                                            refine Ex.skip ?_
                                            refine Ex.regSeq (ExL.pures 1 rfl ?_)
                                            refine ExL.nil ?_
                                            refine Ex.regSeq (ExL.pures 2 rfl ?_)
                                            refine ExL.free (fr_min rfl rfl rfl) rfl rfl rfl ?_
                                            refine ExL.pures 1 rfl ?_
                                            refine ExL.nil ?_
                                            refine Ex.region (ExL.pures 2 rfl ?_)
                                            refine ExL.free (fr_max rfl rfl rfl) rfl rfl rfl ?_
                                            refine ExL.pures 1 rfl ?_
                                            refine ExL.nil ?_
                                            refine Ex.region (ExL.pures 1 rfl ?_)
                                            refine ExL.free (by first | exact fr_add64 rfl rfl rfl (by omega) | exact fr_add rfl rfl rfl) rfl rfl rfl ?_
                                            refine ExL.pures 1 rfl ?_
                                            refine ExL.nil ?_
                                            refine Hand.mk (k + 1) 2 [0, 1] ⟨agI (by first | exact (lw_no hcode (day_no hcode (by omega) (by omega))).1.symm | (rw [hyes.2.2.1, (lw_first hcode (by omega)).1]; omega) | (rw [hyes.2.2.1, (lw_step hcode (by omega) (by omega)).1])), agI (by first | exact (lw_no hcode (day_no hcode (by omega) (by omega))).2.symm | (rw [hyes.2.2.1, (lw_first hcode (by omega)).2]; omega) | (rw [hyes.2.2.1, (lw_step hcode (by omega) (by omega)).2])), agB (by first | exact dec_t (by omega) | exact decide_eq_decide.2 (by have h9 := day_no hcode (day := (k : Int)) (by omega) (by omega); omega)), rfl, trivial⟩ ⟨rfl, rfl, rfl, rfl, rfl, rfl, rfl, trivial⟩ (rfl) rfl (by omega) (by omega)
                            · refine ExL.nil ?_
                              refine Ex.cond_f rfl ?_
                              refine Ex.exit ?_
                              obtain rfl : k = 61 := (by omega)
                              refine Ex.regSeq (ExL.pures 2 rfl ?_)
                              refine ExL.bool (d := 228) rfl (fun hb48 => ?_) (fun hb48 => ?_)
                              · replace hb48 := of_decide_eq_true hb48
                                refine ExL.pures 1 rfl ?_
                                refine ExL.eql rfl rfl rfl rfl rfl rfl (fun h49 => ?_) (fun h49 => ?_)
                                · refine ExL.pures 5 rfl ?_
                                  refine ExL.free (by first | exact fr_sub64 rfl rfl rfl (by omega) | exact fr_sub rfl rfl rfl) rfl rfl rfl ?_
                                  refine ExL.pures 2 rfl ?_
                                  refine ExL.free (by first | exact fr_sub64 rfl rfl rfl (by omega) | exact fr_sub rfl rfl rfl) rfl rfl rfl ?_
                                  refine ExL.free (fr_max rfl rfl rfl) rfl rfl rfl ?_
                                  refine ExL.eql rfl rfl rfl rfl rfl rfl (fun h50 => ?_) (fun h50 => ?_)
                                  · refine ExL.pures 5 rfl ?_
                                    refine ExL.free (by first | exact fr_sub64 rfl rfl rfl (by omega) | exact fr_sub rfl rfl rfl) rfl rfl rfl ?_
                                    refine ExL.free (by first | exact fr_add64 rfl rfl rfl (by omega) | exact fr_add rfl rfl rfl) rfl rfl rfl ?_
                                    refine ExL.free (fr_max rfl rfl rfl) rfl rfl rfl ?_
                                    refine ExL.free (by first | exact fr_quo64 rfl rfl rfl (by omega) | exact fr_quo rfl rfl rfl (by omega)) rfl rfl rfl ?_
                                    refine ExL.eql rfl rfl rfl rfl rfl rfl (fun h51 => ?_) (fun h51 => ?_)
                                    · refine ExL.pures 4 rfl ?_
                                      refine ExL.free (by first | exact fr_sub64 rfl rfl rfl (by omega) | exact fr_sub rfl rfl rfl) rfl rfl rfl ?_
                                      refine ExL.free (by first | exact fr_add64 rfl rfl rfl (by omega) | exact fr_add rfl rfl rfl) rfl rfl rfl ?_
                                      refine ExL.pures 1 rfl ?_
                                      refine ExL.free (by first | exact fr_sub64 rfl rfl rfl (by omega) | exact fr_sub rfl rfl rfl) rfl rfl rfl ?_
                                      refine ExL.pures 1 rfl ?_
                                      refine ExL.free (by first | exact fr_sub64 rfl rfl rfl (by omega) | exact fr_sub rfl rfl rfl) rfl rfl rfl ?_
                                      refine ExL.free (fr_max rfl rfl rfl) rfl rfl rfl ?_
                                      refine ExL.pures 1 rfl ?_
                                      refine ExL.gtr rfl rfl rfl rfl rfl rfl (fun h52 => ?_) (fun h52 => ?_)
                                      · refine ExL.pures 2 rfl ?_
                                        refine ExL.nil ?_
                                        refine Ex.ret ?_
                                        refine RetQ.mk () rfl (.tmp rfl .nil) (tB (by first | rfl | (exfalso; omega) | (exfalso; simp_all [sameV_refl, sameTs_refl, sameAs_refl, sameNs_refl, sameT_refl, samePs_refl]))) [] (rfl) rfl (trivial)
                                      · refine ExL.pures 2 rfl ?_
                                        refine ExL.nil ?_
                                        refine Ex.ret ?_
                                        refine RetQ.mk () rfl (.tmp rfl .nil) (tB (by first | rfl | (exfalso; omega) | (exfalso; simp_all [sameV_refl, sameTs_refl, sameAs_refl, sameNs_refl, sameT_refl, samePs_refl]))) [] (rfl) rfl (trivial)
                                    · refine ExL.pures 15 rfl ?_
                                      refine ExL.nil ?_
                                      refine Ex.ret ?_
                                      refine RetQ.mk () rfl (.tmp rfl .nil) (tB (by first | rfl | (exfalso; omega) | (exfalso; simp_all [sameV_refl, sameTs_refl, sameAs_refl, sameNs_refl, sameT_refl, samePs_refl]))) [] (rfl) rfl (trivial)
                                  · refine ExL.pures 25 rfl ?_
                                    refine ExL.nil ?_
                                    refine Ex.ret ?_
                                    refine RetQ.mk () rfl (.tmp rfl .nil) (tB (by first | rfl | (exfalso; omega) | (exfalso; simp_all [sameV_refl, sameTs_refl, sameAs_refl, sameNs_refl, sameT_refl, samePs_refl]))) [] (rfl) rfl (trivial)
                                · refine ExL.pures 36 rfl ?_
                                  refine ExL.nil ?_
                                  refine Ex.ret ?_
                                  refine RetQ.mk () rfl (.tmp rfl .nil) (tB (by first | rfl | (exfalso; omega) | (exfalso; simp_all [sameV_refl, sameTs_refl, sameAs_refl, sameNs_refl, sameT_refl, samePs_refl]))) [] (rfl) rfl (trivial)
                              · replace hb48 := of_decide_eq_false hb48
                                refine ExL.pures 38 rfl ?_
                                refine ExL.nil ?_
                                refine Ex.ret ?_
                                refine RetQ.mk () rfl (.tmp rfl .nil) (tB (by first | rfl | (exfalso; omega) | (exfalso; simp_all [sameV_refl, sameTs_refl, sameAs_refl, sameNs_refl, sameT_refl, samePs_refl]))) [] (rfl) rfl (trivial)
end Go.Proofs.Ytepahnikcojepaa
