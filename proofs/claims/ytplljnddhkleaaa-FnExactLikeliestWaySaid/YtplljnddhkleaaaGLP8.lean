/- What these functions of the program hand back, each proved by walking its operations. -/
import Derived.Test.YtplljnddhkleaaaProg
import Derived.Test.YtplljnddhkleaaaFw
import Derived.Test.YtplljnddhkleaaaGPO
import Derived.Test.YtplljnddhkleaaaGPM
set_option linter.unusedVariables false
set_option linter.unusedSimpArgs false
set_option maxRecDepth 4000
namespace Go.Proofs.Ytplljnddhkleaaa
open Go Go.Sx Go.RowKit Go.W Go.Proofs
attribute [local irreducible] Ex ExL ExD Op1 Free RetQ MutQ Reads CellO SegO LoadsAs
theorem e_10 : Enters Try.prog 10 := Enters.of Try.func10 rfl
theorem w_FnExactLikeliestWay (s : List Int) (hu : Nums 255 s) (As : Option Addr) (cs : Nat) (hls : s.length ≤ maxLen) (L : List VPh) (hLo : ∀ p ∈ L, OkPh p) (AL : Option Addr) (cL : Nat) (hlL : L.length ≤ maxLen) (lo hi : Int) (us : Int) : Ret Try.prog 10 [.slice As s.length cs, .slice AL L.length cL, .int .i64 lo, .int .i64 hi, .int .i64 us] (fun w => Rd w As (s.flatMap (eI .u8)) ∧ Rd w AL (L.flatMap encPh)) (fun x : Unit => .bool true) (fun x => []) (fun x => True) := by
  refine Ret.of e_10 Try.func10 rfl Try.ntmps10 rfl rfl (fun w hpre => ?_)
  have hs := hpre.1.base
  have hLr := hpre.2.base
  have hLk : ∀ k, k < L.length → OkPh (L.getD k zPh) := fun k hk => hLo _ (getD_mem zPh hk)
  have hvl := lk_len (s := s) (L := L) (lo := lo) (hi := hi) (us := us)
  have hm0 : maxLen = 9223372036854775807 := rfl
  refine Ex.regSeq (ExL.pures 1 rfl ?_)
  refine ExL.nil ?_
  refine Ex.seq ?_
  refine Ex.regSeq (ExL.pures 2 rfl ?_)
  refine ExL.gtr rfl rfl rfl rfl rfl rfl (fun h1 => ?_) (fun h1 => ?_)
  · refine ExL.nil ?_
    refine Ex.cond_t rfl ?_
    refine Ex.regSeq (ExL.pures 1 rfl ?_)
    refine ExL.nil ?_
    refine Ex.ret ?_
    refine RetQ.mk () rfl (.tmp rfl .nil) (tB (by first | rfl | (exfalso; omega) | (exfalso; simp_all [samePhs_refl]; done))) [] (rfl) rfl (trivial)
  · refine ExL.nil ?_
    refine Ex.cond_f rfl ?_
    refine Ex.skip ?_
    refine Ex.regSeq (ExL.pures 1 rfl ?_)
    refine ExL.nil ?_
    refine Ex.regSeq (ExL.pures 2 rfl ?_)
    refine ExL.op rfl (op_ret rfl rfl rfl (c_szPhotoS _ _ _ (by omega) _ (by omega)) (fun _ _ => trivial) rfl rfl (fun x2 hx2 => ?_))
    refine ExL.pures 1 rfl ?_
    refine ExL.nil ?_
    refine Ex.seq ?_
    refine Ex.regSeq (ExL.pures 1 rfl ?_)
    refine ExL.lss rfl rfl rfl rfl rfl rfl (fun h3 => ?_) (fun h3 => ?_)
    · refine ExL.nil ?_
      refine Ex.cond_t rfl ?_
      refine Ex.regSeq (ExL.pures 1 rfl ?_)
      refine ExL.nil ?_
      refine Ex.ret ?_
      refine RetQ.mk () rfl (.tmp rfl .nil) (tB (by first | rfl | (exfalso; omega) | (exfalso; simp_all [samePhs_refl]; done))) [] (rfl) rfl (trivial)
    · refine ExL.nil ?_
      refine Ex.cond_f rfl ?_
      refine Ex.skip ?_
      refine Ex.regSeq (ExL.pures 1 rfl ?_)
      refine ExL.op rfl (op_ret rfl rfl rfl (c_toStack s _ _ (by omega)) (Reads.get (Reads.old hs)) rfl rfl (fun x4 hx4 => ?_))
      refine ExL.pures 1 rfl ?_
      refine ExL.op rfl (op_ret rfl rfl rfl (c_toPhotoS L _ _ (by omega)) (Reads.get (Reads.old hLr)) rfl rfl (fun x5 hx5 => ?_))
      refine ExL.pures 3 rfl ?_
      refine ExL.op rfl (op_ret rfl rfl rfl (c_sLik s (by assumption) _ _ (by omega) L (by assumption) _ _ (by omega) lo hi us) (fun w hw => ⟨Reads.get (Reads.row (i := 1) rfl) w hw, Reads.get (Reads.row (i := 0) rfl) w hw⟩) rfl rfl (fun x6 hx6 => ?_))
      refine ExL.pures 7 rfl ?_
      refine ExL.nil ?_
      refine Ex.regSeq (ExL.pures 1 rfl ?_)
      refine ExL.op rfl (op_ret rfl rfl rfl (c_toStack s _ _ (by omega)) (Reads.get (Reads.old hs)) rfl rfl (fun x7 hx7 => ?_))
      refine ExL.pures 1 rfl ?_
      refine ExL.nil ?_
      refine Ex.regSeq (ExL.pures 1 rfl ?_)
      refine ExL.op rfl (op_ret rfl rfl rfl (c_toPhotoS L _ _ (by omega)) (Reads.get (Reads.old hLr)) rfl rfl (fun x8 hx8 => ?_))
      refine ExL.pures 1 rfl ?_
      refine ExL.nil ?_
      refine Ex.regSeq (ExL.pures 5 rfl ?_)
      refine ExL.op rfl (op_ret rfl rfl rfl (c_iLik s (by assumption) _ _ (by omega) L (by assumption) _ _ (by omega) lo hi us) (fun w hw => ⟨Reads.get (Reads.row (i := 1) rfl) w hw, Reads.get (Reads.row (i := 0) rfl) w hw⟩) rfl rfl (fun x9 hx9 => ?_))
      refine ExL.pures 7 rfl ?_
      refine ExL.nil ?_
      refine Ex.seq ?_
      refine Ex.regSeq (ExL.pures 2 rfl ?_)
      refine ExL.op rfl (op_ret rfl rfl rfl (c_eqInt64S ((likV s L lo hi us).1) (x9.1) (x9.2) (by omega) ((likV s L lo hi us).1) (x6.1) (x6.2) (by omega)) (fun w hw => ⟨Reads.get (Reads.row (i := 0) rfl) w hw, Reads.get (Reads.row (i := 3) rfl) w hw⟩) rfl rfl (fun x10 hx10 => ?_))
      refine ExL.pures 2 rfl ?_
      refine ExL.bool (d := 64) rfl (fun hb11 => ?_) (fun hb11 => ?_)
      · replace hb11 := nd_t hb11
        refine ExL.pures 9 rfl ?_
        refine ExL.nil ?_
        refine Ex.cond_t rfl ?_
        refine Ex.regSeq (ExL.pures 1 rfl ?_)
        refine ExL.nil ?_
        refine Ex.ret ?_
        refine RetQ.mk () rfl (.tmp rfl .nil) (tB (by first | rfl | (exfalso; omega) | (exfalso; simp_all [samePhs_refl]; done))) [] (rfl) rfl (trivial)
      · replace hb11 := nd_f hb11
        refine ExL.pures 2 rfl ?_
        refine ExL.neq rfl rfl rfl rfl rfl rfl (fun h12 => ?_) (fun h12 => ?_)
        · refine ExL.pures 6 rfl ?_
          refine ExL.nil ?_
          refine Ex.cond_t rfl ?_
          refine Ex.regSeq (ExL.pures 1 rfl ?_)
          refine ExL.nil ?_
          refine Ex.ret ?_
          refine RetQ.mk () rfl (.tmp rfl .nil) (tB (by first | rfl | (exfalso; omega) | (exfalso; simp_all [samePhs_refl]; done))) [] (rfl) rfl (trivial)
        · refine ExL.pures 4 rfl ?_
          refine ExL.neq rfl rfl rfl rfl rfl rfl (fun h13 => ?_) (fun h13 => ?_)
          · refine ExL.pures 1 rfl ?_
            refine ExL.nil ?_
            refine Ex.cond_t rfl ?_
            refine Ex.regSeq (ExL.pures 1 rfl ?_)
            refine ExL.nil ?_
            refine Ex.ret ?_
            refine RetQ.mk () rfl (.tmp rfl .nil) (tB (by first | rfl | (exfalso; omega) | (exfalso; simp_all [samePhs_refl]; done))) [] (rfl) rfl (trivial)
          · refine ExL.pures 1 rfl ?_
            refine ExL.nil ?_
            refine Ex.cond_f rfl ?_
            refine Ex.skip ?_
            refine Ex.seq ?_
            refine Ex.regSeq (ExL.pures 2 rfl ?_)
            refine ExL.op rfl (op_ret rfl rfl rfl (c_toStack s _ _ (by omega)) (Reads.get (Reads.old hs)) rfl rfl (fun x14 hx14 => ?_))
            refine ExL.op rfl (op_ret rfl rfl rfl (c_eqStack s _ _ (by omega) s _ _ (by omega)) (fun w hw => ⟨Reads.get (Reads.row (i := 3) rfl) w hw, Reads.get (Reads.row (i := 0) rfl) w hw⟩) rfl rfl (fun x15 hx15 => ?_))
            refine ExL.pures 1 rfl ?_
            refine ExL.nil ?_
            refine Ex.cond rfl (fun hb16 => ?_) (fun hb16 => ?_)
            · replace hb16 := nd_t hb16
              refine Ex.regSeq (ExL.pures 1 rfl ?_)
              refine ExL.nil ?_
              refine Ex.ret ?_
              refine RetQ.mk () rfl (.tmp rfl .nil) (tB (by first | rfl | (exfalso; omega) | (exfalso; simp_all [samePhs_refl]; done))) [] (rfl) rfl (trivial)
            · replace hb16 := nd_f hb16
              refine Ex.skip ?_
              refine Ex.seq ?_
              refine Ex.regSeq (ExL.pures 2 rfl ?_)
              refine ExL.op rfl (op_ret rfl rfl rfl (c_toPhotoS L _ _ (by omega)) (Reads.get (Reads.old hLr)) rfl rfl (fun x17 hx17 => ?_))
              refine ExL.op rfl (op_ret rfl rfl rfl (c_eqPhotoS L _ _ (by omega) L _ _ (by omega)) (fun w hw => ⟨Reads.get (Reads.row (i := 3) rfl) w hw, Reads.get (Reads.row (i := 0) rfl) w hw⟩) rfl rfl (fun x18 hx18 => ?_))
              refine ExL.pures 1 rfl ?_
              refine ExL.nil ?_
              refine Ex.cond rfl (fun hb19 => ?_) (fun hb19 => ?_)
              · replace hb19 := nb_t hb19
                refine Ex.regSeq (ExL.pures 1 rfl ?_)
                refine ExL.nil ?_
                refine Ex.ret ?_
                refine RetQ.mk () rfl (.tmp rfl .nil) (tB (by first | rfl | (exfalso; omega) | (exfalso; simp_all [samePhs_refl]; done))) [] (rfl) rfl (trivial)
              · replace hb19 := nb_f hb19
                refine Ex.skip ?_
                refine Ex.regSeq (ExL.pures 1 rfl ?_)
                refine ExL.nil ?_
                refine Ex.regSeq (ExL.pures 2 rfl ?_)
                refine ExL.op rfl (op_mut rfl rfl rfl (c_markStack s _ _ _ (by omega) 1 (by omega)) (perm_at (i := 4) rfl) (trivial) rfl rfl (fun x20 hx20 => ?_))
                refine ExL.pures 1 rfl ?_
                refine ExL.nil ?_
                refine Ex.regSeq (ExL.pures 2 rfl ?_)
                refine ExL.op rfl (op_ret rfl rfl rfl (c_markPhotoS L.length _ _ (by omega) _) (fun _ _ => trivial) rfl rfl (fun x21 hx21 => ?_))
                refine ExL.pures 1 rfl ?_
                refine ExL.nil ?_
                refine Ex.seq ?_
                refine Ex.regSeq (ExL.pures 1 rfl ?_)
                refine ExL.lss rfl rfl rfl rfl rfl rfl (fun h22 => ?_) (fun h22 => ?_)
                · refine ExL.pures 16 rfl ?_
                  refine ExL.nil ?_
                  refine Ex.cond_t rfl ?_
                  refine Ex.regSeq (ExL.pures 1 rfl ?_)
                  refine ExL.nil ?_
                  refine Ex.ret ?_
                  refine RetQ.mk () rfl (.tmp rfl .nil) (tB (by first | rfl | (exfalso; omega) | (exfalso; simp_all [samePhs_refl]; done))) [] (rfl) rfl (trivial)
                · refine ExL.pures 3 rfl ?_
                  refine ExL.op rfl (op_ret rfl rfl rfl (c_eqInt64S ((likV s L lo hi us).1) (x9.1) (x9.2) (by omega) ((likV s L lo hi us).1) (x6.1) (x6.2) (by omega)) (fun w hw => ⟨Reads.get (Reads.row (i := 3) rfl) w hw, Reads.get (Reads.row (i := 5) rfl) w hw⟩) rfl rfl (fun x23 hx23 => ?_))
                  refine ExL.pures 3 rfl ?_
                  refine ExL.bool (d := 98) rfl (fun hb24 => ?_) (fun hb24 => ?_)
                  · replace hb24 := nd_t hb24
                    refine ExL.pures 9 rfl ?_
                    refine ExL.nil ?_
                    refine Ex.cond_t rfl ?_
                    refine Ex.regSeq (ExL.pures 1 rfl ?_)
                    refine ExL.nil ?_
                    refine Ex.ret ?_
                    refine RetQ.mk () rfl (.tmp rfl .nil) (tB (by first | rfl | (exfalso; omega) | (exfalso; simp_all [samePhs_refl]; done))) [] (rfl) rfl (trivial)
                  · replace hb24 := nd_f hb24
                    refine ExL.pures 2 rfl ?_
                    refine ExL.neq rfl rfl rfl rfl rfl rfl (fun h25 => ?_) (fun h25 => ?_)
                    · refine ExL.pures 6 rfl ?_
                      refine ExL.nil ?_
                      refine Ex.cond_t rfl ?_
                      refine Ex.regSeq (ExL.pures 1 rfl ?_)
                      refine ExL.nil ?_
                      refine Ex.ret ?_
                      refine RetQ.mk () rfl (.tmp rfl .nil) (tB (by first | rfl | (exfalso; omega) | (exfalso; simp_all [samePhs_refl]; done))) [] (rfl) rfl (trivial)
                    · refine ExL.pures 4 rfl ?_
                      refine ExL.neq rfl rfl rfl rfl rfl rfl (fun h26 => ?_) (fun h26 => ?_)
                      · refine ExL.pures 1 rfl ?_
                        refine ExL.nil ?_
                        refine Ex.cond_t rfl ?_
                        refine Ex.regSeq (ExL.pures 1 rfl ?_)
                        refine ExL.nil ?_
                        refine Ex.ret ?_
                        refine RetQ.mk () rfl (.tmp rfl .nil) (tB (by first | rfl | (exfalso; omega) | (exfalso; simp_all [samePhs_refl]; done))) [] (rfl) rfl (trivial)
                      · refine ExL.pures 1 rfl ?_
                        refine ExL.nil ?_
                        refine Ex.cond_f rfl ?_
                        refine Ex.skip ?_
                        refine Ex.regSeq (ExL.pures 1 rfl ?_)
                        refine ExL.nil ?_
                        refine Ex.regSeq (ExL.pures 2 rfl ?_)
                        refine ExL.op rfl (op_mut rfl rfl rfl (c_markInt64S ((likV s L lo hi us).1) _ _ _ (by omega) 1 (by omega)) (perm_at (i := 3) rfl) (trivial) rfl rfl (fun x27 hx27 => ?_))
                        refine ExL.pures 1 rfl ?_
                        refine ExL.nil ?_
                        refine Ex.regSeq (ExL.pures 1 rfl ?_)
                        refine ExL.nil ?_
                        refine Ex.regSeq (ExL.pures 2 rfl ?_)
                        refine ExL.op rfl (op_ret rfl rfl rfl (c_heldInt64S _ _ _ (by omega) 1 (by omega)) (Reads.get (Reads.row (i := 0) rfl)) rfl rfl (fun x28 hx28 => ?_))
                        refine ExL.pures 1 rfl ?_
                        refine ExL.nil ?_
                        refine Ex.seq ?_
                        refine Ex.regSeq (ExL.pures 1 rfl ?_)
                        refine ExL.lss rfl rfl rfl rfl rfl rfl (fun h29 => ?_) (fun h29 => ?_)
                        · refine ExL.nil ?_
                          refine Ex.cond_t rfl ?_
                          refine Ex.regSeq (ExL.pures 1 rfl ?_)
                          refine ExL.nil ?_
                          refine Ex.ret ?_
                          refine RetQ.mk () rfl (.tmp rfl .nil) (tB (by first | rfl | (exfalso; omega) | (exfalso; simp_all [samePhs_refl]; done))) [] (rfl) rfl (trivial)
                        · refine ExL.nil ?_
                          refine Ex.cond_f rfl ?_
                          refine Ex.skip ?_
                          refine Ex.seq ?_
                          refine Ex.regSeq (ExL.pures 2 rfl ?_)
                          refine ExL.neq rfl rfl rfl rfl rfl rfl (fun h30 => ?_) (fun h30 => ?_)
                          · refine ExL.nil ?_
                            refine Ex.cond_t rfl ?_
                            refine Ex.regSeq (ExL.pures 1 rfl ?_)
                            refine ExL.nil ?_
                            refine Ex.ret ?_
                            refine RetQ.mk () rfl (.tmp rfl .nil) (tB (by first | rfl | (exfalso; omega) | (exfalso; simp_all [samePhs_refl]; done))) [] (rfl) rfl (trivial)
                          · refine ExL.nil ?_
                            refine Ex.cond_f rfl ?_
                            refine Ex.skip ?_
                            refine Ex.regSeq (ExL.pures 1 rfl ?_)
                            refine ExL.op rfl (op_ret rfl rfl rfl (c_toStack s _ _ (by omega)) (Reads.get (Reads.old hs)) rfl rfl (fun x31 hx31 => ?_))
                            refine ExL.pures 1 rfl ?_
                            refine ExL.op rfl (op_ret rfl rfl rfl (c_toPhotoS L _ _ (by omega)) (Reads.get (Reads.old hLr)) rfl rfl (fun x32 hx32 => ?_))
                            refine ExL.pures 3 rfl ?_
                            refine ExL.op rfl (op_ret rfl rfl rfl (c_iLik s (by assumption) _ _ (by omega) L (by assumption) _ _ (by omega) lo hi us) (fun w hw => ⟨Reads.get (Reads.row (i := 1) rfl) w hw, Reads.get (Reads.row (i := 0) rfl) w hw⟩) rfl rfl (fun x33 hx33 => ?_))
                            refine ExL.pures 7 rfl ?_
                            refine ExL.nil ?_
                            refine Ex.seq ?_
                            refine Ex.regSeq (ExL.pures 2 rfl ?_)
                            refine ExL.op rfl (op_ret rfl rfl rfl (c_eqInt64S ((likV s L lo hi us).1) (x33.1) (x33.2) (by omega) ((likV s L lo hi us).1) (x6.1) (x6.2) (by omega)) (fun w hw => ⟨Reads.get (Reads.row (i := 0) rfl) w hw, Reads.get (Reads.row (i := 8) rfl) w hw⟩) rfl rfl (fun x34 hx34 => ?_))
                            refine ExL.pures 2 rfl ?_
                            refine ExL.bool (d := 135) rfl (fun hb35 => ?_) (fun hb35 => ?_)
                            · replace hb35 := nd_t hb35
                              refine ExL.pures 9 rfl ?_
                              refine ExL.nil ?_
                              refine Ex.cond_t rfl ?_
                              refine Ex.regSeq (ExL.pures 1 rfl ?_)
                              refine ExL.nil ?_
                              refine Ex.ret ?_
                              refine RetQ.mk () rfl (.tmp rfl .nil) (tB (by first | rfl | (exfalso; omega) | (exfalso; simp_all [samePhs_refl]; done))) [] (rfl) rfl (trivial)
                            · replace hb35 := nd_f hb35
                              refine ExL.pures 2 rfl ?_
                              refine ExL.neq rfl rfl rfl rfl rfl rfl (fun h36 => ?_) (fun h36 => ?_)
                              · refine ExL.pures 6 rfl ?_
                                refine ExL.nil ?_
                                refine Ex.cond_t rfl ?_
                                refine Ex.regSeq (ExL.pures 1 rfl ?_)
                                refine ExL.nil ?_
                                refine Ex.ret ?_
                                refine RetQ.mk () rfl (.tmp rfl .nil) (tB (by first | rfl | (exfalso; omega) | (exfalso; simp_all [samePhs_refl]; done))) [] (rfl) rfl (trivial)
                              · refine ExL.pures 4 rfl ?_
                                refine ExL.neq rfl rfl rfl rfl rfl rfl (fun h37 => ?_) (fun h37 => ?_)
                                · refine ExL.pures 1 rfl ?_
                                  refine ExL.nil ?_
                                  refine Ex.cond_t rfl ?_
                                  refine Ex.regSeq (ExL.pures 1 rfl ?_)
                                  refine ExL.nil ?_
                                  refine Ex.ret ?_
                                  refine RetQ.mk () rfl (.tmp rfl .nil) (tB (by first | rfl | (exfalso; omega) | (exfalso; simp_all [samePhs_refl]; done))) [] (rfl) rfl (trivial)
                                · refine ExL.pures 1 rfl ?_
                                  refine ExL.nil ?_
                                  refine Ex.cond_f rfl ?_
                                  refine Ex.skip ?_
                                  refine Ex.regSeq (ExL.pures 1 rfl ?_)
                                  refine ExL.nil ?_
                                  refine Ex.regSeq (ExL.pures 2 rfl ?_)
                                  refine ExL.op rfl (op_ret rfl rfl rfl (c_heldInt64S _ _ _ (by omega) 1 (by omega)) (Reads.get (Reads.row (i := 3) rfl)) rfl rfl (fun x38 hx38 => ?_))
                                  refine ExL.pures 1 rfl ?_
                                  refine ExL.nil ?_
                                  refine Ex.seq ?_
                                  refine Ex.regSeq (ExL.pures 1 rfl ?_)
                                  refine ExL.lss rfl rfl rfl rfl rfl rfl (fun h39 => ?_) (fun h39 => ?_)
                                  · refine ExL.nil ?_
                                    refine Ex.cond_t rfl ?_
                                    refine Ex.regSeq (ExL.pures 1 rfl ?_)
                                    refine ExL.nil ?_
                                    refine Ex.ret ?_
                                    refine RetQ.mk () rfl (.tmp rfl .nil) (tB (by first | rfl | (exfalso; omega) | (exfalso; simp_all [samePhs_refl]; done))) [] (rfl) rfl (trivial)
                                  · refine ExL.nil ?_
                                    refine Ex.cond_f rfl ?_
                                    refine Ex.skip ?_
                                    refine Ex.seq ?_
                                    refine Ex.regSeq (ExL.pures 2 rfl ?_)
                                    refine ExL.neq rfl rfl rfl rfl rfl rfl (fun h40 => ?_) (fun h40 => ?_)
                                    · refine ExL.nil ?_
                                      refine Ex.cond_t rfl ?_
                                      refine Ex.regSeq (ExL.pures 1 rfl ?_)
                                      refine ExL.nil ?_
                                      refine Ex.ret ?_
                                      refine RetQ.mk () rfl (.tmp rfl .nil) (tB (by first | rfl | (exfalso; omega) | (exfalso; simp_all [samePhs_refl]; done))) [] (rfl) rfl (trivial)
                                    · refine ExL.nil ?_
                                      refine Ex.cond_f rfl ?_
                                      refine Ex.skip ?_
                                      refine Ex.regSeq (ExL.pures 1 rfl ?_)
                                      refine ExL.nil ?_
                                      refine Ex.ret ?_
                                      refine RetQ.mk () rfl (.tmp rfl .nil) (tB (by first | rfl | (exfalso; omega) | (exfalso; simp_all [samePhs_refl]; done))) [] (rfl) rfl (trivial)
end Go.Proofs.Ytplljnddhkleaaa
