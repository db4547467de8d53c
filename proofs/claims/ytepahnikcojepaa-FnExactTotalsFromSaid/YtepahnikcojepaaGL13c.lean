/- What these functions of the program hand back, each proved by walking its operations. -/
import Derived.Test.YtepahnikcojepaaProg
import Derived.Test.YtepahnikcojepaaFw
import Derived.Test.YtepahnikcojepaaGG1
import Derived.Test.YtepahnikcojepaaGZS
import Derived.Test.YtepahnikcojepaaGZP
set_option linter.unusedVariables false
set_option linter.unusedSimpArgs false
set_option maxRecDepth 4000
namespace Go.Proofs.Ytepahnikcojepaa
open Go Go.Sx Go.RowKit Go.W Go.Proofs
attribute [local irreducible] Ex ExL ExD Op1 Free RetQ MutQ Reads CellO SegO LoadsAs
theorem e_4 : Enters Try.prog 4 := Enters.of Try.func4 rfl
theorem w_FnExactTotalsFrom (s : List Int) (hu : Nums 255 s) (As : Option Addr) (cs : Nat) (hls : s.length ≤ maxLen) (l : List VP) (Al : Option Addr) (cl : Nat) (hll : l.length ≤ maxLen) : Ret Try.prog 4 [.slice As s.length cs, .slice Al l.length cl] (fun w => Rd w As (s.flatMap (eI .u8)) ∧ Rd w Al (l.flatMap encP)) (fun x : Unit => .bool true) (fun x => []) (fun x => True) := by
  refine Ret.of e_4 Try.func4 rfl Try.ntmps4 rfl rfl (fun w hpre => ?_)
  have hs := hpre.1.base
  have hl := hpre.2.base
  have hm0 : maxLen = 9223372036854775807 := rfl
  have htl := totF_len (s := s) (l := l)
  refine Ex.regSeq (ExL.pures 1 rfl ?_)
  refine ExL.nil ?_
  refine Ex.seq ?_
  refine Ex.regSeq (ExL.pures 2 rfl ?_)
  refine ExL.gtr rfl rfl rfl rfl rfl rfl (fun h1 => ?_) (fun h1 => ?_)
  · refine ExL.nil ?_
    refine Ex.cond_t rfl ?_
    refine Ex.regSeq (ExL.pures 1 rfl ?_)
    refine ExL.nil ?_
    refine Ex.ret ?_
    refine RetQ.mk () rfl (.tmp rfl .nil) (tB (by first | rfl | (exfalso; omega) | (exfalso; simp_all [sameV_refl, sameTs_refl, sameAs_refl, sameNs_refl, sameT_refl, samePs_refl]))) [] (rfl) rfl (trivial)
  · refine ExL.nil ?_
    refine Ex.cond_f rfl ?_
    refine Ex.skip ?_
    refine Ex.regSeq (ExL.pures 1 rfl ?_)
    refine ExL.nil ?_
    refine Ex.regSeq (ExL.pures 2 rfl ?_)
    refine ExL.op rfl (op_ret rfl rfl rfl (c_szReadingS _ _ _ (by omega) _ (by omega)) (fun _ _ => trivial) rfl rfl (fun x2 hx2 => ?_))
    refine ExL.pures 1 rfl ?_
    refine ExL.nil ?_
    refine Ex.seq ?_
    refine Ex.regSeq (ExL.pures 1 rfl ?_)
    refine ExL.lss rfl rfl rfl rfl rfl rfl (fun h3 => ?_) (fun h3 => ?_)
    · refine ExL.nil ?_
      refine Ex.cond_t rfl ?_
      refine Ex.regSeq (ExL.pures 1 rfl ?_)
      refine ExL.nil ?_
      refine Ex.ret ?_
      refine RetQ.mk () rfl (.tmp rfl .nil) (tB (by first | rfl | (exfalso; omega) | (exfalso; simp_all [sameV_refl, sameTs_refl, sameAs_refl, sameNs_refl, sameT_refl, samePs_refl]))) [] (rfl) rfl (trivial)
    · refine ExL.nil ?_
      refine Ex.cond_f rfl ?_
      refine Ex.skip ?_
      refine Ex.regSeq (ExL.pures 1 rfl ?_)
      refine ExL.op rfl (op_ret rfl rfl rfl (c_toStack s _ _ (by omega)) (Reads.get (Reads.old hs)) rfl rfl (fun x4 hx4 => ?_))
      refine ExL.pures 1 rfl ?_
      refine ExL.op rfl (op_ret rfl rfl rfl (c_toReadingS l _ _ (by omega)) (Reads.get (Reads.old hl)) rfl rfl (fun x5 hx5 => ?_))
      refine ExL.op rfl (op_ret rfl rfl rfl (c_sTotalsFrom s (by assumption) _ _ (by omega) l _ _ (by omega)) (fun w hw => ⟨Reads.get (Reads.row (i := 1) rfl) w hw, Reads.get (Reads.row (i := 0) rfl) w hw⟩) rfl rfl (fun x6 hx6 => ?_))
      refine ExL.pures 5 rfl ?_
      refine ExL.nil ?_
      refine Ex.regSeq (ExL.pures 1 rfl ?_)
      refine ExL.op rfl (op_ret rfl rfl rfl (c_toStack s _ _ (by omega)) (Reads.get (Reads.old hs)) rfl rfl (fun x7 hx7 => ?_))
      refine ExL.pures 1 rfl ?_
      refine ExL.nil ?_
      refine Ex.regSeq (ExL.pures 1 rfl ?_)
      refine ExL.op rfl (op_ret rfl rfl rfl (c_toReadingS l _ _ (by omega)) (Reads.get (Reads.old hl)) rfl rfl (fun x8 hx8 => ?_))
      refine ExL.pures 1 rfl ?_
      refine ExL.nil ?_
      refine Ex.regSeq (ExL.pures 2 rfl ?_)
      refine ExL.op rfl (op_ret rfl rfl rfl (c_iTotalsFrom s (by assumption) _ _ (by omega) l _ _ (by omega)) (fun w hw => ⟨Reads.get (Reads.row (i := 1) rfl) w hw, Reads.get (Reads.row (i := 0) rfl) w hw⟩) rfl rfl (fun x9 hx9 => ?_))
      refine ExL.pures 5 rfl ?_
      refine ExL.nil ?_
      refine Ex.seq ?_
      refine Ex.regSeq (ExL.pures 2 rfl ?_)
      refine ExL.op rfl (op_ret rfl rfl rfl (c_eqTotalS ((totF s l).1) _ _ (by omega) ((totF s l).1) _ _ (by omega)) (fun w hw => ⟨Reads.get (Reads.row (i := 0) rfl) w hw, Reads.get (Reads.row (i := 3) rfl) w hw⟩) rfl rfl (fun x10 hx10 => ?_))
      refine ExL.pures 2 rfl ?_
      refine ExL.bool (d := 47) rfl (fun hb11 => ?_) (fun hb11 => ?_)
      · replace hb11 := nb_t hb11
        refine ExL.pures 4 rfl ?_
        refine ExL.nil ?_
        refine Ex.cond_t rfl ?_
        refine Ex.regSeq (ExL.pures 1 rfl ?_)
        refine ExL.nil ?_
        refine Ex.ret ?_
        refine RetQ.mk () rfl (.tmp rfl .nil) (tB (by first | rfl | (exfalso; omega) | (exfalso; simp_all [sameV_refl, sameTs_refl, sameAs_refl, sameNs_refl, sameT_refl, samePs_refl]))) [] (rfl) rfl (trivial)
      · replace hb11 := nb_f hb11
        refine ExL.pures 2 rfl ?_
        refine ExL.neq rfl rfl rfl rfl rfl rfl (fun h12 => ?_) (fun h12 => ?_)
        · refine ExL.pures 1 rfl ?_
          refine ExL.nil ?_
          refine Ex.cond_t rfl ?_
          refine Ex.regSeq (ExL.pures 1 rfl ?_)
          refine ExL.nil ?_
          refine Ex.ret ?_
          refine RetQ.mk () rfl (.tmp rfl .nil) (tB (by first | rfl | (exfalso; omega) | (exfalso; simp_all [sameV_refl, sameTs_refl, sameAs_refl, sameNs_refl, sameT_refl, samePs_refl]))) [] (rfl) rfl (trivial)
        · refine ExL.pures 1 rfl ?_
          refine ExL.nil ?_
          refine Ex.cond_f rfl ?_
          refine Ex.skip ?_
          refine Ex.seq ?_
          refine Ex.regSeq (ExL.pures 2 rfl ?_)
          refine ExL.op rfl (op_ret rfl rfl rfl (c_toStack s _ _ (by omega)) (Reads.get (Reads.old hs)) rfl rfl (fun x13 hx13 => ?_))
          refine ExL.op rfl (op_ret rfl rfl rfl (c_eqStack s _ _ (by omega) s _ _ (by omega)) (fun w hw => ⟨Reads.get (Reads.row (i := 3) rfl) w hw, Reads.get (Reads.row (i := 0) rfl) w hw⟩) rfl rfl (fun x14 hx14 => ?_))
          refine ExL.pures 1 rfl ?_
          refine ExL.nil ?_
          refine Ex.cond rfl (fun hb15 => ?_) (fun hb15 => ?_)
          · replace hb15 := nd_t hb15
            refine Ex.regSeq (ExL.pures 1 rfl ?_)
            refine ExL.nil ?_
            refine Ex.ret ?_
            refine RetQ.mk () rfl (.tmp rfl .nil) (tB (by first | rfl | (exfalso; omega) | (exfalso; simp_all [sameV_refl, sameTs_refl, sameAs_refl, sameNs_refl, sameT_refl, samePs_refl]))) [] (rfl) rfl (trivial)
          · replace hb15 := nd_f hb15
            refine Ex.skip ?_
            refine Ex.seq ?_
            refine Ex.regSeq (ExL.pures 2 rfl ?_)
            refine ExL.op rfl (op_ret rfl rfl rfl (c_toReadingS l _ _ (by omega)) (Reads.get (Reads.old hl)) rfl rfl (fun x16 hx16 => ?_))
            refine ExL.op rfl (op_ret rfl rfl rfl (c_eqReadingS l _ _ (by omega) l _ _ (by omega)) (fun w hw => ⟨Reads.get (Reads.row (i := 3) rfl) w hw, Reads.get (Reads.row (i := 0) rfl) w hw⟩) rfl rfl (fun x17 hx17 => ?_))
            refine ExL.pures 1 rfl ?_
            refine ExL.nil ?_
            refine Ex.cond rfl (fun hb18 => ?_) (fun hb18 => ?_)
            · replace hb18 := nb_t hb18
              refine Ex.regSeq (ExL.pures 1 rfl ?_)
              refine ExL.nil ?_
              refine Ex.ret ?_
              refine RetQ.mk () rfl (.tmp rfl .nil) (tB (by first | rfl | (exfalso; omega) | (exfalso; simp_all [sameV_refl, sameTs_refl, sameAs_refl, sameNs_refl, sameT_refl, samePs_refl]))) [] (rfl) rfl (trivial)
            · replace hb18 := nb_f hb18
              refine Ex.skip ?_
              refine Ex.regSeq (ExL.pures 1 rfl ?_)
              refine ExL.nil ?_
              refine Ex.regSeq (ExL.pures 2 rfl ?_)
              refine ExL.op rfl (op_mut rfl rfl rfl (c_markStack s _ _ _ (by omega) 1 (by omega)) (perm_at (i := 4) rfl) (trivial) rfl rfl (fun x19 hx19 => ?_))
              refine ExL.pures 1 rfl ?_
              refine ExL.nil ?_
              refine Ex.regSeq (ExL.pures 2 rfl ?_)
              refine ExL.op rfl (op_mut rfl rfl rfl (c_markReadingS l _ _ _ (by omega) _ (by omega)) (perm_at (i := 4) rfl) (trivial) rfl rfl (fun x20 hx20 => ?_))
              refine ExL.pures 1 rfl ?_
              refine ExL.nil ?_
              refine Ex.seq ?_
              refine Ex.regSeq (ExL.pures 1 rfl ?_)
              refine ExL.lss rfl rfl rfl rfl rfl rfl (fun h21 => ?_) (fun h21 => ?_)
              · refine ExL.pures 11 rfl ?_
                refine ExL.nil ?_
                refine Ex.cond_t rfl ?_
                refine Ex.regSeq (ExL.pures 1 rfl ?_)
                refine ExL.nil ?_
                refine Ex.ret ?_
                refine RetQ.mk () rfl (.tmp rfl .nil) (tB (by first | rfl | (exfalso; omega) | (exfalso; simp_all [sameV_refl, sameTs_refl, sameAs_refl, sameNs_refl, sameT_refl, samePs_refl]))) [] (rfl) rfl (trivial)
              · refine ExL.pures 3 rfl ?_
                refine ExL.op rfl (op_ret rfl rfl rfl (c_eqTotalS ((totF s l).1) _ _ (by omega) ((totF s l).1) _ _ (by omega)) (fun w hw => ⟨Reads.get (Reads.row (i := 4) rfl) w hw, Reads.get (Reads.row (i := 5) rfl) w hw⟩) rfl rfl (fun x22 hx22 => ?_))
                refine ExL.pures 3 rfl ?_
                refine ExL.bool (d := 76) rfl (fun hb23 => ?_) (fun hb23 => ?_)
                · replace hb23 := nb_t hb23
                  refine ExL.pures 4 rfl ?_
                  refine ExL.nil ?_
                  refine Ex.cond_t rfl ?_
                  refine Ex.regSeq (ExL.pures 1 rfl ?_)
                  refine ExL.nil ?_
                  refine Ex.ret ?_
                  refine RetQ.mk () rfl (.tmp rfl .nil) (tB (by first | rfl | (exfalso; omega) | (exfalso; simp_all [sameV_refl, sameTs_refl, sameAs_refl, sameNs_refl, sameT_refl, samePs_refl]))) [] (rfl) rfl (trivial)
                · replace hb23 := nb_f hb23
                  refine ExL.pures 2 rfl ?_
                  refine ExL.neq rfl rfl rfl rfl rfl rfl (fun h24 => ?_) (fun h24 => ?_)
                  · refine ExL.pures 1 rfl ?_
                    refine ExL.nil ?_
                    refine Ex.cond_t rfl ?_
                    refine Ex.regSeq (ExL.pures 1 rfl ?_)
                    refine ExL.nil ?_
                    refine Ex.ret ?_
                    refine RetQ.mk () rfl (.tmp rfl .nil) (tB (by first | rfl | (exfalso; omega) | (exfalso; simp_all [sameV_refl, sameTs_refl, sameAs_refl, sameNs_refl, sameT_refl, samePs_refl]))) [] (rfl) rfl (trivial)
                  · refine ExL.pures 1 rfl ?_
                    refine ExL.nil ?_
                    refine Ex.cond_f rfl ?_
                    refine Ex.skip ?_
                    refine Ex.regSeq (ExL.pures 1 rfl ?_)
                    refine ExL.nil ?_
                    refine Ex.regSeq (ExL.pures 2 rfl ?_)
                    refine ExL.op rfl (op_mut rfl rfl rfl (c_markTotalS ((totF s l).1) _ _ _ (by omega) 1 (by omega)) (perm_at (i := 4) rfl) (trivial) rfl rfl (fun x25 hx25 => ?_))
                    refine ExL.pures 1 rfl ?_
                    refine ExL.nil ?_
                    refine Ex.regSeq (ExL.pures 1 rfl ?_)
                    refine ExL.nil ?_
                    refine Ex.regSeq (ExL.pures 2 rfl ?_)
                    refine ExL.op rfl (op_ret rfl rfl rfl (c_heldTotalS _ _ _ (by omega) 1 (by omega)) (Reads.get (Reads.row (i := 0) rfl)) rfl rfl (fun x26 hx26 => ?_))
                    refine ExL.pures 1 rfl ?_
                    refine ExL.nil ?_
                    refine Ex.seq ?_
                    refine Ex.regSeq (ExL.pures 1 rfl ?_)
                    refine ExL.lss rfl rfl rfl rfl rfl rfl (fun h27 => ?_) (fun h27 => ?_)
                    · refine ExL.nil ?_
                      refine Ex.cond_t rfl ?_
                      refine Ex.regSeq (ExL.pures 1 rfl ?_)
                      refine ExL.nil ?_
                      refine Ex.ret ?_
                      refine RetQ.mk () rfl (.tmp rfl .nil) (tB (by first | rfl | (exfalso; omega) | (exfalso; simp_all [sameV_refl, sameTs_refl, sameAs_refl, sameNs_refl, sameT_refl, samePs_refl]))) [] (rfl) rfl (trivial)
                    · refine ExL.nil ?_
                      refine Ex.cond_f rfl ?_
                      refine Ex.skip ?_
                      refine Ex.seq ?_
                      refine Ex.regSeq (ExL.pures 2 rfl ?_)
                      refine ExL.neq rfl rfl rfl rfl rfl rfl (fun h28 => ?_) (fun h28 => ?_)
                      · refine ExL.nil ?_
                        refine Ex.cond_t rfl ?_
                        refine Ex.regSeq (ExL.pures 1 rfl ?_)
                        refine ExL.nil ?_
                        refine Ex.ret ?_
                        refine RetQ.mk () rfl (.tmp rfl .nil) (tB (by first | rfl | (exfalso; omega) | (exfalso; simp_all [sameV_refl, sameTs_refl, sameAs_refl, sameNs_refl, sameT_refl, samePs_refl]))) [] (rfl) rfl (trivial)
                      · refine ExL.nil ?_
                        refine Ex.cond_f rfl ?_
                        refine Ex.skip ?_
                        refine Ex.regSeq (ExL.pures 1 rfl ?_)
                        refine ExL.op rfl (op_ret rfl rfl rfl (c_toStack s _ _ (by omega)) (Reads.get (Reads.old hs)) rfl rfl (fun x29 hx29 => ?_))
                        refine ExL.pures 1 rfl ?_
                        refine ExL.op rfl (op_ret rfl rfl rfl (c_toReadingS l _ _ (by omega)) (Reads.get (Reads.old hl)) rfl rfl (fun x30 hx30 => ?_))
                        refine ExL.op rfl (op_ret rfl rfl rfl (c_iTotalsFrom s (by assumption) _ _ (by omega) l _ _ (by omega)) (fun w hw => ⟨Reads.get (Reads.row (i := 1) rfl) w hw, Reads.get (Reads.row (i := 0) rfl) w hw⟩) rfl rfl (fun x31 hx31 => ?_))
                        refine ExL.pures 5 rfl ?_
                        refine ExL.nil ?_
                        refine Ex.seq ?_
                        refine Ex.regSeq (ExL.pures 2 rfl ?_)
                        refine ExL.op rfl (op_ret rfl rfl rfl (c_eqTotalS ((totF s l).1) _ _ (by omega) ((totF s l).1) _ _ (by omega)) (fun w hw => ⟨Reads.get (Reads.row (i := 0) rfl) w hw, Reads.get (Reads.row (i := 8) rfl) w hw⟩) rfl rfl (fun x32 hx32 => ?_))
                        refine ExL.pures 2 rfl ?_
                        refine ExL.bool (d := 104) rfl (fun hb33 => ?_) (fun hb33 => ?_)
                        · replace hb33 := nb_t hb33
                          refine ExL.pures 4 rfl ?_
                          refine ExL.nil ?_
                          refine Ex.cond_t rfl ?_
                          refine Ex.regSeq (ExL.pures 1 rfl ?_)
                          refine ExL.nil ?_
                          refine Ex.ret ?_
                          refine RetQ.mk () rfl (.tmp rfl .nil) (tB (by first | rfl | (exfalso; omega) | (exfalso; simp_all [sameV_refl, sameTs_refl, sameAs_refl, sameNs_refl, sameT_refl, samePs_refl]))) [] (rfl) rfl (trivial)
                        · replace hb33 := nb_f hb33
                          refine ExL.pures 2 rfl ?_
                          refine ExL.neq rfl rfl rfl rfl rfl rfl (fun h34 => ?_) (fun h34 => ?_)
                          · refine ExL.pures 1 rfl ?_
                            refine ExL.nil ?_
                            refine Ex.cond_t rfl ?_
                            refine Ex.regSeq (ExL.pures 1 rfl ?_)
                            refine ExL.nil ?_
                            refine Ex.ret ?_
                            refine RetQ.mk () rfl (.tmp rfl .nil) (tB (by first | rfl | (exfalso; omega) | (exfalso; simp_all [sameV_refl, sameTs_refl, sameAs_refl, sameNs_refl, sameT_refl, samePs_refl]))) [] (rfl) rfl (trivial)
                          · refine ExL.pures 1 rfl ?_
                            refine ExL.nil ?_
                            refine Ex.cond_f rfl ?_
                            refine Ex.skip ?_
                            refine Ex.regSeq (ExL.pures 1 rfl ?_)
                            refine ExL.nil ?_
                            refine Ex.regSeq (ExL.pures 2 rfl ?_)
                            refine ExL.op rfl (op_ret rfl rfl rfl (c_heldTotalS _ _ _ (by omega) 1 (by omega)) (Reads.get (Reads.row (i := 3) rfl)) rfl rfl (fun x35 hx35 => ?_))
                            refine ExL.pures 1 rfl ?_
                            refine ExL.nil ?_
                            refine Ex.seq ?_
                            refine Ex.regSeq (ExL.pures 1 rfl ?_)
                            refine ExL.lss rfl rfl rfl rfl rfl rfl (fun h36 => ?_) (fun h36 => ?_)
                            · refine ExL.nil ?_
                              refine Ex.cond_t rfl ?_
                              refine Ex.regSeq (ExL.pures 1 rfl ?_)
                              refine ExL.nil ?_
                              refine Ex.ret ?_
                              refine RetQ.mk () rfl (.tmp rfl .nil) (tB (by first | rfl | (exfalso; omega) | (exfalso; simp_all [sameV_refl, sameTs_refl, sameAs_refl, sameNs_refl, sameT_refl, samePs_refl]))) [] (rfl) rfl (trivial)
                            · refine ExL.nil ?_
                              refine Ex.cond_f rfl ?_
                              refine Ex.skip ?_
                              refine Ex.seq ?_
                              refine Ex.regSeq (ExL.pures 2 rfl ?_)
                              refine ExL.neq rfl rfl rfl rfl rfl rfl (fun h37 => ?_) (fun h37 => ?_)
                              · refine ExL.nil ?_
                                refine Ex.cond_t rfl ?_
                                refine Ex.regSeq (ExL.pures 1 rfl ?_)
                                refine ExL.nil ?_
                                refine Ex.ret ?_
                                refine RetQ.mk () rfl (.tmp rfl .nil) (tB (by first | rfl | (exfalso; omega) | (exfalso; simp_all [sameV_refl, sameTs_refl, sameAs_refl, sameNs_refl, sameT_refl, samePs_refl]))) [] (rfl) rfl (trivial)
                              · refine ExL.nil ?_
                                refine Ex.cond_f rfl ?_
                                refine Ex.skip ?_
                                refine Ex.regSeq (ExL.pures 1 rfl ?_)
                                refine ExL.nil ?_
                                refine Ex.ret ?_
                                refine RetQ.mk () rfl (.tmp rfl .nil) (tB (by first | rfl | (exfalso; omega) | (exfalso; simp_all [sameV_refl, sameTs_refl, sameAs_refl, sameNs_refl, sameT_refl, samePs_refl]))) [] (rfl) rfl (trivial)
end Go.Proofs.Ytepahnikcojepaa
