/- What these functions of the program hand back, each proved by walking its operations. -/
import Derived.Test.YtepahnikcojepaaProg
import Derived.Test.YtepahnikcojepaaFw
import Derived.Test.YtepahnikcojepaaGKS
import Derived.Test.YtepahnikcojepaaGZS
import Derived.Test.YtepahnikcojepaaGZP
set_option linter.unusedVariables false
set_option linter.unusedSimpArgs false
set_option maxRecDepth 4000
namespace Go.Proofs.Ytepahnikcojepaa
open Go Go.Sx Go.RowKit Go.W Go.Proofs
attribute [local irreducible] Ex ExL ExD Op1 Free RetQ MutQ Reads CellO SegO LoadsAs
theorem e_9 : Enters Try.prog 9 := Enters.of Try.func9 rfl
theorem w_FnExactBestStory (s : List Int) (hu : Nums 255 s) (As : Option Addr) (cs : Nat) (hls : s.length ≤ maxLen) (l : List VP) (Al : Option Addr) (cl : Nat) (hll : l.length ≤ maxLen) (f : VP) : Ret Try.prog 9 [.slice As s.length cs, .slice Al l.length cl, .agg (encP f).toArray] (fun w => Rd w As (s.flatMap (eI .u8)) ∧ Rd w Al (l.flatMap encP)) (fun x : Unit => .bool true) (fun x => []) (fun x => True) := by
  refine Ret.of e_9 Try.func9 rfl Try.ntmps9 rfl rfl (fun w hpre => ?_)
  have hs := hpre.1.base
  have hl := hpre.2.base
  have hm0 : maxLen = 9223372036854775807 := rfl
  obtain ⟨hsl1, hsl2⟩ := sto_len (s := s) (l := l) (f := f)
  refine Ex.regSeq (ExL.pures 0 rfl ?_)
  refine ExL.op rfl (op_box rfl rfl rfl rfl rfl (fun b1 => ?_))
  refine ExL.pures 1 rfl ?_
  refine ExL.nil ?_
  refine Ex.seq ?_
  refine Ex.regSeq (ExL.pures 2 rfl ?_)
  refine ExL.gtr rfl rfl rfl rfl rfl rfl (fun h2 => ?_) (fun h2 => ?_)
  · refine ExL.nil ?_
    refine Ex.cond_t rfl ?_
    refine Ex.regSeq (ExL.pures 1 rfl ?_)
    refine ExL.nil ?_
    refine Ex.ret ?_
    refine RetQ.mk () rfl (.tmp rfl .nil) (tB (by first | rfl | (exfalso; omega) | (exfalso; simp_all [sameV_refl, sameTs_refl, sameAs_refl, sameNs_refl, sameT_refl, samePs_refl]))) [] (rfl) rfl (trivial)
  · refine ExL.nil ?_
    refine Ex.cond_f rfl ?_
    refine Ex.skip ?_
    refine Ex.regSeq (ExL.pures 1 rfl ?_)
    refine ExL.nil ?_
    refine Ex.regSeq (ExL.pures 2 rfl ?_)
    refine ExL.op rfl (op_ret rfl rfl rfl (c_szReadingS _ _ _ (by omega) _ (by omega)) (fun _ _ => trivial) rfl rfl (fun x3 hx3 => ?_))
    refine ExL.pures 1 rfl ?_
    refine ExL.nil ?_
    refine Ex.seq ?_
    refine Ex.regSeq (ExL.pures 1 rfl ?_)
    refine ExL.lss rfl rfl rfl rfl rfl rfl (fun h4 => ?_) (fun h4 => ?_)
    · refine ExL.nil ?_
      refine Ex.cond_t rfl ?_
      refine Ex.regSeq (ExL.pures 1 rfl ?_)
      refine ExL.nil ?_
      refine Ex.ret ?_
      refine RetQ.mk () rfl (.tmp rfl .nil) (tB (by first | rfl | (exfalso; omega) | (exfalso; simp_all [sameV_refl, sameTs_refl, sameAs_refl, sameNs_refl, sameT_refl, samePs_refl]))) [] (rfl) rfl (trivial)
    · refine ExL.nil ?_
      refine Ex.cond_f rfl ?_
      refine Ex.skip ?_
      refine Ex.drawSeqM rfl ?_
      refine ExD.take (i := 0) rfl (by kernel_rfl) (pureVal_ok rfl) ((List.Sublist.refl _)) rfl rfl rfl ?_
      refine ExD.take (i := 2) rfl (by kernel_rfl) (pureVal_ok rfl) ((List.Sublist.refl _)) rfl rfl rfl ?_
      refine ExD.take (i := 4) rfl (by kernel_rfl) (fr_loadN rfl rfl rfl rfl rfl (SegO.whole (i := 0) rfl)) ((List.Sublist.refl _)) rfl rfl rfl ?_
      refine ExDF.start 10 rfl (Alc.of rfl rfl rfl rfl rfl) ?_
      refine ExDF.step (i := 1) rfl rfl (by kernel_rfl) (by kernel_rfl) rfl rfl rfl (fun _ => rfl) rfl (List.Sublist.refl _) (Alc.of rfl rfl rfl rfl rfl) (fun K' hK => op_ret rfl rfl rfl (c_toStack s _ _ (by omega)) (Reads.get (Reads.old hs)) rfl rfl (fun x7 hx7 => hK x7 hx7)) (fun b5 K' hK => op_ret rfl rfl rfl (c_toStack s _ _ (by omega)) (Reads.get (Reads.old hs)) rfl rfl (fun x6 hx6 => hK x6 hx6)) (fun x7 hx7 => ?_)
      refine ExDF.step (i := 3) rfl rfl (by kernel_rfl) (by kernel_rfl) rfl rfl rfl (fun _ => rfl) rfl (List.Sublist.cons _ (List.Sublist.refl _)) (Alc.of rfl rfl rfl rfl rfl) (fun K' hK => op_ret rfl rfl rfl (c_toReadingS l _ _ (by omega)) (Reads.get (Reads.old hl)) rfl rfl (fun x10 hx10 => hK x10 hx10)) (fun b8 K' hK => op_ret rfl rfl rfl (c_toReadingS l _ _ (by omega)) (Reads.get (Reads.old hl)) rfl rfl (fun x9 hx9 => hK x9 hx9)) (fun x10 hx10 => ?_)
      refine ExDF.step (i := 5) rfl rfl (by kernel_rfl) (by kernel_rfl) rfl rfl rfl (fun _ => rfl) rfl (List.Sublist.cons _ (List.Sublist.cons _ (List.Sublist.refl _))) (Alc.of rfl rfl rfl rfl rfl) (fun K' hK => op_ret rfl rfl rfl (c_toFlow f) (fun _ _ => trivial) rfl rfl (fun x13 hx13 => hK x13 hx13)) (fun b11 K' hK => op_ret rfl rfl rfl (c_toFlow f) (fun _ _ => trivial) rfl rfl (fun x12 hx12 => hK x12 hx12)) (fun x13 hx13 => ?_)
      refine ExDF.step (i := 6) rfl rfl (by kernel_rfl) (by kernel_rfl) rfl rfl rfl (fun _ => rfl) rfl (List.Sublist.cons _ (List.Sublist.cons _ (List.Sublist.refl _))) (Alc.of rfl rfl rfl rfl rfl) (fun K' hK => op_ret rfl rfl rfl (c_sStory s (by assumption) _ _ (by omega) l _ _ (by omega) f) (fun w hw => ⟨Reads.get (Reads.row (i := 1) rfl) w hw, Reads.get (Reads.row (i := 0) rfl) w hw⟩) rfl rfl (fun x16 hx16 => hK x16 hx16)) (fun b14 K' hK => op_ret rfl rfl rfl (c_sStory s (by assumption) _ _ (by omega) l _ _ (by omega) f) (fun w hw => ⟨Reads.get (Reads.row (i := 2) rfl) w hw, Reads.get (Reads.row (i := 1) rfl) w hw⟩) rfl rfl (fun x15 hx15 => hK x15 hx15)) (fun x16 hx16 => ?_)
      refine ExDF.take (i := 7) rfl (by kernel_rfl) (by kernel_rfl) rfl (pureVal_ok rfl) (fun _ => pureVal_ok rfl) (List.Sublist.cons _ (List.Sublist.cons _ (List.Sublist.cons _ (List.Sublist.cons _ (List.Sublist.refl _))))) rfl (fun _ => rfl) rfl rfl rfl ?_
      refine ExDF.take (i := 8) rfl (by kernel_rfl) (by kernel_rfl) rfl (pureVal_ok rfl) (fun _ => pureVal_ok rfl) (List.Sublist.cons _ (List.Sublist.cons _ (List.Sublist.cons _ (List.Sublist.cons _ (List.Sublist.refl _))))) rfl (fun _ => rfl) rfl rfl rfl ?_
      refine ExDF.take (i := 9) rfl (by kernel_rfl) (by kernel_rfl) rfl (pureVal_ok rfl) (fun _ => pureVal_ok rfl) (List.Sublist.cons _ (List.Sublist.cons _ (List.Sublist.cons _ (List.Sublist.cons _ (List.Sublist.refl _))))) rfl (fun _ => rfl) rfl rfl rfl ?_
      refine ExDF.fin rfl (by kernel_rfl) rfl (List.Sublist.cons _ (List.Sublist.cons _ (List.Sublist.cons _ (List.Sublist.cons _ (List.Sublist.refl _))))) (Alc.of rfl rfl rfl rfl rfl) (fun b17 => ?_)
      refine ExD.op (i := 11) rfl (by kernel_rfl) rfl (op_storeC (i := 0) rfl rfl rfl rfl rfl rfl rfl rfl rfl rfl ⟨(List.Sublist.cons _ (List.Sublist.cons _ (List.Sublist.cons _ (List.Sublist.cons _ (List.Sublist.cons _ (List.Sublist.refl _)))))), ?_⟩)
      refine ExD.take (i := 12) rfl (by kernel_rfl) (pureVal_ok rfl) ((List.Sublist.cons _ (List.Sublist.cons _ (List.Sublist.cons _ (List.Sublist.cons _ (List.Sublist.cons _ (List.Sublist.refl _))))))) rfl rfl rfl ?_
      refine ExD.done (by kernel_rfl) ?_
      refine Ex.regSeq (ExL.pures 1 rfl ?_)
      refine ExL.op rfl (op_ret rfl rfl rfl (c_toStack s _ _ (by omega)) (Reads.get (Reads.old hs)) rfl rfl (fun x18 hx18 => ?_))
      refine ExL.pures 1 rfl ?_
      refine ExL.nil ?_
      refine Ex.regSeq (ExL.pures 1 rfl ?_)
      refine ExL.op rfl (op_ret rfl rfl rfl (c_toReadingS l _ _ (by omega)) (Reads.get (Reads.old hl)) rfl rfl (fun x19 hx19 => ?_))
      refine ExL.pures 1 rfl ?_
      refine ExL.nil ?_
      refine Ex.regSeq (ExL.pures 2 rfl ?_)
      refine ExL.free (fr_loadN rfl rfl rfl rfl rfl (SegO.whole (i := 7) rfl)) rfl rfl rfl ?_
      refine ExL.op rfl (op_ret rfl rfl rfl (c_toFlow f) (fun _ _ => trivial) rfl rfl (fun x20 hx20 => ?_))
      refine ExL.op rfl (op_ret rfl rfl rfl (c_iStory s (by assumption) _ _ (by omega) l _ _ (by omega) f) (fun w hw => ⟨Reads.get (Reads.row (i := 1) rfl) w hw, Reads.get (Reads.row (i := 0) rfl) w hw⟩) rfl rfl (fun x21 hx21 => ?_))
      refine ExL.pures 3 rfl ?_
      refine ExL.op rfl (op_alloc rfl rfl rfl rfl rfl (fun b22 => ?_))
      refine ExL.op rfl (op_storeC (i := 0) rfl rfl rfl rfl rfl rfl rfl rfl rfl rfl ?_)
      refine ExL.pures 1 rfl ?_
      refine ExL.nil ?_
      refine Ex.seq ?_
      refine Ex.regSeq (ExL.pures 0 rfl ?_)
      refine ExL.free (fr_loadN rfl rfl rfl rfl rfl (SegO.whole (i := 0) rfl)) rfl rfl rfl ?_
      refine ExL.free (fr_loadN rfl rfl rfl rfl rfl (SegO.whole (i := 5) rfl)) rfl rfl rfl ?_
      refine ExL.op rfl (op_ret rfl rfl rfl (c_eqStory (storyV s l f).1 (x21.1.1) (x21.1.2) (x21.2.1) (x21.2.2) (storyV s l f).1 (x16.1.1) (x16.1.2) (x16.2.1) (x16.2.2) (by constructor <;> omega) (by constructor <;> omega)) (fun w hw => ⟨Reads.get (Reads.row (i := 1) rfl) w hw, Reads.get (Reads.row (i := 2) rfl) w hw, Reads.get (Reads.row (i := 6) rfl) w hw, Reads.get (Reads.row (i := 7) rfl) w hw⟩) rfl rfl (fun x23 hx23 => ?_))
      refine ExL.pures 2 rfl ?_
      refine ExL.bool (d := 53) rfl (fun hb24 => ?_) (fun hb24 => ?_)
      · replace hb24 := nb_t hb24
        refine ExL.pures 4 rfl ?_
        refine ExL.nil ?_
        refine Ex.cond_t rfl ?_
        refine Ex.regSeq (ExL.pures 1 rfl ?_)
        refine ExL.nil ?_
        refine Ex.ret ?_
        refine RetQ.mk () rfl (.tmp rfl .nil) (tB (by first | rfl | (exfalso; omega) | (exfalso; simp_all [sameV_refl, sameTs_refl, sameAs_refl, sameNs_refl, sameT_refl, samePs_refl]))) [] (rfl) rfl (trivial)
      · replace hb24 := nb_f hb24
        refine ExL.pures 2 rfl ?_
        refine ExL.neq rfl rfl rfl rfl rfl rfl (fun h25 => ?_) (fun h25 => ?_)
        · refine ExL.pures 1 rfl ?_
          refine ExL.nil ?_
          refine Ex.cond_t rfl ?_
          refine Ex.regSeq (ExL.pures 1 rfl ?_)
          refine ExL.nil ?_
          refine Ex.ret ?_
          refine RetQ.mk () rfl (.tmp rfl .nil) (tB (by first | rfl | (exfalso; omega) | (exfalso; simp_all [sameV_refl, sameTs_refl, sameAs_refl, sameNs_refl, sameT_refl, samePs_refl]))) [] (rfl) rfl (trivial)
        · refine ExL.pures 1 rfl ?_
          refine ExL.nil ?_
          refine Ex.cond_f rfl ?_
          refine Ex.skip ?_
          refine Ex.seq ?_
          refine Ex.regSeq (ExL.pures 2 rfl ?_)
          refine ExL.op rfl (op_ret rfl rfl rfl (c_toStack s _ _ (by omega)) (Reads.get (Reads.old hs)) rfl rfl (fun x26 hx26 => ?_))
          refine ExL.op rfl (op_ret rfl rfl rfl (c_eqStack s _ _ (by omega) s _ _ (by omega)) (fun w hw => ⟨Reads.get (Reads.row (i := 5) rfl) w hw, Reads.get (Reads.row (i := 0) rfl) w hw⟩) rfl rfl (fun x27 hx27 => ?_))
          refine ExL.pures 1 rfl ?_
          refine ExL.nil ?_
          refine Ex.cond rfl (fun hb28 => ?_) (fun hb28 => ?_)
          · replace hb28 := nd_t hb28
            refine Ex.regSeq (ExL.pures 1 rfl ?_)
            refine ExL.nil ?_
            refine Ex.ret ?_
            refine RetQ.mk () rfl (.tmp rfl .nil) (tB (by first | rfl | (exfalso; omega) | (exfalso; simp_all [sameV_refl, sameTs_refl, sameAs_refl, sameNs_refl, sameT_refl, samePs_refl]))) [] (rfl) rfl (trivial)
          · replace hb28 := nd_f hb28
            refine Ex.skip ?_
            refine Ex.seq ?_
            refine Ex.regSeq (ExL.pures 2 rfl ?_)
            refine ExL.op rfl (op_ret rfl rfl rfl (c_toReadingS l _ _ (by omega)) (Reads.get (Reads.old hl)) rfl rfl (fun x29 hx29 => ?_))
            refine ExL.op rfl (op_ret rfl rfl rfl (c_eqReadingS l _ _ (by omega) l _ _ (by omega)) (fun w hw => ⟨Reads.get (Reads.row (i := 5) rfl) w hw, Reads.get (Reads.row (i := 0) rfl) w hw⟩) rfl rfl (fun x30 hx30 => ?_))
            refine ExL.pures 1 rfl ?_
            refine ExL.nil ?_
            refine Ex.cond rfl (fun hb31 => ?_) (fun hb31 => ?_)
            · replace hb31 := nb_t hb31
              refine Ex.regSeq (ExL.pures 1 rfl ?_)
              refine ExL.nil ?_
              refine Ex.ret ?_
              refine RetQ.mk () rfl (.tmp rfl .nil) (tB (by first | rfl | (exfalso; omega) | (exfalso; simp_all [sameV_refl, sameTs_refl, sameAs_refl, sameNs_refl, sameT_refl, samePs_refl]))) [] (rfl) rfl (trivial)
            · replace hb31 := nb_f hb31
              refine Ex.skip ?_
              refine Ex.regSeq (ExL.pures 1 rfl ?_)
              refine ExL.nil ?_
              refine Ex.regSeq (ExL.pures 2 rfl ?_)
              refine ExL.op rfl (op_mut rfl rfl rfl (c_markStack s _ _ _ (by omega) 1 (by omega)) (perm_at (i := 6) rfl) (trivial) rfl rfl (fun x32 hx32 => ?_))
              refine ExL.pures 1 rfl ?_
              refine ExL.nil ?_
              refine Ex.regSeq (ExL.pures 2 rfl ?_)
              refine ExL.op rfl (op_mut rfl rfl rfl (c_markReadingS l _ _ _ (by omega) _ (by omega)) (perm_at (i := 6) rfl) (trivial) rfl rfl (fun x33 hx33 => ?_))
              refine ExL.pures 1 rfl ?_
              refine ExL.nil ?_
              refine Ex.seq ?_
              refine Ex.regSeq (ExL.pures 1 rfl ?_)
              refine ExL.lss rfl rfl rfl rfl rfl rfl (fun h34 => ?_) (fun h34 => ?_)
              · refine ExL.pures 11 rfl ?_
                refine ExL.nil ?_
                refine Ex.cond_t rfl ?_
                refine Ex.regSeq (ExL.pures 1 rfl ?_)
                refine ExL.nil ?_
                refine Ex.ret ?_
                refine RetQ.mk () rfl (.tmp rfl .nil) (tB (by first | rfl | (exfalso; omega) | (exfalso; simp_all [sameV_refl, sameTs_refl, sameAs_refl, sameNs_refl, sameT_refl, samePs_refl]))) [] (rfl) rfl (trivial)
              · refine ExL.pures 1 rfl ?_
                refine ExL.free (fr_loadN rfl rfl rfl rfl rfl (SegO.whole (i := 4) rfl)) rfl rfl rfl ?_
                refine ExL.free (fr_loadN rfl rfl rfl rfl rfl (SegO.whole (i := 7) rfl)) rfl rfl rfl ?_
                refine ExL.op rfl (op_ret rfl rfl rfl (c_eqStory (storyV s l f).1 (x21.1.1) (x21.1.2) (x21.2.1) (x21.2.2) (storyV s l f).1 (x16.1.1) (x16.1.2) (x16.2.1) (x16.2.2) (by constructor <;> omega) (by constructor <;> omega)) (fun w hw => ⟨Reads.get (Reads.row (i := 5) rfl) w hw, Reads.get (Reads.row (i := 6) rfl) w hw, Reads.get (Reads.row (i := 8) rfl) w hw, Reads.get (Reads.row (i := 9) rfl) w hw⟩) rfl rfl (fun x35 hx35 => ?_))
                refine ExL.pures 3 rfl ?_
                refine ExL.bool (d := 82) rfl (fun hb36 => ?_) (fun hb36 => ?_)
                · replace hb36 := nb_t hb36
                  refine ExL.pures 4 rfl ?_
                  refine ExL.nil ?_
                  refine Ex.cond_t rfl ?_
                  refine Ex.regSeq (ExL.pures 1 rfl ?_)
                  refine ExL.nil ?_
                  refine Ex.ret ?_
                  refine RetQ.mk () rfl (.tmp rfl .nil) (tB (by first | rfl | (exfalso; omega) | (exfalso; simp_all [sameV_refl, sameTs_refl, sameAs_refl, sameNs_refl, sameT_refl, samePs_refl]))) [] (rfl) rfl (trivial)
                · replace hb36 := nb_f hb36
                  refine ExL.pures 2 rfl ?_
                  refine ExL.neq rfl rfl rfl rfl rfl rfl (fun h37 => ?_) (fun h37 => ?_)
                  · refine ExL.pures 1 rfl ?_
                    refine ExL.nil ?_
                    refine Ex.cond_t rfl ?_
                    refine Ex.regSeq (ExL.pures 1 rfl ?_)
                    refine ExL.nil ?_
                    refine Ex.ret ?_
                    refine RetQ.mk () rfl (.tmp rfl .nil) (tB (by first | rfl | (exfalso; omega) | (exfalso; simp_all [sameV_refl, sameTs_refl, sameAs_refl, sameNs_refl, sameT_refl, samePs_refl]))) [] (rfl) rfl (trivial)
                  · refine ExL.pures 1 rfl ?_
                    refine ExL.nil ?_
                    refine Ex.cond_f rfl ?_
                    refine Ex.skip ?_
                    refine Ex.regSeq (ExL.pures 1 rfl ?_)
                    refine ExL.nil ?_
                    refine Ex.regSeq (ExL.pures 0 rfl ?_)
                    refine ExL.free (fr_loadN rfl rfl rfl rfl rfl (SegO.whole (i := 4) rfl)) rfl rfl rfl ?_
                    refine ExL.pures 1 rfl ?_
                    refine ExL.op rfl (op_mut rfl rfl rfl (c_markStory (storyV s l f).1 (x21.1.1) (x21.1.2) (x21.2.1) (x21.2.2) (by constructor <;> omega) 1 (by omega)) (perm_lt (i := 5) (j := 6) rfl rfl rfl) (trivial) rfl rfl (fun x38 hx38 => ?_))
                    refine ExL.pures 1 rfl ?_
                    refine ExL.nil ?_
                    refine Ex.regSeq (ExL.pures 1 rfl ?_)
                    refine ExL.nil ?_
                    refine Ex.regSeq (ExL.pures 0 rfl ?_)
                    refine ExL.free (fr_loadN rfl rfl rfl rfl rfl (SegO.whole (i := 6) rfl)) rfl rfl rfl ?_
                    refine ExL.pures 1 rfl ?_
                    refine ExL.op rfl (op_ret rfl rfl rfl (c_heldStory (storyV s l f).1 (x21.1.1) (x21.1.2) (x21.2.1) (x21.2.2) (by constructor <;> omega) 1 (by omega)) (fun w hw => ⟨Reads.get (Reads.row (i := 0) rfl) w hw, Reads.get (Reads.row (i := 1) rfl) w hw⟩) rfl rfl (fun x39 hx39 => ?_))
                    refine ExL.pures 1 rfl ?_
                    refine ExL.nil ?_
                    refine Ex.seq ?_
                    refine Ex.regSeq (ExL.pures 1 rfl ?_)
                    refine ExL.lss rfl rfl rfl rfl rfl rfl (fun h40 => ?_) (fun h40 => ?_)
                    · refine ExL.nil ?_
                      refine Ex.cond_t rfl ?_
                      refine Ex.regSeq (ExL.pures 1 rfl ?_)
                      refine ExL.nil ?_
                      refine Ex.ret ?_
                      refine RetQ.mk () rfl (.tmp rfl .nil) (tB (by first | rfl | (exfalso; omega) | (exfalso; simp_all [sameV_refl, sameTs_refl, sameAs_refl, sameNs_refl, sameT_refl, samePs_refl]))) [] (rfl) rfl (trivial)
                    · refine ExL.nil ?_
                      refine Ex.cond_f rfl ?_
                      refine Ex.skip ?_
                      refine Ex.seq ?_
                      refine Ex.regSeq (ExL.pures 2 rfl ?_)
                      refine ExL.neq rfl rfl rfl rfl rfl rfl (fun h41 => ?_) (fun h41 => ?_)
                      · refine ExL.nil ?_
                        refine Ex.cond_t rfl ?_
                        refine Ex.regSeq (ExL.pures 1 rfl ?_)
                        refine ExL.nil ?_
                        refine Ex.ret ?_
                        refine RetQ.mk () rfl (.tmp rfl .nil) (tB (by first | rfl | (exfalso; omega) | (exfalso; simp_all [sameV_refl, sameTs_refl, sameAs_refl, sameNs_refl, sameT_refl, samePs_refl]))) [] (rfl) rfl (trivial)
                      · refine ExL.nil ?_
                        refine Ex.cond_f rfl ?_
                        refine Ex.skip ?_
                        refine Ex.drawSeqM rfl ?_
                        refine ExD.take (i := 0) rfl (by kernel_rfl) (pureVal_ok rfl) ((List.Sublist.refl _)) rfl rfl rfl ?_
                        refine ExD.take (i := 2) rfl (by kernel_rfl) (pureVal_ok rfl) ((List.Sublist.refl _)) rfl rfl rfl ?_
                        refine ExD.take (i := 4) rfl (by kernel_rfl) (fr_loadN rfl rfl rfl rfl rfl (SegO.whole (i := 12) rfl)) ((List.Sublist.refl _)) rfl rfl rfl ?_
                        refine ExDF.start 10 rfl (Alc.of rfl rfl rfl rfl rfl) ?_
                        refine ExDF.step (i := 1) rfl rfl (by kernel_rfl) (by kernel_rfl) rfl rfl rfl (fun _ => rfl) rfl (List.Sublist.refl _) (Alc.of rfl rfl rfl rfl rfl) (fun K' hK => op_ret rfl rfl rfl (c_toStack s _ _ (by omega)) (Reads.get (Reads.old hs)) rfl rfl (fun x44 hx44 => hK x44 hx44)) (fun b42 K' hK => op_ret rfl rfl rfl (c_toStack s _ _ (by omega)) (Reads.get (Reads.old hs)) rfl rfl (fun x43 hx43 => hK x43 hx43)) (fun x44 hx44 => ?_)
                        refine ExDF.step (i := 3) rfl rfl (by kernel_rfl) (by kernel_rfl) rfl rfl rfl (fun _ => rfl) rfl (List.Sublist.cons _ (List.Sublist.refl _)) (Alc.of rfl rfl rfl rfl rfl) (fun K' hK => op_ret rfl rfl rfl (c_toReadingS l _ _ (by omega)) (Reads.get (Reads.old hl)) rfl rfl (fun x47 hx47 => hK x47 hx47)) (fun b45 K' hK => op_ret rfl rfl rfl (c_toReadingS l _ _ (by omega)) (Reads.get (Reads.old hl)) rfl rfl (fun x46 hx46 => hK x46 hx46)) (fun x47 hx47 => ?_)
                        refine ExDF.step (i := 5) rfl rfl (by kernel_rfl) (by kernel_rfl) rfl rfl rfl (fun _ => rfl) rfl (List.Sublist.cons _ (List.Sublist.cons _ (List.Sublist.refl _))) (Alc.of rfl rfl rfl rfl rfl) (fun K' hK => op_ret rfl rfl rfl (c_toFlow f) (fun _ _ => trivial) rfl rfl (fun x50 hx50 => hK x50 hx50)) (fun b48 K' hK => op_ret rfl rfl rfl (c_toFlow f) (fun _ _ => trivial) rfl rfl (fun x49 hx49 => hK x49 hx49)) (fun x50 hx50 => ?_)
                        refine ExDF.step (i := 6) rfl rfl (by kernel_rfl) (by kernel_rfl) rfl rfl rfl (fun _ => rfl) rfl (List.Sublist.cons _ (List.Sublist.cons _ (List.Sublist.refl _))) (Alc.of rfl rfl rfl rfl rfl) (fun K' hK => op_ret rfl rfl rfl (c_iStory s (by assumption) _ _ (by omega) l _ _ (by omega) f) (fun w hw => ⟨Reads.get (Reads.row (i := 1) rfl) w hw, Reads.get (Reads.row (i := 0) rfl) w hw⟩) rfl rfl (fun x53 hx53 => hK x53 hx53)) (fun b51 K' hK => op_ret rfl rfl rfl (c_iStory s (by assumption) _ _ (by omega) l _ _ (by omega) f) (fun w hw => ⟨Reads.get (Reads.row (i := 2) rfl) w hw, Reads.get (Reads.row (i := 1) rfl) w hw⟩) rfl rfl (fun x52 hx52 => hK x52 hx52)) (fun x53 hx53 => ?_)
                        refine ExDF.take (i := 7) rfl (by kernel_rfl) (by kernel_rfl) rfl (pureVal_ok rfl) (fun _ => pureVal_ok rfl) (List.Sublist.cons _ (List.Sublist.cons _ (List.Sublist.cons _ (List.Sublist.cons _ (List.Sublist.refl _))))) rfl (fun _ => rfl) rfl rfl rfl ?_
                        refine ExDF.take (i := 8) rfl (by kernel_rfl) (by kernel_rfl) rfl (pureVal_ok rfl) (fun _ => pureVal_ok rfl) (List.Sublist.cons _ (List.Sublist.cons _ (List.Sublist.cons _ (List.Sublist.cons _ (List.Sublist.refl _))))) rfl (fun _ => rfl) rfl rfl rfl ?_
                        refine ExDF.take (i := 9) rfl (by kernel_rfl) (by kernel_rfl) rfl (pureVal_ok rfl) (fun _ => pureVal_ok rfl) (List.Sublist.cons _ (List.Sublist.cons _ (List.Sublist.cons _ (List.Sublist.cons _ (List.Sublist.refl _))))) rfl (fun _ => rfl) rfl rfl rfl ?_
                        refine ExDF.fin rfl (by kernel_rfl) rfl (List.Sublist.cons _ (List.Sublist.cons _ (List.Sublist.cons _ (List.Sublist.cons _ (List.Sublist.refl _))))) (Alc.of rfl rfl rfl rfl rfl) (fun b54 => ?_)
                        refine ExD.op (i := 11) rfl (by kernel_rfl) rfl (op_storeC (i := 0) rfl rfl rfl rfl rfl rfl rfl rfl rfl rfl ⟨(List.Sublist.cons _ (List.Sublist.cons _ (List.Sublist.cons _ (List.Sublist.cons _ (List.Sublist.cons _ (List.Sublist.refl _)))))), ?_⟩)
                        refine ExD.take (i := 12) rfl (by kernel_rfl) (pureVal_ok rfl) ((List.Sublist.cons _ (List.Sublist.cons _ (List.Sublist.cons _ (List.Sublist.cons _ (List.Sublist.cons _ (List.Sublist.refl _))))))) rfl rfl rfl ?_
                        refine ExD.done (by kernel_rfl) ?_
                        refine Ex.seq ?_
                        refine Ex.regSeq (ExL.pures 0 rfl ?_)
                        refine ExL.free (fr_loadN rfl rfl rfl rfl rfl (SegO.whole (i := 0) rfl)) rfl rfl rfl ?_
                        refine ExL.free (fr_loadN rfl rfl rfl rfl rfl (SegO.whole (i := 12) rfl)) rfl rfl rfl ?_
                        refine ExL.op rfl (op_ret rfl rfl rfl (c_eqStory (storyV s l f).1 (x53.1.1) (x53.1.2) (x53.2.1) (x53.2.2) (storyV s l f).1 (x16.1.1) (x16.1.2) (x16.2.1) (x16.2.2) (by constructor <;> omega) (by constructor <;> omega)) (fun w hw => ⟨Reads.get (Reads.row (i := 1) rfl) w hw, Reads.get (Reads.row (i := 2) rfl) w hw, Reads.get (Reads.row (i := 13) rfl) w hw, Reads.get (Reads.row (i := 14) rfl) w hw⟩) rfl rfl (fun x55 hx55 => ?_))
                        refine ExL.pures 2 rfl ?_
                        refine ExL.bool (d := 112) rfl (fun hb56 => ?_) (fun hb56 => ?_)
                        · replace hb56 := nb_t hb56
                          refine ExL.pures 4 rfl ?_
                          refine ExL.nil ?_
                          refine Ex.cond_t rfl ?_
                          refine Ex.regSeq (ExL.pures 1 rfl ?_)
                          refine ExL.nil ?_
                          refine Ex.ret ?_
                          refine RetQ.mk () rfl (.tmp rfl .nil) (tB (by first | rfl | (exfalso; omega) | (exfalso; simp_all [sameV_refl, sameTs_refl, sameAs_refl, sameNs_refl, sameT_refl, samePs_refl]))) [] (rfl) rfl (trivial)
                        · replace hb56 := nb_f hb56
                          refine ExL.pures 2 rfl ?_
                          refine ExL.neq rfl rfl rfl rfl rfl rfl (fun h57 => ?_) (fun h57 => ?_)
                          · refine ExL.pures 1 rfl ?_
                            refine ExL.nil ?_
                            refine Ex.cond_t rfl ?_
                            refine Ex.regSeq (ExL.pures 1 rfl ?_)
                            refine ExL.nil ?_
                            refine Ex.ret ?_
                            refine RetQ.mk () rfl (.tmp rfl .nil) (tB (by first | rfl | (exfalso; omega) | (exfalso; simp_all [sameV_refl, sameTs_refl, sameAs_refl, sameNs_refl, sameT_refl, samePs_refl]))) [] (rfl) rfl (trivial)
                          · refine ExL.pures 1 rfl ?_
                            refine ExL.nil ?_
                            refine Ex.cond_f rfl ?_
                            refine Ex.skip ?_
                            refine Ex.regSeq (ExL.pures 1 rfl ?_)
                            refine ExL.nil ?_
                            refine Ex.regSeq (ExL.pures 0 rfl ?_)
                            refine ExL.free (fr_loadN rfl rfl rfl rfl rfl (SegO.whole (i := 11) rfl)) rfl rfl rfl ?_
                            refine ExL.pures 1 rfl ?_
                            refine ExL.op rfl (op_ret rfl rfl rfl (c_heldStory (storyV s l f).1 (x21.1.1) (x21.1.2) (x21.2.1) (x21.2.2) (by constructor <;> omega) 1 (by omega)) (fun w hw => ⟨Reads.get (Reads.row (i := 5) rfl) w hw, Reads.get (Reads.row (i := 6) rfl) w hw⟩) rfl rfl (fun x58 hx58 => ?_))
                            refine ExL.pures 1 rfl ?_
                            refine ExL.nil ?_
                            refine Ex.seq ?_
                            refine Ex.regSeq (ExL.pures 1 rfl ?_)
                            refine ExL.lss rfl rfl rfl rfl rfl rfl (fun h59 => ?_) (fun h59 => ?_)
                            · refine ExL.nil ?_
                              refine Ex.cond_t rfl ?_
                              refine Ex.regSeq (ExL.pures 1 rfl ?_)
                              refine ExL.nil ?_
                              refine Ex.ret ?_
                              refine RetQ.mk () rfl (.tmp rfl .nil) (tB (by first | rfl | (exfalso; omega) | (exfalso; simp_all [sameV_refl, sameTs_refl, sameAs_refl, sameNs_refl, sameT_refl, samePs_refl]))) [] (rfl) rfl (trivial)
                            · refine ExL.nil ?_
                              refine Ex.cond_f rfl ?_
                              refine Ex.skip ?_
                              refine Ex.seq ?_
                              refine Ex.regSeq (ExL.pures 2 rfl ?_)
                              refine ExL.neq rfl rfl rfl rfl rfl rfl (fun h60 => ?_) (fun h60 => ?_)
                              · refine ExL.nil ?_
                                refine Ex.cond_t rfl ?_
                                refine Ex.regSeq (ExL.pures 1 rfl ?_)
                                refine ExL.nil ?_
                                refine Ex.ret ?_
                                refine RetQ.mk () rfl (.tmp rfl .nil) (tB (by first | rfl | (exfalso; omega) | (exfalso; simp_all [sameV_refl, sameTs_refl, sameAs_refl, sameNs_refl, sameT_refl, samePs_refl]))) [] (rfl) rfl (trivial)
                              · refine ExL.nil ?_
                                refine Ex.cond_f rfl ?_
                                refine Ex.skip ?_
                                refine Ex.regSeq (ExL.pures 1 rfl ?_)
                                refine ExL.nil ?_
                                refine Ex.ret ?_
                                refine RetQ.mk () rfl (.tmp rfl .nil) (tB (by first | rfl | (exfalso; omega) | (exfalso; simp_all [sameV_refl, sameTs_refl, sameAs_refl, sameNs_refl, sameT_refl, samePs_refl]))) [] (rfl) rfl (trivial)
end Go.Proofs.Ytepahnikcojepaa
