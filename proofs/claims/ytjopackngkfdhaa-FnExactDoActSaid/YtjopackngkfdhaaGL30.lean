/- What these functions of the program hand back, each proved by walking its operations. -/
import Derived.Test.YtjopackngkfdhaaProg
import Derived.Test.YtjopackngkfdhaaFw
import Derived.Test.YtjopackngkfdhaaGZ2
import Derived.Test.YtjopackngkfdhaaF2
set_option linter.unusedVariables false
set_option linter.unusedSimpArgs false
set_option maxRecDepth 4000
namespace Go.Proofs.Ytjopackngkfdhaa
open Go Go.Sx Go.RowKit Go.W Go.Proofs
attribute [local irreducible] Ex ExL ExD Op1 Free RetQ MutQ Reads CellO SegO LoadsAs
theorem e_14 : Enters Try.prog 14 := Enters.of Try.func14 rfl
theorem w_FnExactDoAct (d : VDev) (hk : OkDev d) (Ad : Option Addr) (cd : Nat) (a : VAct) (hoa : OkAct a) : Ret Try.prog 14 [.agg (encV Ad cd d).toArray, .agg (encA a).toArray] (fun w => Rd w Ad (d.stack.flatMap (eI .u8))) (fun x : Unit => .bool true) (fun x => []) (fun x => True) := by
  refine Ret.of e_14 Try.func14 rfl Try.ntmps14 rfl rfl (fun w hpre => ?_)
  have hd := hpre.base
  have hkk := hk
  have hdl := da_len d a
  obtain ⟨hl, hu, ha, hpp, htt⟩ := hk
  have hm0 : maxLen = 9223372036854775807 := rfl
  have hz := size_bd hu d.stack.length
  rw [List.take_length] at hz
  refine Ex.regSeq (ExL.pures 0 rfl ?_)
  refine ExL.op rfl (op_box rfl rfl rfl rfl rfl (fun b1 => ?_))
  refine ExL.op rfl (op_box rfl rfl rfl rfl rfl (fun b2 => ?_))
  refine ExL.pures 1 rfl ?_
  refine ExL.nil ?_
  refine Ex.regSeq (ExL.pures 1 rfl ?_)
  refine ExL.nil ?_
  refine Ex.regSeq (ExL.pures 0 rfl ?_)
  refine ExL.free (fr_loadN rfl rfl rfl rfl rfl (SegO.whole (i := 1) rfl)) rfl rfl rfl ?_
  refine ExL.pures 1 rfl ?_
  refine ExL.op rfl (op_ret rfl rfl rfl (c_szDevice d _ _ (by omega) _ (by omega)) (fun _ _ => trivial) rfl rfl (fun x3 hx3 => ?_))
  refine ExL.pures 1 rfl ?_
  refine ExL.nil ?_
  refine Ex.seq ?_
  refine Ex.regSeq (ExL.pures 1 rfl ?_)
  refine ExL.lss rfl rfl rfl rfl rfl rfl (fun h4 => ?_) (fun h4 => ?_)
  · refine ExL.nil ?_
    refine Ex.cond_t rfl ?_
    refine Ex.regSeq (ExL.pures 1 rfl ?_)
    refine ExL.nil ?_
    refine Ex.ret ?_
    refine RetQ.mk () rfl (.tmp rfl .nil) (tB (by first | rfl | (exfalso; omega) | (exfalso; simp_all [sameV_refl, sameTs_refl, sameAs_refl, sameNs_refl, sameT_refl]))) [] (rfl) rfl (trivial)
  · refine ExL.nil ?_
    refine Ex.cond_f rfl ?_
    refine Ex.skip ?_
    refine Ex.drawSeqM rfl ?_
    refine ExD.take (i := 0) rfl (by kernel_rfl) (fr_loadN rfl rfl rfl rfl rfl (SegO.whole (i := 1) rfl)) ((List.Sublist.refl _)) rfl rfl rfl ?_
    refine ExD.take (i := 2) rfl (by kernel_rfl) (fr_loadN rfl rfl rfl rfl rfl (SegO.whole (i := 0) rfl)) ((List.Sublist.refl _)) rfl rfl rfl ?_
    refine ExDF.start 9 rfl (Alc.of rfl rfl rfl rfl rfl) ?_
    refine ExDF.step (i := 1) rfl rfl (by kernel_rfl) (by kernel_rfl) rfl rfl rfl (fun _ => rfl) rfl (List.Sublist.refl _) (Alc.of rfl rfl rfl rfl rfl) (fun K' hK => op_ret rfl rfl rfl (c_toDevice d _ _ (by omega)) (Reads.get (Reads.old hd)) rfl rfl (fun x7 hx7 => hK x7 hx7)) (fun b5 K' hK => op_ret rfl rfl rfl (c_toDevice d _ _ (by omega)) (Reads.get (Reads.old hd)) rfl rfl (fun x6 hx6 => hK x6 hx6)) (fun x7 hx7 => ?_)
    refine ExDF.step (i := 3) rfl rfl (by kernel_rfl) (by kernel_rfl) rfl rfl rfl (fun _ => rfl) rfl (List.Sublist.cons _ (List.Sublist.refl _)) (Alc.of rfl rfl rfl rfl rfl) (fun K' hK => op_ret rfl rfl rfl (c_toAct a) (fun _ _ => trivial) rfl rfl (fun x10 hx10 => hK x10 hx10)) (fun b8 K' hK => op_ret rfl rfl rfl (c_toAct a) (fun _ _ => trivial) rfl rfl (fun x9 hx9 => hK x9 hx9)) (fun x10 hx10 => ?_)
    refine ExDF.step (i := 4) rfl rfl (by kernel_rfl) (by kernel_rfl) rfl rfl rfl (fun _ => rfl) rfl (List.Sublist.cons _ (List.Sublist.refl _)) (Alc.of rfl rfl rfl rfl rfl) (fun K' hK => op_ret rfl rfl rfl (c_sDoAct d (by assumption) _ _ (by first | assumption | exact (fun e => nomatch e)) (by omega) a (by assumption)) (Reads.get (Reads.row (i := 0) rfl)) rfl rfl (fun x13 hx13 => hK x13 hx13)) (fun b11 K' hK => op_ret rfl rfl rfl (c_sDoAct d (by assumption) _ _ (by first | assumption | exact (fun e => nomatch e)) (by omega) a (by assumption)) (Reads.get (Reads.row (i := 1) rfl)) rfl rfl (fun x12 hx12 => hK x12 hx12)) (fun x13 hx13 => ?_)
    refine ExDF.take (i := 5) rfl (by kernel_rfl) (by kernel_rfl) rfl (pureVal_ok rfl) (fun _ => pureVal_ok rfl) (List.Sublist.cons _ (List.Sublist.cons _ (List.Sublist.refl _))) rfl (fun _ => rfl) rfl rfl rfl ?_
    refine ExDF.take (i := 6) rfl (by kernel_rfl) (by kernel_rfl) rfl (pureVal_ok rfl) (fun _ => pureVal_ok rfl) (List.Sublist.cons _ (List.Sublist.cons _ (List.Sublist.refl _))) rfl (fun _ => rfl) rfl rfl rfl ?_
    refine ExDF.take (i := 7) rfl (by kernel_rfl) (by kernel_rfl) rfl (pureVal_ok rfl) (fun _ => pureVal_ok rfl) (List.Sublist.cons _ (List.Sublist.cons _ (List.Sublist.refl _))) rfl (fun _ => rfl) rfl rfl rfl ?_
    refine ExDF.take (i := 8) rfl (by kernel_rfl) (by kernel_rfl) rfl (pureVal_ok rfl) (fun _ => pureVal_ok rfl) (List.Sublist.cons _ (List.Sublist.cons _ (List.Sublist.refl _))) rfl (fun _ => rfl) rfl rfl rfl ?_
    refine ExDF.fin rfl (by kernel_rfl) rfl (List.Sublist.cons _ (List.Sublist.cons _ (List.Sublist.refl _))) (Alc.of rfl rfl rfl rfl rfl) (fun b14 => ?_)
    refine ExD.op (i := 10) rfl (by kernel_rfl) rfl (op_storeC (i := 0) rfl rfl rfl rfl rfl rfl rfl rfl rfl rfl ⟨(List.Sublist.cons _ (List.Sublist.cons _ (List.Sublist.cons _ (List.Sublist.refl _)))), ?_⟩)
    refine ExD.take (i := 11) rfl (by kernel_rfl) (pureVal_ok rfl) ((List.Sublist.cons _ (List.Sublist.cons _ (List.Sublist.cons _ (List.Sublist.refl _))))) rfl rfl rfl ?_
    refine ExD.take (i := 12) rfl (by kernel_rfl) (pureVal_ok rfl) ((List.Sublist.cons _ (List.Sublist.cons _ (List.Sublist.cons _ (List.Sublist.refl _))))) rfl rfl rfl ?_
    refine ExD.done (by kernel_rfl) ?_
    refine Ex.regSeq (ExL.pures 0 rfl ?_)
    refine ExL.free (fr_loadN rfl rfl rfl rfl rfl (SegO.whole (i := 4) rfl)) rfl rfl rfl ?_
    refine ExL.op rfl (op_ret rfl rfl rfl (c_toDevice d _ _ (by omega)) (Reads.get (Reads.old hd)) rfl rfl (fun x15 hx15 => ?_))
    refine ExL.op rfl (op_alloc rfl rfl rfl rfl rfl (fun b16 => ?_))
    refine ExL.op rfl (op_storeC (i := 0) rfl rfl rfl rfl rfl rfl rfl rfl rfl rfl ?_)
    refine ExL.nil ?_
    refine Ex.drawSeqM rfl ?_
    refine ExD.take (i := 0) rfl (by kernel_rfl) (fr_loadN rfl rfl rfl rfl rfl (SegO.whole (i := 0) rfl)) ((List.Sublist.refl _)) rfl rfl rfl ?_
    refine ExD.take (i := 1) rfl (by kernel_rfl) (fr_loadN rfl rfl rfl rfl rfl (SegO.whole (i := 5) rfl)) ((List.Sublist.refl _)) rfl rfl rfl ?_
    refine ExDF.start 8 rfl (Alc.of rfl rfl rfl rfl rfl) ?_
    refine ExDF.step (i := 2) rfl rfl (by kernel_rfl) (by kernel_rfl) rfl rfl rfl (fun _ => rfl) rfl (List.Sublist.refl _) (Alc.of rfl rfl rfl rfl rfl) (fun K' hK => op_ret rfl rfl rfl (c_toAct a) (fun _ _ => trivial) rfl rfl (fun x19 hx19 => hK x19 hx19)) (fun b17 K' hK => op_ret rfl rfl rfl (c_toAct a) (fun _ _ => trivial) rfl rfl (fun x18 hx18 => hK x18 hx18)) (fun x19 hx19 => ?_)
    refine ExDF.step (i := 3) rfl rfl (by kernel_rfl) (by kernel_rfl) rfl rfl rfl (fun _ => rfl) rfl (List.Sublist.refl _) (Alc.of rfl rfl rfl rfl rfl) (fun K' hK => op_ret rfl rfl rfl (c_iDoAct d (by assumption) _ _ (by first | assumption | exact (fun e => nomatch e)) (by omega) a (by assumption)) (Reads.get (Reads.row (i := 1) rfl)) rfl rfl (fun x22 hx22 => hK x22 hx22)) (fun b20 K' hK => op_ret rfl rfl rfl (c_iDoAct d (by assumption) _ _ (by first | assumption | exact (fun e => nomatch e)) (by omega) a (by assumption)) (Reads.get (Reads.row (i := 2) rfl)) rfl rfl (fun x21 hx21 => hK x21 hx21)) (fun x22 hx22 => ?_)
    refine ExDF.take (i := 4) rfl (by kernel_rfl) (by kernel_rfl) rfl (pureVal_ok rfl) (fun _ => pureVal_ok rfl) (List.Sublist.cons _ (List.Sublist.refl _)) rfl (fun _ => rfl) rfl rfl rfl ?_
    refine ExDF.take (i := 5) rfl (by kernel_rfl) (by kernel_rfl) rfl (pureVal_ok rfl) (fun _ => pureVal_ok rfl) (List.Sublist.cons _ (List.Sublist.refl _)) rfl (fun _ => rfl) rfl rfl rfl ?_
    refine ExDF.take (i := 6) rfl (by kernel_rfl) (by kernel_rfl) rfl (pureVal_ok rfl) (fun _ => pureVal_ok rfl) (List.Sublist.cons _ (List.Sublist.refl _)) rfl (fun _ => rfl) rfl rfl rfl ?_
    refine ExDF.take (i := 7) rfl (by kernel_rfl) (by kernel_rfl) rfl (pureVal_ok rfl) (fun _ => pureVal_ok rfl) (List.Sublist.cons _ (List.Sublist.refl _)) rfl (fun _ => rfl) rfl rfl rfl ?_
    refine ExDF.fin rfl (by kernel_rfl) rfl (List.Sublist.cons _ (List.Sublist.refl _)) (Alc.of rfl rfl rfl rfl rfl) (fun b23 => ?_)
    refine ExD.op (i := 9) rfl (by kernel_rfl) rfl (op_storeC (i := 0) rfl rfl rfl rfl rfl rfl rfl rfl rfl rfl ⟨(List.Sublist.cons _ (List.Sublist.cons _ (List.Sublist.refl _))), ?_⟩)
    refine ExD.take (i := 10) rfl (by kernel_rfl) (pureVal_ok rfl) ((List.Sublist.cons _ (List.Sublist.cons _ (List.Sublist.refl _)))) rfl rfl rfl ?_
    refine ExD.take (i := 11) rfl (by kernel_rfl) (pureVal_ok rfl) ((List.Sublist.cons _ (List.Sublist.cons _ (List.Sublist.refl _)))) rfl rfl rfl ?_
    refine ExD.done (by kernel_rfl) ?_
    refine Ex.seq ?_
    refine Ex.regSeq (ExL.pures 0 rfl ?_)
    refine ExL.free (fr_loadN rfl rfl rfl rfl rfl (SegO.whole (i := 0) rfl)) rfl rfl rfl ?_
    refine ExL.free (fr_loadN rfl rfl rfl rfl rfl (SegO.whole (i := 4) rfl)) rfl rfl rfl ?_
    refine ExL.op rfl (op_ret rfl rfl rfl (c_eqDevice (doActV d a).1 (doActV d a).1 _ _ _ _ (by omega) (by omega)) (fun w hw => ⟨Reads.get (Reads.row (i := 1) rfl) w hw, Reads.get (Reads.row (i := 5) rfl) w hw⟩) rfl rfl (fun x24 hx24 => ?_))
    refine ExL.pures 2 rfl ?_
    refine ExL.bool (d := 47) rfl (fun hb25 => ?_) (fun hb25 => ?_)
    · replace hb25 := nb_t hb25
      refine ExL.pures 9 rfl ?_
      refine ExL.nil ?_
      refine Ex.cond_t rfl ?_
      refine Ex.regSeq (ExL.pures 1 rfl ?_)
      refine ExL.nil ?_
      refine Ex.ret ?_
      refine RetQ.mk () rfl (.tmp rfl .nil) (tB (by first | rfl | (exfalso; omega) | (exfalso; simp_all [sameV_refl, sameTs_refl, sameAs_refl, sameNs_refl, sameT_refl]))) [] (rfl) rfl (trivial)
    · replace hb25 := nb_f hb25
      refine ExL.pures 2 rfl ?_
      refine ExL.neq rfl rfl rfl rfl rfl rfl (fun h26 => ?_) (fun h26 => ?_)
      · refine ExL.pures 6 rfl ?_
        refine ExL.nil ?_
        refine Ex.cond_t rfl ?_
        refine Ex.regSeq (ExL.pures 1 rfl ?_)
        refine ExL.nil ?_
        refine Ex.ret ?_
        refine RetQ.mk () rfl (.tmp rfl .nil) (tB (by first | rfl | (exfalso; omega) | (exfalso; simp_all [sameV_refl, sameTs_refl, sameAs_refl, sameNs_refl, sameT_refl]))) [] (rfl) rfl (trivial)
      · refine ExL.pures 4 rfl ?_
        refine ExL.neq rfl rfl rfl rfl rfl rfl (fun h27 => ?_) (fun h27 => ?_)
        · refine ExL.pures 1 rfl ?_
          refine ExL.nil ?_
          refine Ex.cond_t rfl ?_
          refine Ex.regSeq (ExL.pures 1 rfl ?_)
          refine ExL.nil ?_
          refine Ex.ret ?_
          refine RetQ.mk () rfl (.tmp rfl .nil) (tB (by first | rfl | (exfalso; omega) | (exfalso; simp_all [sameV_refl, sameTs_refl, sameAs_refl, sameNs_refl, sameT_refl]))) [] (rfl) rfl (trivial)
        · refine ExL.pures 1 rfl ?_
          refine ExL.nil ?_
          refine Ex.cond_f rfl ?_
          refine Ex.skip ?_
          refine Ex.seq ?_
          refine Ex.drawSeqM rfl ?_
          refine ExD.take (i := 0) rfl (by kernel_rfl) (fr_loadN rfl rfl rfl rfl rfl (SegO.whole (i := 2) rfl)) ((List.Sublist.refl _)) rfl rfl rfl ?_
          refine ExD.take (i := 1) rfl (by kernel_rfl) (fr_loadN rfl rfl rfl rfl rfl (SegO.whole (i := 8) rfl)) ((List.Sublist.refl _)) rfl rfl rfl ?_
          refine ExD.op (i := 2) rfl (by kernel_rfl) rfl (op_ret rfl rfl rfl (c_toDevice d _ _ (by omega)) (Reads.get (Reads.old hd)) rfl rfl (fun x28 hx28 => ⟨(List.Sublist.cons _ (List.Sublist.refl _)), ?_⟩))
          refine ExD.op (i := 3) rfl (by kernel_rfl) rfl (op_ret rfl rfl rfl (c_eqDevice d d _ _ _ _ (by omega) (by omega)) (fun w hw => ⟨Reads.get (Reads.row (i := 4) rfl) w hw, Reads.get (Reads.row (i := 0) rfl) w hw⟩) rfl rfl (fun x29 hx29 => ⟨(List.Sublist.cons _ (List.Sublist.refl _)), ?_⟩))
          refine ExD.take (i := 4) rfl (by kernel_rfl) (pureVal_ok rfl) ((List.Sublist.cons _ (List.Sublist.refl _))) rfl rfl rfl ?_
          refine ExD.done (by kernel_rfl) ?_
          refine Ex.cond rfl (fun hb30 => ?_) (fun hb30 => ?_)
          · replace hb30 := nb_t hb30
            refine Ex.regSeq (ExL.pures 1 rfl ?_)
            refine ExL.nil ?_
            refine Ex.ret ?_
            refine RetQ.mk () rfl (.tmp rfl .nil) (tB (by first | rfl | (exfalso; omega) | (exfalso; simp_all [sameV_refl, sameTs_refl, sameAs_refl, sameNs_refl, sameT_refl]))) [] (rfl) rfl (trivial)
          · replace hb30 := nb_f hb30
            refine Ex.skip ?_
            refine Ex.regSeq (ExL.pures 1 rfl ?_)
            refine ExL.nil ?_
            refine Ex.regSeq (ExL.pures 0 rfl ?_)
            refine ExL.free (fr_loadN rfl rfl rfl rfl rfl (SegO.whole (i := 3) rfl)) rfl rfl rfl ?_
            refine ExL.pures 1 rfl ?_
            refine ExL.op rfl (op_mut rfl rfl rfl (c_markDevice d _ _ (by omega) 1 (by omega)) (perm_at (i := 4) rfl) (trivial) rfl rfl (fun x31 hx31 => ?_))
            refine ExL.pures 1 rfl ?_
            refine ExL.nil ?_
            refine Ex.seq ?_
            refine Ex.regSeq (ExL.pures 1 rfl ?_)
            refine ExL.lss rfl rfl rfl rfl rfl rfl (fun h32 => ?_) (fun h32 => ?_)
            · refine ExL.pures 16 rfl ?_
              refine ExL.nil ?_
              refine Ex.cond_t rfl ?_
              refine Ex.regSeq (ExL.pures 1 rfl ?_)
              refine ExL.nil ?_
              refine Ex.ret ?_
              refine RetQ.mk () rfl (.tmp rfl .nil) (tB (by first | rfl | (exfalso; omega) | (exfalso; simp_all [sameV_refl, sameTs_refl, sameAs_refl, sameNs_refl, sameT_refl]))) [] (rfl) rfl (trivial)
            · refine ExL.pures 1 rfl ?_
              refine ExL.free (fr_loadN rfl rfl rfl rfl rfl (SegO.whole (i := 2) rfl)) rfl rfl rfl ?_
              refine ExL.free (fr_loadN rfl rfl rfl rfl rfl (SegO.whole (i := 5) rfl)) rfl rfl rfl ?_
              refine ExL.op rfl (op_ret rfl rfl rfl (c_eqDevice (doActV d a).1 (doActV d a).1 _ _ _ _ (by omega) (by omega)) (fun w hw => ⟨Reads.get (Reads.row (i := 3) rfl) w hw, Reads.get (Reads.row (i := 6) rfl) w hw⟩) rfl rfl (fun x33 hx33 => ?_))
              refine ExL.pures 3 rfl ?_
              refine ExL.bool (d := 73) rfl (fun hb34 => ?_) (fun hb34 => ?_)
              · replace hb34 := nb_t hb34
                refine ExL.pures 9 rfl ?_
                refine ExL.nil ?_
                refine Ex.cond_t rfl ?_
                refine Ex.regSeq (ExL.pures 1 rfl ?_)
                refine ExL.nil ?_
                refine Ex.ret ?_
                refine RetQ.mk () rfl (.tmp rfl .nil) (tB (by first | rfl | (exfalso; omega) | (exfalso; simp_all [sameV_refl, sameTs_refl, sameAs_refl, sameNs_refl, sameT_refl]))) [] (rfl) rfl (trivial)
              · replace hb34 := nb_f hb34
                refine ExL.pures 2 rfl ?_
                refine ExL.neq rfl rfl rfl rfl rfl rfl (fun h35 => ?_) (fun h35 => ?_)
                · refine ExL.pures 6 rfl ?_
                  refine ExL.nil ?_
                  refine Ex.cond_t rfl ?_
                  refine Ex.regSeq (ExL.pures 1 rfl ?_)
                  refine ExL.nil ?_
                  refine Ex.ret ?_
                  refine RetQ.mk () rfl (.tmp rfl .nil) (tB (by first | rfl | (exfalso; omega) | (exfalso; simp_all [sameV_refl, sameTs_refl, sameAs_refl, sameNs_refl, sameT_refl]))) [] (rfl) rfl (trivial)
                · refine ExL.pures 4 rfl ?_
                  refine ExL.neq rfl rfl rfl rfl rfl rfl (fun h36 => ?_) (fun h36 => ?_)
                  · refine ExL.pures 1 rfl ?_
                    refine ExL.nil ?_
                    refine Ex.cond_t rfl ?_
                    refine Ex.regSeq (ExL.pures 1 rfl ?_)
                    refine ExL.nil ?_
                    refine Ex.ret ?_
                    refine RetQ.mk () rfl (.tmp rfl .nil) (tB (by first | rfl | (exfalso; omega) | (exfalso; simp_all [sameV_refl, sameTs_refl, sameAs_refl, sameNs_refl, sameT_refl]))) [] (rfl) rfl (trivial)
                  · refine ExL.pures 1 rfl ?_
                    refine ExL.nil ?_
                    refine Ex.cond_f rfl ?_
                    refine Ex.skip ?_
                    refine Ex.regSeq (ExL.pures 1 rfl ?_)
                    refine ExL.nil ?_
                    refine Ex.regSeq (ExL.pures 0 rfl ?_)
                    refine ExL.free (fr_loadN rfl rfl rfl rfl rfl (SegO.whole (i := 2) rfl)) rfl rfl rfl ?_
                    refine ExL.pures 1 rfl ?_
                    refine ExL.op rfl (op_mut rfl rfl rfl (c_markDevice (doActV d a).1 _ _ (by omega) 1 (by omega)) (perm_at (i := 3) rfl) (trivial) rfl rfl (fun x37 hx37 => ?_))
                    refine ExL.pures 1 rfl ?_
                    refine ExL.nil ?_
                    refine Ex.regSeq (ExL.pures 1 rfl ?_)
                    refine ExL.nil ?_
                    refine Ex.regSeq (ExL.pures 0 rfl ?_)
                    refine ExL.free (fr_loadN rfl rfl rfl rfl rfl (SegO.whole (i := 3) rfl)) rfl rfl rfl ?_
                    refine ExL.pures 1 rfl ?_
                    refine ExL.op rfl (op_ret rfl rfl rfl (c_heldDevice (doActV d a).1 _ _ (by omega) 1 (by omega)) (Reads.get (Reads.row (i := 0) rfl)) rfl rfl (fun x38 hx38 => ?_))
                    refine ExL.pures 1 rfl ?_
                    refine ExL.nil ?_
                    refine Ex.seq ?_
                    refine Ex.regSeq (ExL.pures 1 rfl ?_)
                    refine ExL.lss rfl rfl rfl rfl rfl rfl (fun h39 => ?_) (fun h39 => ?_)
                    · refine ExL.nil ?_
                      refine Ex.cond_t rfl ?_
                      refine Ex.regSeq (ExL.pures 1 rfl ?_)
                      refine ExL.nil ?_
                      refine Ex.ret ?_
                      refine RetQ.mk () rfl (.tmp rfl .nil) (tB (by first | rfl | (exfalso; omega) | (exfalso; simp_all [sameV_refl, sameTs_refl, sameAs_refl, sameNs_refl, sameT_refl]))) [] (rfl) rfl (trivial)
                    · refine ExL.nil ?_
                      refine Ex.cond_f rfl ?_
                      refine Ex.skip ?_
                      refine Ex.seq ?_
                      refine Ex.regSeq (ExL.pures 2 rfl ?_)
                      refine ExL.neq rfl rfl rfl rfl rfl rfl (fun h40 => ?_) (fun h40 => ?_)
                      · refine ExL.nil ?_
                        refine Ex.cond_t rfl ?_
                        refine Ex.regSeq (ExL.pures 1 rfl ?_)
                        refine ExL.nil ?_
                        refine Ex.ret ?_
                        refine RetQ.mk () rfl (.tmp rfl .nil) (tB (by first | rfl | (exfalso; omega) | (exfalso; simp_all [sameV_refl, sameTs_refl, sameAs_refl, sameNs_refl, sameT_refl]))) [] (rfl) rfl (trivial)
                      · refine ExL.nil ?_
                        refine Ex.cond_f rfl ?_
                        refine Ex.skip ?_
                        refine Ex.drawSeqM rfl ?_
                        refine ExD.take (i := 0) rfl (by kernel_rfl) (fr_loadN rfl rfl rfl rfl rfl (SegO.whole (i := 9) rfl)) ((List.Sublist.refl _)) rfl rfl rfl ?_
                        refine ExD.take (i := 2) rfl (by kernel_rfl) (fr_loadN rfl rfl rfl rfl rfl (SegO.whole (i := 8) rfl)) ((List.Sublist.refl _)) rfl rfl rfl ?_
                        refine ExDF.start 9 rfl (Alc.of rfl rfl rfl rfl rfl) ?_
                        refine ExDF.step (i := 1) rfl rfl (by kernel_rfl) (by kernel_rfl) rfl rfl rfl (fun _ => rfl) rfl (List.Sublist.refl _) (Alc.of rfl rfl rfl rfl rfl) (fun K' hK => op_ret rfl rfl rfl (c_toDevice d _ _ (by omega)) (Reads.get (Reads.old hd)) rfl rfl (fun x43 hx43 => hK x43 hx43)) (fun b41 K' hK => op_ret rfl rfl rfl (c_toDevice d _ _ (by omega)) (Reads.get (Reads.old hd)) rfl rfl (fun x42 hx42 => hK x42 hx42)) (fun x43 hx43 => ?_)
                        refine ExDF.step (i := 3) rfl rfl (by kernel_rfl) (by kernel_rfl) rfl rfl rfl (fun _ => rfl) rfl (List.Sublist.cons _ (List.Sublist.refl _)) (Alc.of rfl rfl rfl rfl rfl) (fun K' hK => op_ret rfl rfl rfl (c_toAct a) (fun _ _ => trivial) rfl rfl (fun x46 hx46 => hK x46 hx46)) (fun b44 K' hK => op_ret rfl rfl rfl (c_toAct a) (fun _ _ => trivial) rfl rfl (fun x45 hx45 => hK x45 hx45)) (fun x46 hx46 => ?_)
                        refine ExDF.step (i := 4) rfl rfl (by kernel_rfl) (by kernel_rfl) rfl rfl rfl (fun _ => rfl) rfl (List.Sublist.cons _ (List.Sublist.refl _)) (Alc.of rfl rfl rfl rfl rfl) (fun K' hK => op_ret rfl rfl rfl (c_iDoAct d (by assumption) _ _ (by first | assumption | exact (fun e => nomatch e)) (by omega) a (by assumption)) (Reads.get (Reads.row (i := 0) rfl)) rfl rfl (fun x49 hx49 => hK x49 hx49)) (fun b47 K' hK => op_ret rfl rfl rfl (c_iDoAct d (by assumption) _ _ (by first | assumption | exact (fun e => nomatch e)) (by omega) a (by assumption)) (Reads.get (Reads.row (i := 1) rfl)) rfl rfl (fun x48 hx48 => hK x48 hx48)) (fun x49 hx49 => ?_)
                        refine ExDF.take (i := 5) rfl (by kernel_rfl) (by kernel_rfl) rfl (pureVal_ok rfl) (fun _ => pureVal_ok rfl) (List.Sublist.cons _ (List.Sublist.cons _ (List.Sublist.refl _))) rfl (fun _ => rfl) rfl rfl rfl ?_
                        refine ExDF.take (i := 6) rfl (by kernel_rfl) (by kernel_rfl) rfl (pureVal_ok rfl) (fun _ => pureVal_ok rfl) (List.Sublist.cons _ (List.Sublist.cons _ (List.Sublist.refl _))) rfl (fun _ => rfl) rfl rfl rfl ?_
                        refine ExDF.take (i := 7) rfl (by kernel_rfl) (by kernel_rfl) rfl (pureVal_ok rfl) (fun _ => pureVal_ok rfl) (List.Sublist.cons _ (List.Sublist.cons _ (List.Sublist.refl _))) rfl (fun _ => rfl) rfl rfl rfl ?_
                        refine ExDF.take (i := 8) rfl (by kernel_rfl) (by kernel_rfl) rfl (pureVal_ok rfl) (fun _ => pureVal_ok rfl) (List.Sublist.cons _ (List.Sublist.cons _ (List.Sublist.refl _))) rfl (fun _ => rfl) rfl rfl rfl ?_
                        refine ExDF.fin rfl (by kernel_rfl) rfl (List.Sublist.cons _ (List.Sublist.cons _ (List.Sublist.refl _))) (Alc.of rfl rfl rfl rfl rfl) (fun b50 => ?_)
                        refine ExD.op (i := 10) rfl (by kernel_rfl) rfl (op_storeC (i := 0) rfl rfl rfl rfl rfl rfl rfl rfl rfl rfl ⟨(List.Sublist.cons _ (List.Sublist.cons _ (List.Sublist.cons _ (List.Sublist.refl _)))), ?_⟩)
                        refine ExD.take (i := 11) rfl (by kernel_rfl) (pureVal_ok rfl) ((List.Sublist.cons _ (List.Sublist.cons _ (List.Sublist.cons _ (List.Sublist.refl _))))) rfl rfl rfl ?_
                        refine ExD.take (i := 12) rfl (by kernel_rfl) (pureVal_ok rfl) ((List.Sublist.cons _ (List.Sublist.cons _ (List.Sublist.cons _ (List.Sublist.refl _))))) rfl rfl rfl ?_
                        refine ExD.done (by kernel_rfl) ?_
                        refine Ex.seq ?_
                        refine Ex.regSeq (ExL.pures 0 rfl ?_)
                        refine ExL.free (fr_loadN rfl rfl rfl rfl rfl (SegO.whole (i := 0) rfl)) rfl rfl rfl ?_
                        refine ExL.free (fr_loadN rfl rfl rfl rfl rfl (SegO.whole (i := 8) rfl)) rfl rfl rfl ?_
                        refine ExL.op rfl (op_ret rfl rfl rfl (c_eqDevice (doActV d a).1 (doActV d a).1 _ _ _ _ (by omega) (by omega)) (fun w hw => ⟨Reads.get (Reads.row (i := 1) rfl) w hw, Reads.get (Reads.row (i := 9) rfl) w hw⟩) rfl rfl (fun x51 hx51 => ?_))
                        refine ExL.pures 2 rfl ?_
                        refine ExL.bool (d := 107) rfl (fun hb52 => ?_) (fun hb52 => ?_)
                        · replace hb52 := nb_t hb52
                          refine ExL.pures 9 rfl ?_
                          refine ExL.nil ?_
                          refine Ex.cond_t rfl ?_
                          refine Ex.regSeq (ExL.pures 1 rfl ?_)
                          refine ExL.nil ?_
                          refine Ex.ret ?_
                          refine RetQ.mk () rfl (.tmp rfl .nil) (tB (by first | rfl | (exfalso; omega) | (exfalso; simp_all [sameV_refl, sameTs_refl, sameAs_refl, sameNs_refl, sameT_refl]))) [] (rfl) rfl (trivial)
                        · replace hb52 := nb_f hb52
                          refine ExL.pures 2 rfl ?_
                          refine ExL.neq rfl rfl rfl rfl rfl rfl (fun h53 => ?_) (fun h53 => ?_)
                          · refine ExL.pures 6 rfl ?_
                            refine ExL.nil ?_
                            refine Ex.cond_t rfl ?_
                            refine Ex.regSeq (ExL.pures 1 rfl ?_)
                            refine ExL.nil ?_
                            refine Ex.ret ?_
                            refine RetQ.mk () rfl (.tmp rfl .nil) (tB (by first | rfl | (exfalso; omega) | (exfalso; simp_all [sameV_refl, sameTs_refl, sameAs_refl, sameNs_refl, sameT_refl]))) [] (rfl) rfl (trivial)
                          · refine ExL.pures 4 rfl ?_
                            refine ExL.neq rfl rfl rfl rfl rfl rfl (fun h54 => ?_) (fun h54 => ?_)
                            · refine ExL.pures 1 rfl ?_
                              refine ExL.nil ?_
                              refine Ex.cond_t rfl ?_
                              refine Ex.regSeq (ExL.pures 1 rfl ?_)
                              refine ExL.nil ?_
                              refine Ex.ret ?_
                              refine RetQ.mk () rfl (.tmp rfl .nil) (tB (by first | rfl | (exfalso; omega) | (exfalso; simp_all [sameV_refl, sameTs_refl, sameAs_refl, sameNs_refl, sameT_refl]))) [] (rfl) rfl (trivial)
                            · refine ExL.pures 1 rfl ?_
                              refine ExL.nil ?_
                              refine Ex.cond_f rfl ?_
                              refine Ex.skip ?_
                              refine Ex.regSeq (ExL.pures 1 rfl ?_)
                              refine ExL.nil ?_
                              refine Ex.regSeq (ExL.pures 0 rfl ?_)
                              refine ExL.free (fr_loadN rfl rfl rfl rfl rfl (SegO.whole (i := 6) rfl)) rfl rfl rfl ?_
                              refine ExL.pures 1 rfl ?_
                              refine ExL.op rfl (op_ret rfl rfl rfl (c_heldDevice (doActV d a).1 _ _ (by omega) 1 (by omega)) (Reads.get (Reads.row (i := 3) rfl)) rfl rfl (fun x55 hx55 => ?_))
                              refine ExL.pures 1 rfl ?_
                              refine ExL.nil ?_
                              refine Ex.seq ?_
                              refine Ex.regSeq (ExL.pures 1 rfl ?_)
                              refine ExL.lss rfl rfl rfl rfl rfl rfl (fun h56 => ?_) (fun h56 => ?_)
                              · refine ExL.nil ?_
                                refine Ex.cond_t rfl ?_
                                refine Ex.regSeq (ExL.pures 1 rfl ?_)
                                refine ExL.nil ?_
                                refine Ex.ret ?_
                                refine RetQ.mk () rfl (.tmp rfl .nil) (tB (by first | rfl | (exfalso; omega) | (exfalso; simp_all [sameV_refl, sameTs_refl, sameAs_refl, sameNs_refl, sameT_refl]))) [] (rfl) rfl (trivial)
                              · refine ExL.nil ?_
                                refine Ex.cond_f rfl ?_
                                refine Ex.skip ?_
                                refine Ex.seq ?_
                                refine Ex.regSeq (ExL.pures 2 rfl ?_)
                                refine ExL.neq rfl rfl rfl rfl rfl rfl (fun h57 => ?_) (fun h57 => ?_)
                                · refine ExL.nil ?_
                                  refine Ex.cond_t rfl ?_
                                  refine Ex.regSeq (ExL.pures 1 rfl ?_)
                                  refine ExL.nil ?_
                                  refine Ex.ret ?_
                                  refine RetQ.mk () rfl (.tmp rfl .nil) (tB (by first | rfl | (exfalso; omega) | (exfalso; simp_all [sameV_refl, sameTs_refl, sameAs_refl, sameNs_refl, sameT_refl]))) [] (rfl) rfl (trivial)
                                · refine ExL.nil ?_
                                  refine Ex.cond_f rfl ?_
                                  refine Ex.skip ?_
                                  refine Ex.regSeq (ExL.pures 1 rfl ?_)
                                  refine ExL.nil ?_
                                  refine Ex.ret ?_
                                  refine RetQ.mk () rfl (.tmp rfl .nil) (tB (by first | rfl | (exfalso; omega) | (exfalso; simp_all [sameV_refl, sameTs_refl, sameAs_refl, sameNs_refl, sameT_refl]))) [] (rfl) rfl (trivial)
end Go.Proofs.Ytjopackngkfdhaa
