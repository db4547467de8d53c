/- What these functions of the program hand back, each proved by walking its operations. -/
import Derived.Test.YtjopackngkfdhaaProg
import Derived.Test.YtjopackngkfdhaaFw
import Derived.Test.YtjopackngkfdhaaGW
set_option linter.unusedVariables false
set_option linter.unusedSimpArgs false
set_option maxRecDepth 4000
namespace Go.Proofs.Ytjopackngkfdhaa
open Go Go.Sx Go.RowKit Go.W Go.Proofs
attribute [local irreducible] Ex ExL ExD Op1 Free RetQ MutQ Reads CellO SegO LoadsAs
theorem e_15 : Enters Try.prog 15 := Enters.of Try.func15 rfl
theorem w_FnExactFirstWrong (d : VDev) (hk : OkDev d) (Ad : Option Addr) (cd : Nat) (l : List VNote) (hok : ∀ x ∈ l, OkNote x) (Al : Option Addr) (cl : Nat) (hll : l.length ≤ maxLen) : Ret Try.prog 15 [.agg (encV Ad cd d).toArray, .slice Al l.length cl] (fun w => Rd w Ad (d.stack.flatMap (eI .u8)) ∧ Rd w Al (l.flatMap encN)) (fun x : Unit => .bool true) (fun x => []) (fun x => True) := by
  refine Ret.of e_15 Try.func15 rfl Try.ntmps15 rfl rfl (fun w hpre => ?_)
  have hd := hpre.1.base
  have hnl := hpre.2.base
  have hkk := hk
  obtain ⟨hl, hu, ha, hpp, htt⟩ := hk
  have hm0 : maxLen = 9223372036854775807 := rfl
  have hz := size_bd hu d.stack.length
  rw [List.take_length] at hz
  refine Ex.regSeq (ExL.pures 0 rfl ?_)
  refine ExL.op rfl (op_box rfl rfl rfl rfl rfl (fun b1 => ?_))
  refine ExL.pures 1 rfl ?_
  refine ExL.nil ?_
  refine Ex.regSeq (ExL.pures 1 rfl ?_)
  refine ExL.nil ?_
  refine Ex.regSeq (ExL.pures 0 rfl ?_)
  refine ExL.free (fr_loadN rfl rfl rfl rfl rfl (SegO.whole (i := 0) rfl)) rfl rfl rfl ?_
  refine ExL.pures 1 rfl ?_
  refine ExL.op rfl (op_ret rfl rfl rfl (c_szDevice d _ _ (by omega) _ (by omega)) (fun _ _ => trivial) rfl rfl (fun x2 hx2 => ?_))
  refine ExL.pures 1 rfl ?_
  refine ExL.nil ?_
  refine Ex.seq ?_
  refine Ex.regSeq (ExL.pures 1 rfl ?_)
  refine ExL.lss rfl rfl rfl rfl rfl rfl (fun h3 => ?_) (fun h3 => ?_)
  · refine ExL.nil ?_
    refine Ex.cond_t rfl ?_
    refine Ex.regSeq (ExL.pures 1 rfl ?_)
    refine ExL.nil ?_
    refine Ex.ret ?_
    refine RetQ.mk () rfl (.tmp rfl .nil) (tB (by first | rfl | (exfalso; omega) | (exfalso; simp_all [sameV_refl, sameTs_refl, sameAs_refl, sameNs_refl, sameT_refl]))) [] (rfl) rfl (trivial)
  · refine ExL.nil ?_
    refine Ex.cond_f rfl ?_
    refine Ex.skip ?_
    refine Ex.regSeq (ExL.pures 2 rfl ?_)
    refine ExL.op rfl (op_ret rfl rfl rfl (c_szNoteS _ _ _ (by omega) _ (by omega)) (fun _ _ => trivial) rfl rfl (fun x4 hx4 => ?_))
    refine ExL.pures 1 rfl ?_
    refine ExL.nil ?_
    refine Ex.seq ?_
    refine Ex.regSeq (ExL.pures 1 rfl ?_)
    refine ExL.lss rfl rfl rfl rfl rfl rfl (fun h5 => ?_) (fun h5 => ?_)
    · refine ExL.nil ?_
      refine Ex.cond_t rfl ?_
      refine Ex.regSeq (ExL.pures 1 rfl ?_)
      refine ExL.nil ?_
      refine Ex.ret ?_
      refine RetQ.mk () rfl (.tmp rfl .nil) (tB (by first | rfl | (exfalso; omega) | (exfalso; simp_all [sameV_refl, sameTs_refl, sameAs_refl, sameNs_refl, sameT_refl]))) [] (rfl) rfl (trivial)
    · refine ExL.nil ?_
      refine Ex.cond_f rfl ?_
      refine Ex.skip ?_
      refine Ex.regSeq (ExL.pures 0 rfl ?_)
      refine ExL.free (fr_loadN rfl rfl rfl rfl rfl (SegO.whole (i := 0) rfl)) rfl rfl rfl ?_
      refine ExL.op rfl (op_ret rfl rfl rfl (c_toDevice d _ _ (by omega)) (Reads.get (Reads.old hd)) rfl rfl (fun x6 hx6 => ?_))
      refine ExL.pures 1 rfl ?_
      refine ExL.op rfl (op_ret rfl rfl rfl (c_toNoteS l _ _ (by omega)) (Reads.get (Reads.old hnl)) rfl rfl (fun x7 hx7 => ?_))
      refine ExL.op rfl (op_ret rfl rfl rfl (c_sFirstWrong d (by assumption) _ _ (by first | assumption | exact (fun e => nomatch e)) (by omega) l (by assumption) _ _ (by omega)) (fun w hw => ⟨Reads.get (Reads.row (i := 1) rfl) w hw, Reads.get (Reads.row (i := 0) rfl) w hw⟩) rfl rfl (fun x8 hx8 => ?_))
      refine ExL.pures 5 rfl ?_
      refine ExL.nil ?_
      refine Ex.regSeq (ExL.pures 0 rfl ?_)
      refine ExL.free (fr_loadN rfl rfl rfl rfl rfl (SegO.whole (i := 2) rfl)) rfl rfl rfl ?_
      refine ExL.op rfl (op_ret rfl rfl rfl (c_toDevice d _ _ (by omega)) (Reads.get (Reads.old hd)) rfl rfl (fun x9 hx9 => ?_))
      refine ExL.op rfl (op_alloc rfl rfl rfl rfl rfl (fun b10 => ?_))
      refine ExL.op rfl (op_storeC (i := 0) rfl rfl rfl rfl rfl rfl rfl rfl rfl rfl ?_)
      refine ExL.nil ?_
      refine Ex.regSeq (ExL.pures 1 rfl ?_)
      refine ExL.op rfl (op_ret rfl rfl rfl (c_toNoteS l _ _ (by omega)) (Reads.get (Reads.old hnl)) rfl rfl (fun x11 hx11 => ?_))
      refine ExL.pures 1 rfl ?_
      refine ExL.nil ?_
      refine Ex.regSeq (ExL.pures 0 rfl ?_)
      refine ExL.free (fr_loadN rfl rfl rfl rfl rfl (SegO.whole (i := 1) rfl)) rfl rfl rfl ?_
      refine ExL.pures 1 rfl ?_
      refine ExL.op rfl (op_ret rfl rfl rfl (c_iFirstWrong d (by assumption) _ _ (by first | assumption | exact (fun e => nomatch e)) (by omega) l (by assumption) _ _ (by omega)) (fun w hw => ⟨Reads.get (Reads.row (i := 2) rfl) w hw, Reads.get (Reads.row (i := 0) rfl) w hw⟩) rfl rfl (fun x12 hx12 => ?_))
      refine ExL.pures 5 rfl ?_
      refine ExL.nil ?_
      refine Ex.seq ?_
      refine Ex.regSeq (ExL.pures 2 rfl ?_)
      refine ExL.neq rfl rfl rfl rfl rfl rfl (fun h13 => ?_) (fun h13 => ?_)
      · refine ExL.pures 5 rfl ?_
        refine ExL.nil ?_
        refine Ex.cond_t rfl ?_
        refine Ex.regSeq (ExL.pures 1 rfl ?_)
        refine ExL.nil ?_
        refine Ex.ret ?_
        refine RetQ.mk () rfl (.tmp rfl .nil) (tB (by first | rfl | (exfalso; omega) | (exfalso; simp_all [sameV_refl, sameTs_refl, sameAs_refl, sameNs_refl, sameT_refl]))) [] (rfl) rfl (trivial)
      · refine ExL.pures 3 rfl ?_
        refine ExL.neq rfl rfl rfl rfl rfl rfl (fun h14 => ?_) (fun h14 => ?_)
        · refine ExL.pures 1 rfl ?_
          refine ExL.nil ?_
          refine Ex.cond_t rfl ?_
          refine Ex.regSeq (ExL.pures 1 rfl ?_)
          refine ExL.nil ?_
          refine Ex.ret ?_
          refine RetQ.mk () rfl (.tmp rfl .nil) (tB (by first | rfl | (exfalso; omega) | (exfalso; simp_all [sameV_refl, sameTs_refl, sameAs_refl, sameNs_refl, sameT_refl]))) [] (rfl) rfl (trivial)
        · refine ExL.pures 1 rfl ?_
          refine ExL.nil ?_
          refine Ex.cond_f rfl ?_
          refine Ex.skip ?_
          refine Ex.seq ?_
          refine Ex.drawSeqM rfl ?_
          refine ExD.take (i := 0) rfl (by kernel_rfl) (fr_loadN rfl rfl rfl rfl rfl (SegO.whole (i := 1) rfl)) ((List.Sublist.refl _)) rfl rfl rfl ?_
          refine ExD.take (i := 1) rfl (by kernel_rfl) (fr_loadN rfl rfl rfl rfl rfl (SegO.whole (i := 5) rfl)) ((List.Sublist.refl _)) rfl rfl rfl ?_
          refine ExD.op (i := 2) rfl (by kernel_rfl) rfl (op_ret rfl rfl rfl (c_toDevice d _ _ (by omega)) (Reads.get (Reads.old hd)) rfl rfl (fun x15 hx15 => ⟨(List.Sublist.cons _ (List.Sublist.refl _)), ?_⟩))
          refine ExD.op (i := 3) rfl (by kernel_rfl) rfl (op_ret rfl rfl rfl (c_eqDevice d d _ _ _ _ (by omega) (by omega)) (fun w hw => ⟨Reads.get (Reads.row (i := 3) rfl) w hw, Reads.get (Reads.row (i := 0) rfl) w hw⟩) rfl rfl (fun x16 hx16 => ⟨(List.Sublist.cons _ (List.Sublist.refl _)), ?_⟩))
          refine ExD.take (i := 4) rfl (by kernel_rfl) (pureVal_ok rfl) ((List.Sublist.cons _ (List.Sublist.refl _))) rfl rfl rfl ?_
          refine ExD.done (by kernel_rfl) ?_
          refine Ex.cond rfl (fun hb17 => ?_) (fun hb17 => ?_)
          · replace hb17 := nb_t hb17
            refine Ex.regSeq (ExL.pures 1 rfl ?_)
            refine ExL.nil ?_
            refine Ex.ret ?_
            refine RetQ.mk () rfl (.tmp rfl .nil) (tB (by first | rfl | (exfalso; omega) | (exfalso; simp_all [sameV_refl, sameTs_refl, sameAs_refl, sameNs_refl, sameT_refl]))) [] (rfl) rfl (trivial)
          · replace hb17 := nb_f hb17
            refine Ex.skip ?_
            refine Ex.seq ?_
            refine Ex.regSeq (ExL.pures 2 rfl ?_)
            refine ExL.op rfl (op_ret rfl rfl rfl (c_toNoteS l _ _ (by omega)) (Reads.get (Reads.old hnl)) rfl rfl (fun x18 hx18 => ?_))
            refine ExL.op rfl (op_ret rfl rfl rfl (c_eqNoteS l _ _ (by omega) l _ _ (by omega)) (fun w hw => ⟨Reads.get (Reads.row (i := 2) rfl) w hw, Reads.get (Reads.row (i := 0) rfl) w hw⟩) rfl rfl (fun x19 hx19 => ?_))
            refine ExL.pures 1 rfl ?_
            refine ExL.nil ?_
            refine Ex.cond rfl (fun hb20 => ?_) (fun hb20 => ?_)
            · replace hb20 := nb_t hb20
              refine Ex.regSeq (ExL.pures 1 rfl ?_)
              refine ExL.nil ?_
              refine Ex.ret ?_
              refine RetQ.mk () rfl (.tmp rfl .nil) (tB (by first | rfl | (exfalso; omega) | (exfalso; simp_all [sameV_refl, sameTs_refl, sameAs_refl, sameNs_refl, sameT_refl]))) [] (rfl) rfl (trivial)
            · replace hb20 := nb_f hb20
              refine Ex.skip ?_
              refine Ex.regSeq (ExL.pures 1 rfl ?_)
              refine ExL.nil ?_
              refine Ex.ret ?_
              refine RetQ.mk () rfl (.tmp rfl .nil) (tB (by first | rfl | (exfalso; omega) | (exfalso; simp_all [sameV_refl, sameTs_refl, sameAs_refl, sameNs_refl, sameT_refl]))) [] (rfl) rfl (trivial)
end Go.Proofs.Ytjopackngkfdhaa
