/- What these functions of the program hand back, each proved by walking its operations. -/
import Derived.Test.YtjopackngkfdhaaProg
import Derived.Test.YtjopackngkfdhaaFw
import Derived.Test.YtjopackngkfdhaaGQ
import Derived.Test.YtjopackngkfdhaaF2
set_option linter.unusedVariables false
set_option linter.unusedSimpArgs false
set_option maxRecDepth 4000
namespace Go.Proofs.Ytjopackngkfdhaa
open Go Go.Sx Go.RowKit Go.W Go.Proofs
attribute [local irreducible] Ex ExL ExD Op1 Free RetQ MutQ Reads CellO SegO LoadsAs
theorem e_132 : Enters Try.prog 132 := Enters.of Try.func132 rfl
theorem c_l07Run (d : VDev) (hk : OkDev d) (Ad : Option Addr) (cd : Nat) (b : Nat) (hAd : Ad = none → cd = 0) (hdl : d.stack.length ≤ 1048576) (l : List VAct) (Al : Option Addr) (cl : Nat) (hll : l.length ≤ maxLen) : Ret Try.prog 132 [.pointer (some ⟨b, 0, none⟩), .slice Al l.length cl] (fun w => Rd w (some ⟨b, 0, none⟩) (encV Ad cd d) ∧ Rd w Ad (d.stack.flatMap (eI .u8)) ∧ Rd w Al (l.flatMap encA)) (fun x : (Option Addr × Nat) × (Option Addr × Nat) × (Option Addr × Nat) => .tuple #[.agg (encV x.1.1 x.1.2 (runV d l).1).toArray, .slice x.2.1.1 (runV d l).2.1.length x.2.1.2, .slice x.2.2.1 (runV d l).2.2.1.length x.2.2.2, .int .i64 (runV d l).2.2.2.2]) (fun x => [.row (.slice x.1.1 (runV d l).1.stack.length x.1.2) 5 1 (runV d l).1.stack.length ((runV d l).1.stack.flatMap (eI .u8)), .row (.slice x.2.1.1 (runV d l).2.1.length x.2.1.2) 109 11 (runV d l).2.1.length ((runV d l).2.1.flatMap encN), .row (.slice x.2.2.1 (runV d l).2.2.1.length x.2.2.2) 53 10 (runV d l).2.2.1.length ((runV d l).2.2.1.flatMap encT)]) (fun x => True) := by
  refine Ret.of e_132 Try.func132 rfl Try.ntmps132 rfl rfl (fun w hpre => ?_)
  have hp := hpre.1.base
  have hd := hpre.2.1.base
  have hl := hpre.2.2.base
  have hm0 : maxLen = 9223372036854775807 := rfl
  refine Ex.regSeq (ExL.pures 0 rfl ?_)
  refine ExL.op rfl (op_alloc rfl rfl rfl rfl rfl (fun b1 => ?_))
  refine ExL.pures 3 rfl ?_
  refine ExL.nil ?_
  refine Ex.regSeq (ExL.pures 1 rfl ?_)
  refine ExL.op rfl (op_ret rfl rfl rfl (c_l07Copy d _ _ _ (by first | assumption | exact (fun e => nomatch e) | (intro e; simp_all)) (by omega)) (fun w hw => ⟨Reads.get (Reads.old hp) w hw, Reads.get (Reads.old hd) w hw⟩) rfl rfl (fun x2 hx2 => ?_))
  refine ExL.op rfl (op_alloc rfl rfl rfl rfl rfl (fun b3 => ?_))
  refine ExL.op rfl (op_storeC (i := 0) rfl rfl rfl rfl rfl rfl rfl rfl rfl rfl ?_)
  refine ExL.nil ?_
  refine Ex.regSeq (ExL.pures 0 rfl ?_)
  refine ExL.op rfl (op_buildSlice (sz := 11) rfl rfl rfl rfl rfl rfl rfl rfl (by decide) rfl rfl rfl (fun r4 => ?_))
  refine ExL.pures 1 rfl ?_
  refine ExL.nil ?_
  refine Ex.regSeq (ExL.pures 0 rfl ?_)
  refine ExL.op rfl (op_buildSlice (sz := 10) rfl rfl rfl rfl rfl rfl rfl rfl (by decide) rfl rfl rfl (fun r5 => ?_))
  refine ExL.pures 1 rfl ?_
  refine ExL.nil ?_
  refine Ex.regSeq (ExL.pures 1 rfl ?_)
  refine ExL.nil ?_
  refine Ex.regSeq (ExL.pures 2 rfl ?_)
  refine ExL.op rfl (op_ret rfl rfl rfl (c_l07Asked d (by assumption) _ _ _ l _ _ (by omega)) (fun w hw => ⟨Reads.get (Reads.old hp) w hw, Reads.get (Reads.old hd) w hw, Reads.get (Reads.old hl) w hw⟩) rfl rfl (fun x6 hx6 => ?_))
  refine ExL.pures 1 rfl ?_
  refine ExL.nil ?_
  refine Ex.seq ?_
  refine Ex.regSeq (ExL.pures 1 rfl ?_)
  refine ExL.nil ?_
  refine Ex.block ?_
  refine Ex.loopB (fun k A c A2 c2 => [(9, .slice A (notesL d l k).length c), (10, .slice A2 (ticsL d l k).length c2), (11, .int .i64 (lostD d l k)), (12, .int .i64 (cdV d l k)), (13, .int .i64 k)]) (fun k A c A2 c2 => [.blk b3 (encV x2.1 x2.2 (runD d l k)) 38, .row (.slice x2.1 (runD d l k).stack.length x2.2) 5 1 (runD d l k).stack.length ((runD d l k).stack.flatMap (eI .u8)), .row (.slice A (notesL d l k).length c) 109 11 (notesL d l k).length ((notesL d l k).flatMap encN), .row (.slice A2 (ticsL d l k).length c2) 53 10 (ticsL d l k).length ((ticsL d l k).flatMap encT)]) (fun k => k ≤ l.length) (fun k => l.length - k) 0 ((some ⟨r4, 0, none⟩)) (0) ((some ⟨r5, 0, none⟩)) (0) [(1, _), (4, _), (5, _), (6, _), (7, _), (8, _)] [_] 5 [2, 3, 1, 0, 4] ⟨rfl, rfl, rfl, agI (by rw [cd_0]), rfl, trivial⟩ ⟨rfl, rfl, rfl, rfl, rfl, rfl, trivial⟩ (rfl) rfl (Nat.zero_le _) (fun k A c A2 c2 hI => ?_)
  have hI : k ≤ l.length := hI
  refine Ex.seq ?_
  refine Ex.regSeq (ExL.pures 3 rfl ?_)
  refine ExL.lss rfl rfl rfl rfl rfl rfl (fun h7 => ?_) (fun h7 => ?_)
  · refine ExL.pures 2 rfl ?_
    refine ExL.eql rfl rfl rfl rfl rfl rfl (fun h8 => ?_) (fun h8 => ?_)
    · refine ExL.pures 1 rfl ?_
      refine ExL.nil ?_
      refine Ex.cond_t rfl ?_
      refine Ex.skip ?_
      refine Ex.seq ?_
      refine Ex.block ?_
      have hkl : k < l.length := (by omega)
      obtain ⟨hask, hrc⟩ := cd_zero (d := d) (l := l) (k := k) (by assumption)
      obtain ⟨hdv, hva, h60⟩ := ask_zero hask
      have hak := hva k hkl
      obtain ⟨hrk, hrv⟩ := run_ok hk hdv hva k (by omega)
      have hlo := lost_bd hk hdv hva k (by omega)
      have hdl := do_lost hrk hrv hak
      have hrs := runD_stack d l k
      have htl := ticsL_len d l k
      have hnl := notesL_len d l k
      obtain ⟨ho1, ho2⟩ := do_ok hrk hrv hak
      have htk := (devOk ho1.2.2.1 ho2).tick
      have hnu := ho1.2.2.1
      refine Ex.regSeq (ExL.pures 2 rfl ?_)
      refine ExL.free (fr_indexAddrF (Reads.old hl) encA_len rfl rfl rfl rfl rfl rfl (by omega)) rfl rfl rfl ?_
      refine ExL.free (fr_loadN rfl rfl rfl rfl rfl (by first | exact segN (Reads.old hl) encA_len rfl zA (by omega) | exact segF (Reads.old hl) encA_len rfl zA (by omega))) rfl rfl rfl ?_
      refine ExL.op rfl (op_mut rfl rfl rfl (c_l07Do (runD d l k) (by assumption) (by assumption) _ _ _ (l.getD k zA) (by first | assumption | simp_all)) (perm_lt (i := 0) (j := 1) rfl rfl rfl) (trivial) rfl rfl (fun x9 hx9 => ?_))
      refine ExL.pures 5 rfl ?_
      refine ExL.nil ?_
      refine Ex.regSeq (ExL.pures 2 rfl ?_)
      refine ExL.nil ?_
      refine Ex.regSeq (ExL.pures 2 rfl ?_)
      refine ExL.free (by first | exact fr_add64 rfl rfl rfl (by omega) | exact fr_add rfl rfl rfl) rfl rfl rfl ?_
      refine ExL.pures 1 rfl ?_
      refine ExL.nil ?_
      refine Ex.drawSeqI [0, 1, 3, 4] rfl rfl ?_
      refine ExD.take (i := 0) rfl (by kernel_rfl) (pureVal_ok rfl) ((List.Sublist.cons_cons _ (List.Sublist.cons_cons _ (List.Sublist.cons _ (List.Sublist.refl _))))) rfl rfl rfl ?_
      refine ExD.take (i := 1) rfl (by kernel_rfl) (pureVal_ok rfl) ((List.Sublist.cons_cons _ (List.Sublist.cons_cons _ (List.Sublist.cons _ (List.Sublist.refl _))))) rfl rfl rfl ?_
      refine ExD.take (i := 2) rfl (by kernel_rfl) (pureVal_ok rfl) ((List.Sublist.cons_cons _ (List.Sublist.cons_cons _ (List.Sublist.cons _ (List.Sublist.refl _))))) rfl rfl rfl ?_
      refine ExD.take (i := 3) rfl (by kernel_rfl) (fr_indexAddrF (Reads.old hl) encA_len rfl rfl rfl rfl rfl rfl (by omega)) ((List.Sublist.cons_cons _ (List.Sublist.cons_cons _ (List.Sublist.cons _ (List.Sublist.refl _))))) rfl rfl rfl ?_
      refine ExD.take (i := 4) rfl (by kernel_rfl) (fr_loadN rfl rfl rfl rfl rfl (by first | exact segN (Reads.old hl) encA_len rfl zA (by omega) | exact segF (Reads.old hl) encA_len rfl zA (by omega))) ((List.Sublist.cons_cons _ (List.Sublist.cons_cons _ (List.Sublist.cons _ (List.Sublist.refl _))))) rfl rfl rfl ?_
      refine ExD.take (i := 5) rfl (by kernel_rfl) (pureVal_ok rfl) ((List.Sublist.cons_cons _ (List.Sublist.cons_cons _ (List.Sublist.cons _ (List.Sublist.refl _))))) rfl rfl rfl ?_
      refine ExD.take (i := 6) rfl (by kernel_rfl) (fr_loadN rfl rfl rfl rfl rfl (SegO.part (i := 0) 8 rfl)) ((List.Sublist.cons_cons _ (List.Sublist.cons_cons _ (List.Sublist.cons _ (List.Sublist.refl _))))) rfl rfl rfl ?_
      refine ExD.take (i := 7) rfl (by kernel_rfl) (pureVal_ok rfl) ((List.Sublist.cons_cons _ (List.Sublist.cons_cons _ (List.Sublist.cons _ (List.Sublist.refl _))))) rfl rfl rfl ?_
      refine ExD.take (i := 8) rfl (by kernel_rfl) (fr_build (cells := encN ⟨l.getD k zA, (doV (runD d l k) (l.getD k zA)).1.shows, (doV (runD d l k) (l.getD k zA)).2.1⟩) rfl rfl rfl (by kernel_rfl)) ((List.Sublist.cons_cons _ (List.Sublist.cons_cons _ (List.Sublist.cons _ (List.Sublist.refl _))))) rfl rfl rfl ?_
      refine ExD.op (i := 9) rfl (by kernel_rfl) rfl (op_buildSlice (sz := 11) rfl rfl rfl rfl rfl rfl rfl rfl (by decide) rfl rfl rfl (fun r10 => ⟨(List.Sublist.cons _ (List.Sublist.cons_cons _ (List.Sublist.cons_cons _ (List.Sublist.cons _ (List.Sublist.refl _))))), ?_⟩))
      refine ExD.op (i := 10) rfl (by kernel_rfl) rfl (op_append (sz := 11) (bytes := 32) (i := 3) rfl rfl rfl rfl (Reads.row (i := 0) rfl) rfl (fun e => nomatch e) rfl rfl rfl rfl (by constructor <;> first | omega | (unfold maxLen; omega)) rfl rfl (fun A11 cA11 => ⟨(List.Sublist.cons _ (List.Sublist.cons_cons _ (List.Sublist.cons_cons _ (List.Sublist.cons _ (List.Sublist.refl _))))), ?_⟩))
      refine ExD.take (i := 11) rfl (by kernel_rfl) (pureVal_ok rfl) ((List.Sublist.cons _ (List.Sublist.cons_cons _ (List.Sublist.cons_cons _ (List.Sublist.cons _ (List.Sublist.refl _)))))) rfl rfl rfl ?_
      refine ExD.done (by kernel_rfl) ?_
      refine Ex.regSeq (ExL.pures 2 rfl ?_)
      refine ExL.free (fr_indexAddrF (Reads.old hl) encA_len rfl rfl rfl rfl rfl rfl (by omega)) rfl rfl rfl ?_
      refine ExL.free (fr_fieldAddrF (i := (↑k : Int).toNat) (Reads.old hl) encA_len rfl rfl rfl (by omega) rfl rfl rfl rfl) rfl rfl rfl ?_
      refine ExL.free (fr_load rfl rfl rfl rfl (by first | exact cellN (Reads.old hl) encA_len zA 0 rfl (by omega) rfl | exact cellF (Reads.old hl) encA_len zA 0 rfl (by omega) rfl)) rfl rfl rfl ?_
      refine ExL.eql rfl rfl rfl rfl rfl rfl (fun h13 => ?_) (fun h13 => ?_)
      · refine ExL.nil ?_
        refine Ex.cond_t rfl ?_
        refine Ex.drawI [0, 1, 2, 3, 5] rfl rfl ?_
        refine ExD.take (i := 0) rfl (by kernel_rfl) (pureVal_ok rfl) ((List.Sublist.cons_cons _ (List.Sublist.cons_cons _ (List.Sublist.cons_cons _ (List.Sublist.cons_cons _ (List.Sublist.cons _ (List.Sublist.refl _))))))) rfl rfl rfl ?_
        refine ExD.take (i := 1) rfl (by kernel_rfl) (pureVal_ok rfl) ((List.Sublist.cons_cons _ (List.Sublist.cons_cons _ (List.Sublist.cons_cons _ (List.Sublist.cons_cons _ (List.Sublist.cons _ (List.Sublist.refl _))))))) rfl rfl rfl ?_
        refine ExD.take (i := 2) rfl (by kernel_rfl) (fr_load rfl rfl rfl rfl (CellO.blk (i := 1) rfl rfl)) ((List.Sublist.cons_cons _ (List.Sublist.cons_cons _ (List.Sublist.cons_cons _ (List.Sublist.cons_cons _ (List.Sublist.cons _ (List.Sublist.refl _))))))) rfl rfl rfl ?_
        refine ExD.take (i := 3) rfl (by kernel_rfl) (pureVal_ok rfl) ((List.Sublist.cons_cons _ (List.Sublist.cons_cons _ (List.Sublist.cons_cons _ (List.Sublist.cons_cons _ (List.Sublist.cons _ (List.Sublist.refl _))))))) rfl rfl rfl ?_
        refine ExD.take (i := 4) rfl (by kernel_rfl) (fr_loadN rfl rfl rfl rfl rfl (SegO.part (i := 1) 8 rfl)) ((List.Sublist.cons_cons _ (List.Sublist.cons_cons _ (List.Sublist.cons_cons _ (List.Sublist.cons_cons _ (List.Sublist.cons _ (List.Sublist.refl _))))))) rfl rfl rfl ?_
        refine ExD.take (i := 5) rfl (by kernel_rfl) (pureVal_ok rfl) ((List.Sublist.cons_cons _ (List.Sublist.cons_cons _ (List.Sublist.cons_cons _ (List.Sublist.cons_cons _ (List.Sublist.cons _ (List.Sublist.refl _))))))) rfl rfl rfl ?_
        refine ExD.take (i := 6) rfl (by kernel_rfl) (fr_load rfl rfl rfl rfl (CellO.blk (i := 1) rfl rfl)) ((List.Sublist.cons_cons _ (List.Sublist.cons_cons _ (List.Sublist.cons_cons _ (List.Sublist.cons_cons _ (List.Sublist.cons _ (List.Sublist.refl _))))))) rfl rfl rfl ?_
        refine ExD.take (i := 7) rfl (by kernel_rfl) (pureVal_ok rfl) ((List.Sublist.cons_cons _ (List.Sublist.cons_cons _ (List.Sublist.cons_cons _ (List.Sublist.cons_cons _ (List.Sublist.cons _ (List.Sublist.refl _))))))) rfl rfl rfl ?_
        refine ExD.take (i := 8) rfl (by kernel_rfl) (fr_loadN rfl rfl rfl rfl rfl (SegO.part (i := 1) 8 rfl)) ((List.Sublist.cons_cons _ (List.Sublist.cons_cons _ (List.Sublist.cons_cons _ (List.Sublist.cons_cons _ (List.Sublist.cons _ (List.Sublist.refl _))))))) rfl rfl rfl ?_
        refine ExD.op (i := 9) rfl (by kernel_rfl) rfl (op_ret rfl rfl rfl (c_l07Check _ (by omega) ((doV (runD d l k) (l.getD k zA)).1).shows (by assumption)) (fun _ _ => trivial) rfl rfl (fun x14 hx14 => ⟨(List.Sublist.cons_cons _ (List.Sublist.cons_cons _ (List.Sublist.cons_cons _ (List.Sublist.cons_cons _ (List.Sublist.cons _ (List.Sublist.refl _)))))), ?_⟩))
        refine ExD.take (i := 10) rfl (by kernel_rfl) (fr_build (cells := encT (ticV (doV (runD d l k) (l.getD k zA)).1)) rfl rfl rfl (by kernel_rfl)) ((List.Sublist.cons_cons _ (List.Sublist.cons_cons _ (List.Sublist.cons_cons _ (List.Sublist.cons_cons _ (List.Sublist.cons _ (List.Sublist.refl _))))))) rfl rfl rfl ?_
        refine ExD.op (i := 11) rfl (by kernel_rfl) rfl (op_buildSlice (sz := 10) rfl rfl rfl rfl rfl rfl rfl rfl (by decide) rfl rfl rfl (fun r15 => ⟨(List.Sublist.cons _ (List.Sublist.cons_cons _ (List.Sublist.cons_cons _ (List.Sublist.cons_cons _ (List.Sublist.cons_cons _ (List.Sublist.cons _ (List.Sublist.refl _))))))), ?_⟩))
        refine ExD.op (i := 12) rfl (by kernel_rfl) rfl (op_append (sz := 10) (bytes := 24) (i := 5) rfl rfl rfl rfl (Reads.row (i := 0) rfl) rfl (fun e => nomatch e) rfl rfl rfl rfl (by constructor <;> first | omega | (unfold maxLen; omega)) rfl rfl (fun A16 cA16 => ⟨(List.Sublist.cons _ (List.Sublist.cons_cons _ (List.Sublist.cons_cons _ (List.Sublist.cons_cons _ (List.Sublist.cons_cons _ (List.Sublist.cons _ (List.Sublist.refl _))))))), ?_⟩))
        refine ExD.take (i := 13) rfl (by kernel_rfl) (pureVal_ok rfl) ((List.Sublist.cons _ (List.Sublist.cons_cons _ (List.Sublist.cons_cons _ (List.Sublist.cons_cons _ (List.Sublist.cons_cons _ (List.Sublist.cons _ (List.Sublist.refl _)))))))) rfl rfl rfl ?_
        refine ExD.done (by kernel_rfl) ?_
        refine Ex.region (ExL.pures 1 rfl ?_)
        refine ExL.free (by first | exact fr_add64 rfl rfl rfl (by omega) | exact fr_add rfl rfl rfl) rfl rfl rfl ?_
        refine ExL.pures 1 rfl ?_
        refine ExL.nil ?_
        refine HandB.of (k + 1) (A11) (cA11) (A16) (cA16) 7 [2, 3, 4, 5, 6] ⟨(by rw [notesL, List.length_append]; rfl), (by first | (rw [tl_5 (by assumption), List.length_append]; rfl) | (rw [tl_n (by assumption)]; first | done | rfl)), rfl, agI (by rw [cd_go (by assumption)]), rfl, trivial⟩ ⟨rfl, rfl, rfl, rfl, rfl, rfl, trivial⟩ (by first | (rw [show runD d l (k + 1) = (doV (runD d l k) (l.getD k zA)).1 from rfl, do_stack, notesL, List.length_append, List.flatMap_append, tl_5 (by assumption), List.length_append, List.flatMap_append]; rfl) | (rw [show runD d l (k + 1) = (doV (runD d l k) (l.getD k zA)).1 from rfl, do_stack, notesL, List.length_append, List.flatMap_append, tl_n (by assumption)]; rfl)) rfl (by omega) (by omega)
      · refine ExL.nil ?_
        refine Ex.cond_f rfl ?_
        refine Ex.skip ?_
        refine Ex.region (ExL.pures 1 rfl ?_)
        refine ExL.free (by first | exact fr_add64 rfl rfl rfl (by omega) | exact fr_add rfl rfl rfl) rfl rfl rfl ?_
        refine ExL.pures 1 rfl ?_
        refine ExL.nil ?_
        refine HandB.of (k + 1) (A11) (cA11) (A2) (c2) 6 [1, 2, 3, 4, 5] ⟨(by rw [notesL, List.length_append]; rfl), (by first | (rw [tl_5 (by assumption), List.length_append]; rfl) | (rw [tl_n (by assumption)]; first | done | rfl)), rfl, agI (by rw [cd_go (by assumption)]), rfl, trivial⟩ ⟨rfl, rfl, rfl, rfl, rfl, rfl, trivial⟩ (by first | (rw [show runD d l (k + 1) = (doV (runD d l k) (l.getD k zA)).1 from rfl, do_stack, notesL, List.length_append, List.flatMap_append, tl_5 (by assumption), List.length_append, List.flatMap_append]; rfl) | (rw [show runD d l (k + 1) = (doV (runD d l k) (l.getD k zA)).1 from rfl, do_stack, notesL, List.length_append, List.flatMap_append, tl_n (by assumption)]; rfl)) rfl (by omega) (by omega)
    · refine ExL.pures 1 rfl ?_
      refine ExL.nil ?_
      refine Ex.cond_f rfl ?_
      refine Ex.exit ?_
      refine Ex.seq ?_
      refine Ex.regSeq (ExL.pures 1 rfl ?_)
      refine ExL.eql rfl rfl rfl rfl rfl rfl (fun h18 => ?_) (fun h18 => ?_)
      · refine ExL.pures 2 rfl ?_
        refine ExL.gtr rfl rfl rfl rfl rfl rfl (fun h19 => ?_) (fun h19 => ?_)
        · refine ExL.pures 1 rfl ?_
          refine ExL.nil ?_
          refine Ex.cond_t rfl ?_
          refine Ex.region (ExL.pures 1 rfl ?_)
          refine ExL.nil ?_
          refine Ex.seq ?_
          refine Ex.regSeq (ExL.pures 1 rfl ?_)
          refine ExL.neq rfl rfl rfl rfl rfl rfl (fun h20 => ?_) (fun h20 => ?_)
          · refine ExL.nil ?_
            refine Ex.cond_t rfl ?_
            refine Ex.regSeq (ExL.pures 0 rfl ?_)
            refine ExL.free (fr_build rfl rfl rfl rfl) rfl rfl rfl ?_
            refine ExL.op rfl (op_buildSlice (sz := 11) rfl rfl rfl rfl rfl rfl rfl rfl (by decide) rfl rfl rfl (fun r21 => ?_))
            refine ExL.op rfl (op_buildSlice (sz := 10) rfl rfl rfl rfl rfl rfl rfl rfl (by decide) rfl rfl rfl (fun r22 => ?_))
            refine ExL.pures 1 rfl ?_
            refine ExL.op rfl (op_storeC (i := 6) rfl rfl rfl rfl rfl rfl rfl rfl rfl rfl ?_)
            refine ExL.pures 3 rfl ?_
            refine ExL.nil ?_
            refine Ex.nilRow 5 1 ?_
            refine Ex.ret ?_
            refine RetQ.mk ((none, 0), ((some ⟨r21, 0, none⟩), 0), ((some ⟨r22, 0, none⟩), 0)) rfl (.cell rfl (.many rfl rfl rfl (SegO.whole (i := 7) rfl)) (.tmp rfl (.tmp rfl (.tmp rfl .nil)))) (t4 (by first | (exfalso; omega) | (rw [rv_cd (k := k) (by omega) (by assumption)]; first | done | rfl | (rw [runD_stack]; rfl)) | (rw [rv_cover (k := k) (by omega) (by omega) (by assumption) (by assumption)]; first | done | rfl | (rw [runD_stack]; rfl)) | (rw [rv_cok (k := k) (by omega) (by omega) (by assumption) (by assumption)]; first | done | rfl | (rw [runD_stack]; rfl))) (by first | (exfalso; omega) | (rw [rv_cd (k := k) (by omega) (by assumption)]; first | done | rfl) | (rw [rv_cover (k := k) (by omega) (by omega) (by assumption) (by assumption)]; first | done | rfl) | (rw [rv_cok (k := k) (by omega) (by omega) (by assumption) (by assumption)]; first | done | rfl)) (by first | (exfalso; omega) | (rw [rv_cd (k := k) (by omega) (by assumption)]; first | done | rfl) | (rw [rv_cover (k := k) (by omega) (by omega) (by assumption) (by assumption)]; first | done | rfl) | (rw [rv_cok (k := k) (by omega) (by omega) (by assumption) (by assumption)]; first | done | rfl)) (by first | (exfalso; omega) | (rw [rv_cd (k := k) (by omega) (by assumption)]; first | done | rfl) | (rw [rv_cover (k := k) (by omega) (by omega) (by assumption) (by assumption)]; first | done | rfl) | (rw [rv_cok (k := k) (by omega) (by omega) (by assumption) (by assumption)]; first | done | rfl))) [0, 2, 1] (by first | (exfalso; omega) | (rw [rv_cd (k := k) (by omega) (by assumption)]; first | done | rfl | (rw [runD_stack]; rfl)) | (rw [rv_cover (k := k) (by omega) (by omega) (by assumption) (by assumption)]; first | done | rfl | (rw [runD_stack]; rfl)) | (rw [rv_cok (k := k) (by omega) (by omega) (by assumption) (by assumption)]; first | done | rfl | (rw [runD_stack]; rfl))) rfl (trivial)
          · refine ExL.nil ?_
            refine Ex.cond_f rfl ?_
            refine Ex.skip ?_
            refine Ex.regSeq (ExL.pures 0 rfl ?_)
            refine ExL.free (fr_loadN rfl rfl rfl rfl rfl (SegO.whole (i := 0) rfl)) rfl rfl rfl ?_
            refine ExL.pures 2 rfl ?_
            refine ExL.op rfl (op_storeC (i := 4) rfl rfl rfl rfl rfl rfl rfl rfl rfl rfl ?_)
            refine ExL.pures 3 rfl ?_
            refine ExL.nil ?_
            refine Ex.ret ?_
            refine RetQ.mk ((x2.1, x2.2), (A, c), (A2, c2)) rfl (.cell rfl (.many rfl rfl rfl (SegO.whole (i := 4) rfl)) (.tmp rfl (.tmp rfl (.tmp rfl .nil)))) (t4 (by first | (exfalso; omega) | (rw [rv_cd (k := k) (by omega) (by assumption)]; first | done | rfl | (rw [runD_stack]; rfl)) | (rw [rv_cover (k := k) (by omega) (by omega) (by assumption) (by assumption)]; first | done | rfl | (rw [runD_stack]; rfl)) | (rw [rv_cok (k := k) (by omega) (by omega) (by assumption) (by assumption)]; first | done | rfl | (rw [runD_stack]; rfl))) (by first | (exfalso; omega) | (rw [rv_cd (k := k) (by omega) (by assumption)]; first | done | rfl) | (rw [rv_cover (k := k) (by omega) (by omega) (by assumption) (by assumption)]; first | done | rfl) | (rw [rv_cok (k := k) (by omega) (by omega) (by assumption) (by assumption)]; first | done | rfl)) (by first | (exfalso; omega) | (rw [rv_cd (k := k) (by omega) (by assumption)]; first | done | rfl) | (rw [rv_cover (k := k) (by omega) (by omega) (by assumption) (by assumption)]; first | done | rfl) | (rw [rv_cok (k := k) (by omega) (by omega) (by assumption) (by assumption)]; first | done | rfl)) (by first | (exfalso; omega) | (rw [rv_cd (k := k) (by omega) (by assumption)]; first | done | rfl) | (rw [rv_cover (k := k) (by omega) (by omega) (by assumption) (by assumption)]; first | done | rfl) | (rw [rv_cok (k := k) (by omega) (by omega) (by assumption) (by assumption)]; first | done | rfl))) [1, 2, 3] (by first | (exfalso; omega) | (rw [rv_cd (k := k) (by omega) (by assumption)]; first | done | rfl | (rw [runD_stack]; rfl)) | (rw [rv_cover (k := k) (by omega) (by omega) (by assumption) (by assumption)]; first | done | rfl | (rw [runD_stack]; rfl)) | (rw [rv_cok (k := k) (by omega) (by omega) (by assumption) (by assumption)]; first | done | rfl | (rw [runD_stack]; rfl))) rfl (trivial)
        · refine ExL.pures 1 rfl ?_
          refine ExL.nil ?_
          refine Ex.cond_f rfl ?_
          refine Ex.skip ?_
          refine Ex.seq ?_
          refine Ex.regSeq (ExL.pures 1 rfl ?_)
          refine ExL.neq rfl rfl rfl rfl rfl rfl (fun h23 => ?_) (fun h23 => ?_)
          · refine ExL.nil ?_
            refine Ex.cond_t rfl ?_
            refine Ex.regSeq (ExL.pures 0 rfl ?_)
            refine ExL.free (fr_build rfl rfl rfl rfl) rfl rfl rfl ?_
            refine ExL.op rfl (op_buildSlice (sz := 11) rfl rfl rfl rfl rfl rfl rfl rfl (by decide) rfl rfl rfl (fun r24 => ?_))
            refine ExL.op rfl (op_buildSlice (sz := 10) rfl rfl rfl rfl rfl rfl rfl rfl (by decide) rfl rfl rfl (fun r25 => ?_))
            refine ExL.pures 1 rfl ?_
            refine ExL.op rfl (op_storeC (i := 6) rfl rfl rfl rfl rfl rfl rfl rfl rfl rfl ?_)
            refine ExL.pures 3 rfl ?_
            refine ExL.nil ?_
            refine Ex.nilRow 5 1 ?_
            refine Ex.ret ?_
            refine RetQ.mk ((none, 0), ((some ⟨r24, 0, none⟩), 0), ((some ⟨r25, 0, none⟩), 0)) rfl (.cell rfl (.many rfl rfl rfl (SegO.whole (i := 7) rfl)) (.tmp rfl (.tmp rfl (.tmp rfl .nil)))) (t4 (by first | (exfalso; omega) | (rw [rv_cd (k := k) (by omega) (by assumption)]; first | done | rfl | (rw [runD_stack]; rfl)) | (rw [rv_cover (k := k) (by omega) (by omega) (by assumption) (by assumption)]; first | done | rfl | (rw [runD_stack]; rfl)) | (rw [rv_cok (k := k) (by omega) (by omega) (by assumption) (by assumption)]; first | done | rfl | (rw [runD_stack]; rfl))) (by first | (exfalso; omega) | (rw [rv_cd (k := k) (by omega) (by assumption)]; first | done | rfl) | (rw [rv_cover (k := k) (by omega) (by omega) (by assumption) (by assumption)]; first | done | rfl) | (rw [rv_cok (k := k) (by omega) (by omega) (by assumption) (by assumption)]; first | done | rfl)) (by first | (exfalso; omega) | (rw [rv_cd (k := k) (by omega) (by assumption)]; first | done | rfl) | (rw [rv_cover (k := k) (by omega) (by omega) (by assumption) (by assumption)]; first | done | rfl) | (rw [rv_cok (k := k) (by omega) (by omega) (by assumption) (by assumption)]; first | done | rfl)) (by first | (exfalso; omega) | (rw [rv_cd (k := k) (by omega) (by assumption)]; first | done | rfl) | (rw [rv_cover (k := k) (by omega) (by omega) (by assumption) (by assumption)]; first | done | rfl) | (rw [rv_cok (k := k) (by omega) (by omega) (by assumption) (by assumption)]; first | done | rfl))) [0, 2, 1] (by first | (exfalso; omega) | (rw [rv_cd (k := k) (by omega) (by assumption)]; first | done | rfl | (rw [runD_stack]; rfl)) | (rw [rv_cover (k := k) (by omega) (by omega) (by assumption) (by assumption)]; first | done | rfl | (rw [runD_stack]; rfl)) | (rw [rv_cok (k := k) (by omega) (by omega) (by assumption) (by assumption)]; first | done | rfl | (rw [runD_stack]; rfl))) rfl (trivial)
          · refine ExL.nil ?_
            refine Ex.cond_f rfl ?_
            refine Ex.skip ?_
            refine Ex.regSeq (ExL.pures 0 rfl ?_)
            refine ExL.free (fr_loadN rfl rfl rfl rfl rfl (SegO.whole (i := 0) rfl)) rfl rfl rfl ?_
            refine ExL.pures 2 rfl ?_
            refine ExL.op rfl (op_storeC (i := 4) rfl rfl rfl rfl rfl rfl rfl rfl rfl rfl ?_)
            refine ExL.pures 3 rfl ?_
            refine ExL.nil ?_
            refine Ex.ret ?_
            refine RetQ.mk ((x2.1, x2.2), (A, c), (A2, c2)) rfl (.cell rfl (.many rfl rfl rfl (SegO.whole (i := 4) rfl)) (.tmp rfl (.tmp rfl (.tmp rfl .nil)))) (t4 (by first | (exfalso; omega) | (rw [rv_cd (k := k) (by omega) (by assumption)]; first | done | rfl | (rw [runD_stack]; rfl)) | (rw [rv_cover (k := k) (by omega) (by omega) (by assumption) (by assumption)]; first | done | rfl | (rw [runD_stack]; rfl)) | (rw [rv_cok (k := k) (by omega) (by omega) (by assumption) (by assumption)]; first | done | rfl | (rw [runD_stack]; rfl))) (by first | (exfalso; omega) | (rw [rv_cd (k := k) (by omega) (by assumption)]; first | done | rfl) | (rw [rv_cover (k := k) (by omega) (by omega) (by assumption) (by assumption)]; first | done | rfl) | (rw [rv_cok (k := k) (by omega) (by omega) (by assumption) (by assumption)]; first | done | rfl)) (by first | (exfalso; omega) | (rw [rv_cd (k := k) (by omega) (by assumption)]; first | done | rfl) | (rw [rv_cover (k := k) (by omega) (by omega) (by assumption) (by assumption)]; first | done | rfl) | (rw [rv_cok (k := k) (by omega) (by omega) (by assumption) (by assumption)]; first | done | rfl)) (by first | (exfalso; omega) | (rw [rv_cd (k := k) (by omega) (by assumption)]; first | done | rfl) | (rw [rv_cover (k := k) (by omega) (by omega) (by assumption) (by assumption)]; first | done | rfl) | (rw [rv_cok (k := k) (by omega) (by omega) (by assumption) (by assumption)]; first | done | rfl))) [1, 2, 3] (by first | (exfalso; omega) | (rw [rv_cd (k := k) (by omega) (by assumption)]; first | done | rfl | (rw [runD_stack]; rfl)) | (rw [rv_cover (k := k) (by omega) (by omega) (by assumption) (by assumption)]; first | done | rfl | (rw [runD_stack]; rfl)) | (rw [rv_cok (k := k) (by omega) (by omega) (by assumption) (by assumption)]; first | done | rfl | (rw [runD_stack]; rfl))) rfl (trivial)
      · refine ExL.pures 4 rfl ?_
        refine ExL.nil ?_
        refine Ex.cond_f rfl ?_
        refine Ex.skip ?_
        refine Ex.seq ?_
        refine Ex.regSeq (ExL.pures 1 rfl ?_)
        refine ExL.neq rfl rfl rfl rfl rfl rfl (fun h26 => ?_) (fun h26 => ?_)
        · refine ExL.nil ?_
          refine Ex.cond_t rfl ?_
          refine Ex.regSeq (ExL.pures 0 rfl ?_)
          refine ExL.free (fr_build rfl rfl rfl rfl) rfl rfl rfl ?_
          refine ExL.op rfl (op_buildSlice (sz := 11) rfl rfl rfl rfl rfl rfl rfl rfl (by decide) rfl rfl rfl (fun r27 => ?_))
          refine ExL.op rfl (op_buildSlice (sz := 10) rfl rfl rfl rfl rfl rfl rfl rfl (by decide) rfl rfl rfl (fun r28 => ?_))
          refine ExL.pures 1 rfl ?_
          refine ExL.op rfl (op_storeC (i := 6) rfl rfl rfl rfl rfl rfl rfl rfl rfl rfl ?_)
          refine ExL.pures 3 rfl ?_
          refine ExL.nil ?_
          refine Ex.nilRow 5 1 ?_
          refine Ex.ret ?_
          refine RetQ.mk ((none, 0), ((some ⟨r27, 0, none⟩), 0), ((some ⟨r28, 0, none⟩), 0)) rfl (.cell rfl (.many rfl rfl rfl (SegO.whole (i := 7) rfl)) (.tmp rfl (.tmp rfl (.tmp rfl .nil)))) (t4 (by first | (exfalso; omega) | (rw [rv_cd (k := k) (by omega) (by assumption)]; first | done | rfl | (rw [runD_stack]; rfl)) | (rw [rv_cover (k := k) (by omega) (by omega) (by assumption) (by assumption)]; first | done | rfl | (rw [runD_stack]; rfl)) | (rw [rv_cok (k := k) (by omega) (by omega) (by assumption) (by assumption)]; first | done | rfl | (rw [runD_stack]; rfl))) (by first | (exfalso; omega) | (rw [rv_cd (k := k) (by omega) (by assumption)]; first | done | rfl) | (rw [rv_cover (k := k) (by omega) (by omega) (by assumption) (by assumption)]; first | done | rfl) | (rw [rv_cok (k := k) (by omega) (by omega) (by assumption) (by assumption)]; first | done | rfl)) (by first | (exfalso; omega) | (rw [rv_cd (k := k) (by omega) (by assumption)]; first | done | rfl) | (rw [rv_cover (k := k) (by omega) (by omega) (by assumption) (by assumption)]; first | done | rfl) | (rw [rv_cok (k := k) (by omega) (by omega) (by assumption) (by assumption)]; first | done | rfl)) (by first | (exfalso; omega) | (rw [rv_cd (k := k) (by omega) (by assumption)]; first | done | rfl) | (rw [rv_cover (k := k) (by omega) (by omega) (by assumption) (by assumption)]; first | done | rfl) | (rw [rv_cok (k := k) (by omega) (by omega) (by assumption) (by assumption)]; first | done | rfl))) [0, 2, 1] (by first | (exfalso; omega) | (rw [rv_cd (k := k) (by omega) (by assumption)]; first | done | rfl | (rw [runD_stack]; rfl)) | (rw [rv_cover (k := k) (by omega) (by omega) (by assumption) (by assumption)]; first | done | rfl | (rw [runD_stack]; rfl)) | (rw [rv_cok (k := k) (by omega) (by omega) (by assumption) (by assumption)]; first | done | rfl | (rw [runD_stack]; rfl))) rfl (trivial)
        · refine ExL.nil ?_
          refine Ex.cond_f rfl ?_
          refine Ex.skip ?_
          refine Ex.regSeq (ExL.pures 0 rfl ?_)
          refine ExL.free (fr_loadN rfl rfl rfl rfl rfl (SegO.whole (i := 0) rfl)) rfl rfl rfl ?_
          refine ExL.pures 2 rfl ?_
          refine ExL.op rfl (op_storeC (i := 4) rfl rfl rfl rfl rfl rfl rfl rfl rfl rfl ?_)
          refine ExL.pures 3 rfl ?_
          refine ExL.nil ?_
          refine Ex.ret ?_
          refine RetQ.mk ((x2.1, x2.2), (A, c), (A2, c2)) rfl (.cell rfl (.many rfl rfl rfl (SegO.whole (i := 4) rfl)) (.tmp rfl (.tmp rfl (.tmp rfl .nil)))) (t4 (by first | (exfalso; omega) | (rw [rv_cd (k := k) (by omega) (by assumption)]; first | done | rfl | (rw [runD_stack]; rfl)) | (rw [rv_cover (k := k) (by omega) (by omega) (by assumption) (by assumption)]; first | done | rfl | (rw [runD_stack]; rfl)) | (rw [rv_cok (k := k) (by omega) (by omega) (by assumption) (by assumption)]; first | done | rfl | (rw [runD_stack]; rfl))) (by first | (exfalso; omega) | (rw [rv_cd (k := k) (by omega) (by assumption)]; first | done | rfl) | (rw [rv_cover (k := k) (by omega) (by omega) (by assumption) (by assumption)]; first | done | rfl) | (rw [rv_cok (k := k) (by omega) (by omega) (by assumption) (by assumption)]; first | done | rfl)) (by first | (exfalso; omega) | (rw [rv_cd (k := k) (by omega) (by assumption)]; first | done | rfl) | (rw [rv_cover (k := k) (by omega) (by omega) (by assumption) (by assumption)]; first | done | rfl) | (rw [rv_cok (k := k) (by omega) (by omega) (by assumption) (by assumption)]; first | done | rfl)) (by first | (exfalso; omega) | (rw [rv_cd (k := k) (by omega) (by assumption)]; first | done | rfl) | (rw [rv_cover (k := k) (by omega) (by omega) (by assumption) (by assumption)]; first | done | rfl) | (rw [rv_cok (k := k) (by omega) (by omega) (by assumption) (by assumption)]; first | done | rfl))) [1, 2, 3] (by first | (exfalso; omega) | (rw [rv_cd (k := k) (by omega) (by assumption)]; first | done | rfl | (rw [runD_stack]; rfl)) | (rw [rv_cover (k := k) (by omega) (by omega) (by assumption) (by assumption)]; first | done | rfl | (rw [runD_stack]; rfl)) | (rw [rv_cok (k := k) (by omega) (by omega) (by assumption) (by assumption)]; first | done | rfl | (rw [runD_stack]; rfl))) rfl (trivial)
  · refine ExL.pures 4 rfl ?_
    refine ExL.nil ?_
    refine Ex.cond_f rfl ?_
    refine Ex.exit ?_
    refine Ex.seq ?_
    refine Ex.regSeq (ExL.pures 1 rfl ?_)
    refine ExL.eql rfl rfl rfl rfl rfl rfl (fun h29 => ?_) (fun h29 => ?_)
    · refine ExL.pures 2 rfl ?_
      refine ExL.gtr rfl rfl rfl rfl rfl rfl (fun h30 => ?_) (fun h30 => ?_)
      · refine ExL.pures 1 rfl ?_
        refine ExL.nil ?_
        refine Ex.cond_t rfl ?_
        refine Ex.region (ExL.pures 1 rfl ?_)
        refine ExL.nil ?_
        refine Ex.seq ?_
        refine Ex.regSeq (ExL.pures 1 rfl ?_)
        refine ExL.neq rfl rfl rfl rfl rfl rfl (fun h31 => ?_) (fun h31 => ?_)
        · refine ExL.nil ?_
          refine Ex.cond_t rfl ?_
          refine Ex.regSeq (ExL.pures 0 rfl ?_)
          refine ExL.free (fr_build rfl rfl rfl rfl) rfl rfl rfl ?_
          refine ExL.op rfl (op_buildSlice (sz := 11) rfl rfl rfl rfl rfl rfl rfl rfl (by decide) rfl rfl rfl (fun r32 => ?_))
          refine ExL.op rfl (op_buildSlice (sz := 10) rfl rfl rfl rfl rfl rfl rfl rfl (by decide) rfl rfl rfl (fun r33 => ?_))
          refine ExL.pures 1 rfl ?_
          refine ExL.op rfl (op_storeC (i := 6) rfl rfl rfl rfl rfl rfl rfl rfl rfl rfl ?_)
          refine ExL.pures 3 rfl ?_
          refine ExL.nil ?_
          refine Ex.nilRow 5 1 ?_
          refine Ex.ret ?_
          refine RetQ.mk ((none, 0), ((some ⟨r32, 0, none⟩), 0), ((some ⟨r33, 0, none⟩), 0)) rfl (.cell rfl (.many rfl rfl rfl (SegO.whole (i := 7) rfl)) (.tmp rfl (.tmp rfl (.tmp rfl .nil)))) (t4 (by first | (exfalso; omega) | (rw [rv_cd (k := k) (by omega) (by assumption)]; first | done | rfl | (rw [runD_stack]; rfl)) | (rw [rv_cover (k := k) (by omega) (by omega) (by assumption) (by assumption)]; first | done | rfl | (rw [runD_stack]; rfl)) | (rw [rv_cok (k := k) (by omega) (by omega) (by assumption) (by assumption)]; first | done | rfl | (rw [runD_stack]; rfl))) (by first | (exfalso; omega) | (rw [rv_cd (k := k) (by omega) (by assumption)]; first | done | rfl) | (rw [rv_cover (k := k) (by omega) (by omega) (by assumption) (by assumption)]; first | done | rfl) | (rw [rv_cok (k := k) (by omega) (by omega) (by assumption) (by assumption)]; first | done | rfl)) (by first | (exfalso; omega) | (rw [rv_cd (k := k) (by omega) (by assumption)]; first | done | rfl) | (rw [rv_cover (k := k) (by omega) (by omega) (by assumption) (by assumption)]; first | done | rfl) | (rw [rv_cok (k := k) (by omega) (by omega) (by assumption) (by assumption)]; first | done | rfl)) (by first | (exfalso; omega) | (rw [rv_cd (k := k) (by omega) (by assumption)]; first | done | rfl) | (rw [rv_cover (k := k) (by omega) (by omega) (by assumption) (by assumption)]; first | done | rfl) | (rw [rv_cok (k := k) (by omega) (by omega) (by assumption) (by assumption)]; first | done | rfl))) [0, 2, 1] (by first | (exfalso; omega) | (rw [rv_cd (k := k) (by omega) (by assumption)]; first | done | rfl | (rw [runD_stack]; rfl)) | (rw [rv_cover (k := k) (by omega) (by omega) (by assumption) (by assumption)]; first | done | rfl | (rw [runD_stack]; rfl)) | (rw [rv_cok (k := k) (by omega) (by omega) (by assumption) (by assumption)]; first | done | rfl | (rw [runD_stack]; rfl))) rfl (trivial)
        · refine ExL.nil ?_
          refine Ex.cond_f rfl ?_
          refine Ex.skip ?_
          refine Ex.regSeq (ExL.pures 0 rfl ?_)
          refine ExL.free (fr_loadN rfl rfl rfl rfl rfl (SegO.whole (i := 0) rfl)) rfl rfl rfl ?_
          refine ExL.pures 2 rfl ?_
          refine ExL.op rfl (op_storeC (i := 4) rfl rfl rfl rfl rfl rfl rfl rfl rfl rfl ?_)
          refine ExL.pures 3 rfl ?_
          refine ExL.nil ?_
          refine Ex.ret ?_
          refine RetQ.mk ((x2.1, x2.2), (A, c), (A2, c2)) rfl (.cell rfl (.many rfl rfl rfl (SegO.whole (i := 4) rfl)) (.tmp rfl (.tmp rfl (.tmp rfl .nil)))) (t4 (by first | (exfalso; omega) | (rw [rv_cd (k := k) (by omega) (by assumption)]; first | done | rfl | (rw [runD_stack]; rfl)) | (rw [rv_cover (k := k) (by omega) (by omega) (by assumption) (by assumption)]; first | done | rfl | (rw [runD_stack]; rfl)) | (rw [rv_cok (k := k) (by omega) (by omega) (by assumption) (by assumption)]; first | done | rfl | (rw [runD_stack]; rfl))) (by first | (exfalso; omega) | (rw [rv_cd (k := k) (by omega) (by assumption)]; first | done | rfl) | (rw [rv_cover (k := k) (by omega) (by omega) (by assumption) (by assumption)]; first | done | rfl) | (rw [rv_cok (k := k) (by omega) (by omega) (by assumption) (by assumption)]; first | done | rfl)) (by first | (exfalso; omega) | (rw [rv_cd (k := k) (by omega) (by assumption)]; first | done | rfl) | (rw [rv_cover (k := k) (by omega) (by omega) (by assumption) (by assumption)]; first | done | rfl) | (rw [rv_cok (k := k) (by omega) (by omega) (by assumption) (by assumption)]; first | done | rfl)) (by first | (exfalso; omega) | (rw [rv_cd (k := k) (by omega) (by assumption)]; first | done | rfl) | (rw [rv_cover (k := k) (by omega) (by omega) (by assumption) (by assumption)]; first | done | rfl) | (rw [rv_cok (k := k) (by omega) (by omega) (by assumption) (by assumption)]; first | done | rfl))) [1, 2, 3] (by first | (exfalso; omega) | (rw [rv_cd (k := k) (by omega) (by assumption)]; first | done | rfl | (rw [runD_stack]; rfl)) | (rw [rv_cover (k := k) (by omega) (by omega) (by assumption) (by assumption)]; first | done | rfl | (rw [runD_stack]; rfl)) | (rw [rv_cok (k := k) (by omega) (by omega) (by assumption) (by assumption)]; first | done | rfl | (rw [runD_stack]; rfl))) rfl (trivial)
      · refine ExL.pures 1 rfl ?_
        refine ExL.nil ?_
        refine Ex.cond_f rfl ?_
        refine Ex.skip ?_
        refine Ex.seq ?_
        refine Ex.regSeq (ExL.pures 1 rfl ?_)
        refine ExL.neq rfl rfl rfl rfl rfl rfl (fun h34 => ?_) (fun h34 => ?_)
        · refine ExL.nil ?_
          refine Ex.cond_t rfl ?_
          refine Ex.regSeq (ExL.pures 0 rfl ?_)
          refine ExL.free (fr_build rfl rfl rfl rfl) rfl rfl rfl ?_
          refine ExL.op rfl (op_buildSlice (sz := 11) rfl rfl rfl rfl rfl rfl rfl rfl (by decide) rfl rfl rfl (fun r35 => ?_))
          refine ExL.op rfl (op_buildSlice (sz := 10) rfl rfl rfl rfl rfl rfl rfl rfl (by decide) rfl rfl rfl (fun r36 => ?_))
          refine ExL.pures 1 rfl ?_
          refine ExL.op rfl (op_storeC (i := 6) rfl rfl rfl rfl rfl rfl rfl rfl rfl rfl ?_)
          refine ExL.pures 3 rfl ?_
          refine ExL.nil ?_
          refine Ex.nilRow 5 1 ?_
          refine Ex.ret ?_
          refine RetQ.mk ((none, 0), ((some ⟨r35, 0, none⟩), 0), ((some ⟨r36, 0, none⟩), 0)) rfl (.cell rfl (.many rfl rfl rfl (SegO.whole (i := 7) rfl)) (.tmp rfl (.tmp rfl (.tmp rfl .nil)))) (t4 (by first | (exfalso; omega) | (rw [rv_cd (k := k) (by omega) (by assumption)]; first | done | rfl | (rw [runD_stack]; rfl)) | (rw [rv_cover (k := k) (by omega) (by omega) (by assumption) (by assumption)]; first | done | rfl | (rw [runD_stack]; rfl)) | (rw [rv_cok (k := k) (by omega) (by omega) (by assumption) (by assumption)]; first | done | rfl | (rw [runD_stack]; rfl))) (by first | (exfalso; omega) | (rw [rv_cd (k := k) (by omega) (by assumption)]; first | done | rfl) | (rw [rv_cover (k := k) (by omega) (by omega) (by assumption) (by assumption)]; first | done | rfl) | (rw [rv_cok (k := k) (by omega) (by omega) (by assumption) (by assumption)]; first | done | rfl)) (by first | (exfalso; omega) | (rw [rv_cd (k := k) (by omega) (by assumption)]; first | done | rfl) | (rw [rv_cover (k := k) (by omega) (by omega) (by assumption) (by assumption)]; first | done | rfl) | (rw [rv_cok (k := k) (by omega) (by omega) (by assumption) (by assumption)]; first | done | rfl)) (by first | (exfalso; omega) | (rw [rv_cd (k := k) (by omega) (by assumption)]; first | done | rfl) | (rw [rv_cover (k := k) (by omega) (by omega) (by assumption) (by assumption)]; first | done | rfl) | (rw [rv_cok (k := k) (by omega) (by omega) (by assumption) (by assumption)]; first | done | rfl))) [0, 2, 1] (by first | (exfalso; omega) | (rw [rv_cd (k := k) (by omega) (by assumption)]; first | done | rfl | (rw [runD_stack]; rfl)) | (rw [rv_cover (k := k) (by omega) (by omega) (by assumption) (by assumption)]; first | done | rfl | (rw [runD_stack]; rfl)) | (rw [rv_cok (k := k) (by omega) (by omega) (by assumption) (by assumption)]; first | done | rfl | (rw [runD_stack]; rfl))) rfl (trivial)
        · refine ExL.nil ?_
          refine Ex.cond_f rfl ?_
          refine Ex.skip ?_
          refine Ex.regSeq (ExL.pures 0 rfl ?_)
          refine ExL.free (fr_loadN rfl rfl rfl rfl rfl (SegO.whole (i := 0) rfl)) rfl rfl rfl ?_
          refine ExL.pures 2 rfl ?_
          refine ExL.op rfl (op_storeC (i := 4) rfl rfl rfl rfl rfl rfl rfl rfl rfl rfl ?_)
          refine ExL.pures 3 rfl ?_
          refine ExL.nil ?_
          refine Ex.ret ?_
          refine RetQ.mk ((x2.1, x2.2), (A, c), (A2, c2)) rfl (.cell rfl (.many rfl rfl rfl (SegO.whole (i := 4) rfl)) (.tmp rfl (.tmp rfl (.tmp rfl .nil)))) (t4 (by first | (exfalso; omega) | (rw [rv_cd (k := k) (by omega) (by assumption)]; first | done | rfl | (rw [runD_stack]; rfl)) | (rw [rv_cover (k := k) (by omega) (by omega) (by assumption) (by assumption)]; first | done | rfl | (rw [runD_stack]; rfl)) | (rw [rv_cok (k := k) (by omega) (by omega) (by assumption) (by assumption)]; first | done | rfl | (rw [runD_stack]; rfl))) (by first | (exfalso; omega) | (rw [rv_cd (k := k) (by omega) (by assumption)]; first | done | rfl) | (rw [rv_cover (k := k) (by omega) (by omega) (by assumption) (by assumption)]; first | done | rfl) | (rw [rv_cok (k := k) (by omega) (by omega) (by assumption) (by assumption)]; first | done | rfl)) (by first | (exfalso; omega) | (rw [rv_cd (k := k) (by omega) (by assumption)]; first | done | rfl) | (rw [rv_cover (k := k) (by omega) (by omega) (by assumption) (by assumption)]; first | done | rfl) | (rw [rv_cok (k := k) (by omega) (by omega) (by assumption) (by assumption)]; first | done | rfl)) (by first | (exfalso; omega) | (rw [rv_cd (k := k) (by omega) (by assumption)]; first | done | rfl) | (rw [rv_cover (k := k) (by omega) (by omega) (by assumption) (by assumption)]; first | done | rfl) | (rw [rv_cok (k := k) (by omega) (by omega) (by assumption) (by assumption)]; first | done | rfl))) [1, 2, 3] (by first | (exfalso; omega) | (rw [rv_cd (k := k) (by omega) (by assumption)]; first | done | rfl | (rw [runD_stack]; rfl)) | (rw [rv_cover (k := k) (by omega) (by omega) (by assumption) (by assumption)]; first | done | rfl | (rw [runD_stack]; rfl)) | (rw [rv_cok (k := k) (by omega) (by omega) (by assumption) (by assumption)]; first | done | rfl | (rw [runD_stack]; rfl))) rfl (trivial)
    · refine ExL.pures 4 rfl ?_
      refine ExL.nil ?_
      refine Ex.cond_f rfl ?_
      refine Ex.skip ?_
      refine Ex.seq ?_
      refine Ex.regSeq (ExL.pures 1 rfl ?_)
      refine ExL.neq rfl rfl rfl rfl rfl rfl (fun h37 => ?_) (fun h37 => ?_)
      · refine ExL.nil ?_
        refine Ex.cond_t rfl ?_
        refine Ex.regSeq (ExL.pures 0 rfl ?_)
        refine ExL.free (fr_build rfl rfl rfl rfl) rfl rfl rfl ?_
        refine ExL.op rfl (op_buildSlice (sz := 11) rfl rfl rfl rfl rfl rfl rfl rfl (by decide) rfl rfl rfl (fun r38 => ?_))
        refine ExL.op rfl (op_buildSlice (sz := 10) rfl rfl rfl rfl rfl rfl rfl rfl (by decide) rfl rfl rfl (fun r39 => ?_))
        refine ExL.pures 1 rfl ?_
        refine ExL.op rfl (op_storeC (i := 6) rfl rfl rfl rfl rfl rfl rfl rfl rfl rfl ?_)
        refine ExL.pures 3 rfl ?_
        refine ExL.nil ?_
        refine Ex.nilRow 5 1 ?_
        refine Ex.ret ?_
        refine RetQ.mk ((none, 0), ((some ⟨r38, 0, none⟩), 0), ((some ⟨r39, 0, none⟩), 0)) rfl (.cell rfl (.many rfl rfl rfl (SegO.whole (i := 7) rfl)) (.tmp rfl (.tmp rfl (.tmp rfl .nil)))) (t4 (by first | (exfalso; omega) | (rw [rv_cd (k := k) (by omega) (by assumption)]; first | done | rfl | (rw [runD_stack]; rfl)) | (rw [rv_cover (k := k) (by omega) (by omega) (by assumption) (by assumption)]; first | done | rfl | (rw [runD_stack]; rfl)) | (rw [rv_cok (k := k) (by omega) (by omega) (by assumption) (by assumption)]; first | done | rfl | (rw [runD_stack]; rfl))) (by first | (exfalso; omega) | (rw [rv_cd (k := k) (by omega) (by assumption)]; first | done | rfl) | (rw [rv_cover (k := k) (by omega) (by omega) (by assumption) (by assumption)]; first | done | rfl) | (rw [rv_cok (k := k) (by omega) (by omega) (by assumption) (by assumption)]; first | done | rfl)) (by first | (exfalso; omega) | (rw [rv_cd (k := k) (by omega) (by assumption)]; first | done | rfl) | (rw [rv_cover (k := k) (by omega) (by omega) (by assumption) (by assumption)]; first | done | rfl) | (rw [rv_cok (k := k) (by omega) (by omega) (by assumption) (by assumption)]; first | done | rfl)) (by first | (exfalso; omega) | (rw [rv_cd (k := k) (by omega) (by assumption)]; first | done | rfl) | (rw [rv_cover (k := k) (by omega) (by omega) (by assumption) (by assumption)]; first | done | rfl) | (rw [rv_cok (k := k) (by omega) (by omega) (by assumption) (by assumption)]; first | done | rfl))) [0, 2, 1] (by first | (exfalso; omega) | (rw [rv_cd (k := k) (by omega) (by assumption)]; first | done | rfl | (rw [runD_stack]; rfl)) | (rw [rv_cover (k := k) (by omega) (by omega) (by assumption) (by assumption)]; first | done | rfl | (rw [runD_stack]; rfl)) | (rw [rv_cok (k := k) (by omega) (by omega) (by assumption) (by assumption)]; first | done | rfl | (rw [runD_stack]; rfl))) rfl (trivial)
      · refine ExL.nil ?_
        refine Ex.cond_f rfl ?_
        refine Ex.skip ?_
        refine Ex.regSeq (ExL.pures 0 rfl ?_)
        refine ExL.free (fr_loadN rfl rfl rfl rfl rfl (SegO.whole (i := 0) rfl)) rfl rfl rfl ?_
        refine ExL.pures 2 rfl ?_
        refine ExL.op rfl (op_storeC (i := 4) rfl rfl rfl rfl rfl rfl rfl rfl rfl rfl ?_)
        refine ExL.pures 3 rfl ?_
        refine ExL.nil ?_
        refine Ex.ret ?_
        refine RetQ.mk ((x2.1, x2.2), (A, c), (A2, c2)) rfl (.cell rfl (.many rfl rfl rfl (SegO.whole (i := 4) rfl)) (.tmp rfl (.tmp rfl (.tmp rfl .nil)))) (t4 (by first | (exfalso; omega) | (rw [rv_cd (k := k) (by omega) (by assumption)]; first | done | rfl | (rw [runD_stack]; rfl)) | (rw [rv_cover (k := k) (by omega) (by omega) (by assumption) (by assumption)]; first | done | rfl | (rw [runD_stack]; rfl)) | (rw [rv_cok (k := k) (by omega) (by omega) (by assumption) (by assumption)]; first | done | rfl | (rw [runD_stack]; rfl))) (by first | (exfalso; omega) | (rw [rv_cd (k := k) (by omega) (by assumption)]; first | done | rfl) | (rw [rv_cover (k := k) (by omega) (by omega) (by assumption) (by assumption)]; first | done | rfl) | (rw [rv_cok (k := k) (by omega) (by omega) (by assumption) (by assumption)]; first | done | rfl)) (by first | (exfalso; omega) | (rw [rv_cd (k := k) (by omega) (by assumption)]; first | done | rfl) | (rw [rv_cover (k := k) (by omega) (by omega) (by assumption) (by assumption)]; first | done | rfl) | (rw [rv_cok (k := k) (by omega) (by omega) (by assumption) (by assumption)]; first | done | rfl)) (by first | (exfalso; omega) | (rw [rv_cd (k := k) (by omega) (by assumption)]; first | done | rfl) | (rw [rv_cover (k := k) (by omega) (by omega) (by assumption) (by assumption)]; first | done | rfl) | (rw [rv_cok (k := k) (by omega) (by omega) (by assumption) (by assumption)]; first | done | rfl))) [1, 2, 3] (by first | (exfalso; omega) | (rw [rv_cd (k := k) (by omega) (by assumption)]; first | done | rfl | (rw [runD_stack]; rfl)) | (rw [rv_cover (k := k) (by omega) (by omega) (by assumption) (by assumption)]; first | done | rfl | (rw [runD_stack]; rfl)) | (rw [rv_cok (k := k) (by omega) (by omega) (by assumption) (by assumption)]; first | done | rfl | (rw [runD_stack]; rfl))) rfl (trivial)
end Go.Proofs.Ytjopackngkfdhaa
