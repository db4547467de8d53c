/- What these functions of the program hand back, each proved by walking its operations. -/
import Derived.Test.YtjopackngkfdhaaProg
import Derived.Test.YtjopackngkfdhaaFw
import Derived.Test.YtjopackngkfdhaaGR
set_option linter.unusedVariables false
set_option linter.unusedSimpArgs false
set_option maxRecDepth 4000
namespace Go.Proofs.Ytjopackngkfdhaa
open Go Go.Sx Go.RowKit Go.W Go.Proofs
attribute [local irreducible] Ex ExL ExD Op1 Free RetQ MutQ Reads CellO SegO LoadsAs
theorem e_155 : Enters Try.prog 155 := Enters.of Try.func155 rfl
theorem c_notes (d : VDev) (hk : OkDev d) (hdv : validDev d = true) (Ad : Option Addr) (cd : Nat) (b : Nat) (l : List VAct) (hva : ∀ i, i < l.length → validAct (l.getD i zA) = true) (h60 : l.length ≤ 60) (Al : Option Addr) (cl : Nat) (bt : Nat) (At : Option Addr) (ct : Nat) : Mut Try.prog 155 [.pointer (some ⟨b, 0, none⟩), .slice Al l.length cl, .func (.func 156) #[] #[.pointer (some ⟨bt, 0, none⟩)]] [.blk b (encV Ad cd d) 38, .row (.slice Ad d.stack.length cd) 5 1 d.stack.length (d.stack.flatMap (eI .u8)), .blk bt [.slice At 0 ct] 76, .row (.slice At 0 ct) 53 10 0 []] (fun base w0 F => RdB base w0 Al (l.flatMap encA)) (fun x : Nat × Nat × (Option Addr × Nat) × (Option Addr × Nat) => .tuple #[.slice x.2.2.2.1 (notesR d l).1.length x.2.2.2.2, .int .i64 (notesR d l).2.1, .int .i64 (notesR d l).2.2]) (fun x => [.blk b (encV Ad cd (runD d l x.1)) 38, .row (.slice Ad (runD d l x.1).stack.length cd) 5 1 (runD d l x.1).stack.length ((runD d l x.1).stack.flatMap (eI .u8)), .blk bt [.slice x.2.2.1.1 (ticsL d l x.2.1).length x.2.2.1.2] 76, .row (.slice x.2.2.1.1 (ticsL d l x.2.1).length x.2.2.1.2) 53 10 (ticsL d l x.2.1).length ((ticsL d l x.2.1).flatMap encT), .row (.slice x.2.2.2.1 (notesR d l).1.length x.2.2.2.2) 109 11 (notesR d l).1.length ((notesR d l).1.flatMap encN)]) (fun x => runC d l l.length = 0 → x.1 = l.length ∧ x.2.1 = l.length) := by
  refine Mut.of e_155 Try.func155 rfl Try.ntmps155 rfl rfl (fun base w0 F hfr => ?_)
  have hl := hfr
  have hm0 : maxLen = 9223372036854775807 := rfl
  refine Ex.regSeq (ExL.pures 3 rfl ?_)
  refine ExL.nil ?_
  refine Ex.regSeq (ExL.pures 0 rfl ?_)
  refine ExL.op rfl (op_buildSlice (sz := 11) rfl rfl rfl rfl rfl rfl rfl rfl (by decide) rfl rfl rfl (fun r1 => ?_))
  refine ExL.pures 2 rfl ?_
  refine ExL.nil ?_
  refine Ex.seq ?_
  refine Ex.regSeq (ExL.pures 3 rfl ?_)
  refine ExL.nil ?_
  refine Ex.block ?_
  refine Ex.loopB (fun k A c A2 c2 => [(9, .slice A (notesL d l k).length c), (10, .int .i64 (lostD d l k)), (18, .int .i64 k)]) (fun k A c A2 c2 => [.blk b (encV Ad cd (runD d l k)) 38, .row (.slice Ad (runD d l k).stack.length cd) 5 1 (runD d l k).stack.length ((runD d l k).stack.flatMap (eI .u8)), .blk bt [.slice A2 (ticsL d l k).length c2] 76, .row (.slice A2 (ticsL d l k).length c2) 53 10 (ticsL d l k).length ((ticsL d l k).flatMap encT), .row (.slice A (notesL d l k).length c) 109 11 (notesL d l k).length ((notesL d l k).flatMap encN)]) (fun k => k ≤ l.length ∧ runC d l k = 0) (fun k => l.length - k) 0 ((some ⟨r1, 0, none⟩)) (0) (At) (ct) [(0, _), (2, _), (16, _), (17, _)] (F) 5 [1, 2, 3, 4, 0] ⟨rfl, rfl, rfl, trivial⟩ ⟨rfl, rfl, rfl, rfl, trivial⟩ (rfl) rfl ⟨Nat.zero_le _, rfl⟩ (fun k A c A2 c2 hI => ?_)
  have hI : k ≤ l.length ∧ runC d l k = 0 := hI
  obtain ⟨hI, hrc⟩ := hI
  refine Ex.regSeq (ExL.pures 0 rfl ?_)
  refine ExL.lss rfl rfl rfl rfl rfl rfl (fun h2 => ?_) (fun h2 => ?_)
  · refine ExL.nil ?_
    refine Ex.seq ?_
    refine Ex.cond_t rfl ?_
    refine Ex.skip ?_
    refine Ex.seq ?_
    refine Ex.block ?_
    have hkl : k < l.length := (by omega)
    have hak := hva k hkl
    obtain ⟨hrk, hrv⟩ := run_ok hk hdv hva k (by omega)
    have hlo := lost_bd hk hdv hva k (by omega)
    have hdl := do_lost hrk hrv hak
    have hrs := runD_stack d l k
    have htl := ticsL_len d l k
    have hnl := notesL_len d l k
    obtain ⟨ho1, ho2⟩ := do_ok hrk hrv hak
    refine Ex.regSeq (ExL.pures 0 rfl ?_)
    refine ExL.free (fr_indexAddrF (Reads.old hl) encA_len rfl rfl rfl rfl rfl rfl (by omega)) rfl rfl rfl ?_
    refine ExL.free (fr_loadN rfl rfl rfl rfl rfl (by first | exact segN (Reads.old hl) encA_len rfl zA (by omega) | exact segF (Reads.old hl) encA_len rfl zA (by omega))) rfl rfl rfl ?_
    refine ExL.op rfl (op_alloc rfl rfl rfl rfl rfl (fun b3 => ?_))
    refine ExL.op rfl (op_storeC (i := 0) rfl rfl rfl rfl rfl rfl rfl rfl rfl rfl ?_)
    refine ExL.nil ?_
    refine Ex.regSeq (ExL.pures 1 rfl ?_)
    refine ExL.free (fr_loadN rfl rfl rfl rfl rfl (SegO.whole (i := 0) rfl)) rfl rfl rfl ?_
    refine ExL.op rfl (op_mut rfl rfl rfl (c_do (runD d l k) (by assumption) (by assumption) _ _ _ (l.getD k zA) (by first | assumption | simp_all)) (perm_lt (i := 1) (j := 2) rfl rfl rfl) (trivial) rfl rfl (fun x4 hx4 => ?_))
    refine ExL.pures 5 rfl ?_
    refine ExL.nil ?_
    refine Ex.seq ?_
    refine Ex.regSeq (ExL.pures 1 rfl ?_)
    refine ExL.neq rfl rfl rfl rfl rfl rfl (fun h5 => ?_) (fun h5 => ?_)
    · refine ExL.nil ?_
      refine Ex.cond_t rfl ?_
      refine Ex.regSeq (ExL.pures 4 rfl ?_)
      refine ExL.nil ?_
      refine Ex.nilRow 109 11 ?_
      refine Ex.ret ?_
      refine MutQ.mk (k + 1, k, (A2, c2), (none, 0)) rfl (.tmp rfl (.tmp rfl (.tmp rfl .nil))) (t3 (by first | (exfalso; omega) | (rw [nr_code (k := k) hkl hrc (by assumption)]; first | done | rfl) | (rw [nr_over (k := k) (by omega) (by omega) hrc (by assumption)]; first | done | rfl) | (rw [nr_ok (k := k) (by omega) (by omega) hrc (by assumption)]; first | done | rfl)) (by first | (exfalso; omega) | (rw [nr_code (k := k) hkl hrc (by assumption)]; first | done | rfl) | (rw [nr_over (k := k) (by omega) (by omega) hrc (by assumption)]; first | done | rfl) | (rw [nr_ok (k := k) (by omega) (by omega) hrc (by assumption)]; first | done | rfl)) (by first | (exfalso; omega) | (rw [nr_code (k := k) hkl hrc (by assumption)]; first | done | rfl) | (rw [nr_over (k := k) (by omega) (by omega) hrc (by assumption)]; first | done | rfl) | (rw [nr_ok (k := k) (by omega) (by omega) hrc (by assumption)]; first | done | rfl))) 7 [1, 2, 4, 5, 0] (by first | (rw [show runD d l (k + 1) = (doV (runD d l k) (l.getD k zA)).1 from rfl, do_stack]; first | (rw [nr_code (k := k) hkl hrc (by assumption)]; first | done | rfl)) | (rw [nr_code (k := k) hkl hrc (by assumption)]; first | done | rfl) | (rw [nr_over (k := k) (by omega) (by omega) hrc (by assumption)]; first | done | rfl) | (rw [nr_ok (k := k) (by omega) (by omega) hrc (by assumption)]; first | done | rfl)) rfl (by first | (intro h; rw [rc_hit hkl hrc (by assumption)] at h; exact absurd h (by assumption)) | exact fun _ => ⟨show k = l.length by omega, show k = l.length by omega⟩)
    · refine ExL.nil ?_
      refine Ex.cond_f rfl ?_
      refine Ex.skip ?_
      refine Ex.regSeq (ExL.pures 2 rfl ?_)
      refine ExL.free (by first | exact fr_add64 rfl rfl rfl (by omega) | exact fr_add rfl rfl rfl) rfl rfl rfl ?_
      refine ExL.pures 1 rfl ?_
      refine ExL.nil ?_
      refine Ex.drawSeqI [0, 1, 2, 3, 4] rfl rfl ?_
      refine ExD.take (i := 0) rfl (by kernel_rfl) (pureVal_ok rfl) ((List.Sublist.cons_cons _ (List.Sublist.cons_cons _ (List.Sublist.cons_cons _ (List.Sublist.cons_cons _ (List.Sublist.cons_cons _ (List.nil_sublist _))))))) rfl rfl rfl ?_
      refine ExD.take (i := 1) rfl (by kernel_rfl) (fr_loadN rfl rfl rfl rfl rfl (SegO.whole (i := 2) rfl)) ((List.Sublist.cons_cons _ (List.Sublist.cons_cons _ (List.Sublist.cons_cons _ (List.Sublist.cons_cons _ (List.Sublist.cons_cons _ (List.nil_sublist _))))))) rfl rfl rfl ?_
      refine ExD.take (i := 2) rfl (by kernel_rfl) (pureVal_ok rfl) ((List.Sublist.cons_cons _ (List.Sublist.cons_cons _ (List.Sublist.cons_cons _ (List.Sublist.cons_cons _ (List.Sublist.cons_cons _ (List.nil_sublist _))))))) rfl rfl rfl ?_
      refine ExD.take (i := 3) rfl (by kernel_rfl) (pureVal_ok rfl) ((List.Sublist.cons_cons _ (List.Sublist.cons_cons _ (List.Sublist.cons_cons _ (List.Sublist.cons_cons _ (List.Sublist.cons_cons _ (List.nil_sublist _))))))) rfl rfl rfl ?_
      refine ExD.take (i := 4) rfl (by kernel_rfl) (pureVal_ok rfl) ((List.Sublist.cons_cons _ (List.Sublist.cons_cons _ (List.Sublist.cons_cons _ (List.Sublist.cons_cons _ (List.Sublist.cons_cons _ (List.nil_sublist _))))))) rfl rfl rfl ?_
      refine ExD.take (i := 5) rfl (by kernel_rfl) (fr_loadN rfl rfl rfl rfl rfl (SegO.part (i := 0) 8 rfl)) ((List.Sublist.cons_cons _ (List.Sublist.cons_cons _ (List.Sublist.cons_cons _ (List.Sublist.cons_cons _ (List.Sublist.cons_cons _ (List.nil_sublist _))))))) rfl rfl rfl ?_
      refine ExD.take (i := 6) rfl (by kernel_rfl) (pureVal_ok rfl) ((List.Sublist.cons_cons _ (List.Sublist.cons_cons _ (List.Sublist.cons_cons _ (List.Sublist.cons_cons _ (List.Sublist.cons_cons _ (List.nil_sublist _))))))) rfl rfl rfl ?_
      refine ExD.take (i := 7) rfl (by kernel_rfl) (fr_build (cells := encN ⟨l.getD k zA, (doV (runD d l k) (l.getD k zA)).1.shows, (doV (runD d l k) (l.getD k zA)).2.1⟩) rfl rfl rfl (by kernel_rfl)) ((List.Sublist.cons_cons _ (List.Sublist.cons_cons _ (List.Sublist.cons_cons _ (List.Sublist.cons_cons _ (List.Sublist.cons_cons _ (List.nil_sublist _))))))) rfl rfl rfl ?_
      refine ExD.op (i := 8) rfl (by kernel_rfl) rfl (op_buildSlice (sz := 11) rfl rfl rfl rfl rfl rfl rfl rfl (by decide) rfl rfl rfl (fun r6 => ⟨(List.Sublist.cons _ (List.Sublist.cons_cons _ (List.Sublist.cons_cons _ (List.Sublist.cons_cons _ (List.Sublist.cons_cons _ (List.Sublist.cons_cons _ (List.nil_sublist _))))))), ?_⟩))
      refine ExD.op (i := 9) rfl (by kernel_rfl) rfl (op_append (sz := 11) (bytes := 32) (i := 6) rfl rfl rfl rfl (Reads.row (i := 0) rfl) rfl (fun e => nomatch e) rfl rfl rfl rfl (by constructor <;> first | omega | (unfold maxLen; omega)) rfl rfl (fun A7 cA7 => ⟨(List.Sublist.cons _ (List.Sublist.cons_cons _ (List.Sublist.cons_cons _ (List.Sublist.cons_cons _ (List.Sublist.cons_cons _ (List.Sublist.cons_cons _ (List.nil_sublist _))))))), ?_⟩))
      refine ExD.take (i := 10) rfl (by kernel_rfl) (pureVal_ok rfl) ((List.Sublist.cons _ (List.Sublist.cons_cons _ (List.Sublist.cons_cons _ (List.Sublist.cons_cons _ (List.Sublist.cons_cons _ (List.Sublist.cons_cons _ (List.nil_sublist _)))))))) rfl rfl rfl ?_
      refine ExD.done (by kernel_rfl) ?_
      refine Ex.regSeq (ExL.pures 1 rfl ?_)
      refine ExL.free (fr_load rfl rfl rfl rfl (CellO.blk (i := 3) rfl rfl)) rfl rfl rfl ?_
      refine ExL.eql rfl rfl rfl rfl rfl rfl (fun h9 => ?_) (fun h9 => ?_)
      · refine ExL.nil ?_
        refine Ex.cond_t rfl ?_
        refine Ex.region (ExL.pures 2 rfl ?_)
        refine ExL.op rfl (op_ret rfl rfl rfl (c_ticket ((doV (runD d l k) (l.getD k zA)).1) (by first | assumption | exact (da_dev hk (by first | assumption | exact not_not_intro (by assumption))).1) (by first | assumption | exact (da_dev hk (by first | assumption | exact not_not_intro (by assumption))).2) _ _ _) (fun w hw => Reads.get (Reads.blk (i := 1) rfl) w hw) rfl rfl (fun x10 hx10 => ?_))
        refine ExL.op rfl (op_mut rfl rfl rfl (c_plays (ticsL d l k) (by omega) _ _ _ (ticV ((doV (runD d l k) (l.getD k zA)).1))) (perm_lt (i := 4) (j := 5) rfl rfl rfl) (trivial) rfl rfl (fun x11 hx11 => ?_))
        refine ExL.nil ?_
        refine Ex.region (ExL.pures 0 rfl ?_)
        refine ExL.free (by first | exact fr_add64 rfl rfl rfl (by omega) | exact fr_add rfl rfl rfl) rfl rfl rfl ?_
        refine ExL.pures 1 rfl ?_
        refine ExL.nil ?_
        refine HandB.of (k + 1) (A7) (cA7) (x11.1) (x11.2) 7 [3, 4, 0, 1, 6] ⟨(by rw [notesL, List.length_append]; rfl), rfl, rfl, trivial⟩ ⟨rfl, rfl, rfl, rfl, trivial⟩ (by first | (rw [show runD d l (k + 1) = (doV (runD d l k) (l.getD k zA)).1 from rfl, do_stack, notesL, tl_5 (by assumption)]; simp only [List.length_append, List.flatMap_append]; rfl) | (rw [show runD d l (k + 1) = (doV (runD d l k) (l.getD k zA)).1 from rfl, do_stack, notesL, tl_n (by assumption)]; simp only [List.length_append, List.flatMap_append]; rfl)) rfl (⟨by omega, by rw [rc_go hrc]; first | assumption | omega⟩) (by omega)
      · refine ExL.nil ?_
        refine Ex.cond_f rfl ?_
        refine Ex.skip ?_
        refine Ex.region (ExL.pures 0 rfl ?_)
        refine ExL.free (by first | exact fr_add64 rfl rfl rfl (by omega) | exact fr_add rfl rfl rfl) rfl rfl rfl ?_
        refine ExL.pures 1 rfl ?_
        refine ExL.nil ?_
        refine HandB.of (k + 1) (A7) (cA7) (A2) (c2) 7 [1, 2, 4, 5, 6] ⟨(by rw [notesL, List.length_append]; rfl), rfl, rfl, trivial⟩ ⟨rfl, rfl, rfl, rfl, trivial⟩ (by first | (rw [show runD d l (k + 1) = (doV (runD d l k) (l.getD k zA)).1 from rfl, do_stack, notesL, tl_5 (by assumption)]; simp only [List.length_append, List.flatMap_append]; rfl) | (rw [show runD d l (k + 1) = (doV (runD d l k) (l.getD k zA)).1 from rfl, do_stack, notesL, tl_n (by assumption)]; simp only [List.length_append, List.flatMap_append]; rfl)) rfl (⟨by omega, by rw [rc_go hrc]; first | assumption | omega⟩) (by omega)
  · refine ExL.nil ?_
    refine Ex.seq ?_
    refine Ex.cond_f rfl ?_
    refine Ex.exit ?_
    refine Ex.seq ?_
    refine Ex.regSeq (ExL.pures 1 rfl ?_)
    refine ExL.gtr rfl rfl rfl rfl rfl rfl (fun h12 => ?_) (fun h12 => ?_)
    · refine ExL.nil ?_
      refine Ex.cond_t rfl ?_
      refine Ex.regSeq (ExL.pures 3 rfl ?_)
      refine ExL.nil ?_
      refine Ex.nilRow 109 11 ?_
      refine Ex.ret ?_
      refine MutQ.mk (k, k, (A2, c2), (none, 0)) rfl (.tmp rfl (.tmp rfl (.tmp rfl .nil))) (t3 (by first | (exfalso; omega) | (rw [nr_code (k := k) hkl hrc (by assumption)]; first | done | rfl) | (rw [nr_over (k := k) (by omega) (by omega) hrc (by assumption)]; first | done | rfl) | (rw [nr_ok (k := k) (by omega) (by omega) hrc (by assumption)]; first | done | rfl)) (by first | (exfalso; omega) | (rw [nr_code (k := k) hkl hrc (by assumption)]; first | done | rfl) | (rw [nr_over (k := k) (by omega) (by omega) hrc (by assumption)]; first | done | rfl) | (rw [nr_ok (k := k) (by omega) (by omega) hrc (by assumption)]; first | done | rfl)) (by first | (exfalso; omega) | (rw [nr_code (k := k) hkl hrc (by assumption)]; first | done | rfl) | (rw [nr_over (k := k) (by omega) (by omega) hrc (by assumption)]; first | done | rfl) | (rw [nr_ok (k := k) (by omega) (by omega) hrc (by assumption)]; first | done | rfl))) 6 [1, 2, 3, 4, 0] (by first | (rw [show runD d l (k + 1) = (doV (runD d l k) (l.getD k zA)).1 from rfl, do_stack]; first | (rw [nr_code (k := k) hkl hrc (by assumption)]; first | done | rfl)) | (rw [nr_code (k := k) hkl hrc (by assumption)]; first | done | rfl) | (rw [nr_over (k := k) (by omega) (by omega) hrc (by assumption)]; first | done | rfl) | (rw [nr_ok (k := k) (by omega) (by omega) hrc (by assumption)]; first | done | rfl)) rfl (by first | (intro h; rw [rc_hit hkl hrc (by assumption)] at h; exact absurd h (by assumption)) | exact fun _ => ⟨show k = l.length by omega, show k = l.length by omega⟩)
    · refine ExL.nil ?_
      refine Ex.cond_f rfl ?_
      refine Ex.skip ?_
      refine Ex.regSeq (ExL.pures 5 rfl ?_)
      refine ExL.nil ?_
      refine Ex.ret ?_
      refine MutQ.mk (k, k, (A2, c2), (A, c)) rfl (.tmp rfl (.tmp rfl (.tmp rfl .nil))) (t3 (by first | (exfalso; omega) | (rw [nr_code (k := k) hkl hrc (by assumption)]; first | done | rfl) | (rw [nr_over (k := k) (by omega) (by omega) hrc (by assumption)]; first | done | rfl) | (rw [nr_ok (k := k) (by omega) (by omega) hrc (by assumption)]; first | done | rfl)) (by first | (exfalso; omega) | (rw [nr_code (k := k) hkl hrc (by assumption)]; first | done | rfl) | (rw [nr_over (k := k) (by omega) (by omega) hrc (by assumption)]; first | done | rfl) | (rw [nr_ok (k := k) (by omega) (by omega) hrc (by assumption)]; first | done | rfl)) (by first | (exfalso; omega) | (rw [nr_code (k := k) hkl hrc (by assumption)]; first | done | rfl) | (rw [nr_over (k := k) (by omega) (by omega) hrc (by assumption)]; first | done | rfl) | (rw [nr_ok (k := k) (by omega) (by omega) hrc (by assumption)]; first | done | rfl))) 5 [0, 1, 2, 3, 4] (by first | (rw [show runD d l (k + 1) = (doV (runD d l k) (l.getD k zA)).1 from rfl, do_stack]; first | (rw [nr_code (k := k) hkl hrc (by assumption)]; first | done | rfl)) | (rw [nr_code (k := k) hkl hrc (by assumption)]; first | done | rfl) | (rw [nr_over (k := k) (by omega) (by omega) hrc (by assumption)]; first | done | rfl) | (rw [nr_ok (k := k) (by omega) (by omega) hrc (by assumption)]; first | done | rfl)) rfl (by first | (intro h; rw [rc_hit hkl hrc (by assumption)] at h; exact absurd h (by assumption)) | exact fun _ => ⟨show k = l.length by omega, show k = l.length by omega⟩)
end Go.Proofs.Ytjopackngkfdhaa
