/- What these functions of the program hand back, each proved by walking its operations. -/
import Derived.Test.YtjopackngkfdhaaProg
import Derived.Test.YtjopackngkfdhaaFw
import Derived.Test.YtjopackngkfdhaaGS
set_option linter.unusedVariables false
set_option linter.unusedSimpArgs false
set_option maxRecDepth 4000
namespace Go.Proofs.Ytjopackngkfdhaa
open Go Go.Sx Go.RowKit Go.W Go.Proofs
attribute [local irreducible] Ex ExL ExD Op1 Free RetQ MutQ Reads CellO SegO LoadsAs
theorem e_45 : Enters Try.prog 45 := Enters.of Try.func45 rfl
theorem c_iShortActs (l : List VAct) (Al : Option Addr) (cl : Nat) (hll : l.length ≤ maxLen) : Ret Try.prog 45 [.slice Al l.length cl] (fun w => Rd w Al (l.flatMap encA)) (fun x : Option Addr × Nat => .tuple #[.slice x.1 (shortV l).1.length x.2, .int .i64 (shortV l).2]) (fun x => [.row (.slice x.1 ((shortV l).1).length x.2) 26 2 ((shortV l).1).length (((shortV l).1).flatMap encA)]) (fun x => True) := by
  refine Ret.of e_45 Try.func45 rfl Try.ntmps45 rfl rfl (fun w hpre => ?_)
  have hl := hpre.base
  have hm0 : maxLen = 9223372036854775807 := rfl
  refine Ex.regSeq (ExL.pures 2 rfl ?_)
  refine ExL.nil ?_
  refine Ex.seq ?_
  refine Ex.regSeq (ExL.pures 1 rfl ?_)
  refine ExL.op rfl (op_ret rfl rfl rfl (c_actsFault l _ _ (by omega)) (Reads.get (Reads.old hl)) rfl rfl (fun x1 hx1 => ?_))
  refine ExL.pures 1 rfl ?_
  refine ExL.nil ?_
  refine Ex.regSeq (ExL.pures 1 rfl ?_)
  refine ExL.neq rfl rfl rfl rfl rfl rfl (fun h2 => ?_) (fun h2 => ?_)
  · refine ExL.nil ?_
    refine Ex.cond_t rfl ?_
    refine Ex.regSeq (ExL.pures 3 rfl ?_)
    refine ExL.nil ?_
    refine Ex.nilRow 26 2 ?_
    refine Ex.ret ?_
    refine RetQ.mk (none, 0) rfl (.tmp rfl (.tmp rfl .nil)) (t2 (by first | (rw [shk_bad (k := k) (by omega) (by assumption)]; first | done | rfl) | (rw [shk_long hbad (by assumption)]; first | done | rfl) | (rw [sh_bad (by assumption)]; first | done | rfl) | (rw [shk_big hkn haf (by assumption)]; first | done | rfl) | (rw [shk_ok hkn haf (by assumption)]; first | done | rfl) | (rw [shk_low hkn haf hI2]; first | done | rfl) | (rw [shk_over hkl haf (by rw [shortL_succ hkl]; exact over_chk (hva k hkl) (fun h => by first | exact absurd h.2 (by assumption) | exact nP h.1 (by assumption) | exact nPk h.1 (by omega)) (by rintro (h | h | h) <;> first | omega | exact absurd h (by assumption)) (by rw [← shortL_succ hkl]; assumption))]; first | done | rfl)) (by first | (rw [shk_bad (k := k) (by omega) (by assumption)]; first | done | rfl) | (rw [shk_long hbad (by assumption)]; first | done | rfl) | (rw [sh_bad (by assumption)]; first | done | rfl) | (rw [shk_big hkn haf (by assumption)]; first | done | rfl) | (rw [shk_ok hkn haf (by assumption)]; first | done | rfl) | (rw [shk_low hkn haf hI2]; first | done | rfl) | (rw [shk_over hkl haf (by rw [shortL_succ hkl]; exact over_chk (hva k hkl) (fun h => by first | exact absurd h.2 (by assumption) | exact nP h.1 (by assumption) | exact nPk h.1 (by omega)) (by rintro (h | h | h) <;> first | omega | exact absurd h (by assumption)) (by rw [← shortL_succ hkl]; assumption))]; first | done | rfl))) [0] (by first | (rw [shk_bad (k := k) (by omega) (by assumption)]; first | done | rfl) | (rw [shk_long hbad (by assumption)]; first | done | rfl) | (rw [sh_bad (by assumption)]; first | done | rfl) | (rw [shk_big hkn haf (by assumption)]; first | done | rfl) | (rw [shk_ok hkn haf (by assumption)]; first | done | rfl) | (rw [shk_low hkn haf hI2]; first | done | rfl) | (rw [shk_over hkl haf (by rw [shortL_succ hkl]; exact over_chk (hva k hkl) (fun h => by first | exact absurd h.2 (by assumption) | exact nP h.1 (by assumption) | exact nPk h.1 (by omega)) (by rintro (h | h | h) <;> first | omega | exact absurd h (by assumption)) (by rw [← shortL_succ hkl]; assumption))]; first | done | rfl)) rfl (trivial)
  · refine ExL.nil ?_
    refine Ex.cond_f rfl ?_
    refine Ex.skip ?_
    refine Ex.regSeq (ExL.pures 0 rfl ?_)
    refine ExL.op rfl (op_buildSlice (sz := 2) rfl rfl rfl rfl rfl rfl rfl rfl (by decide) rfl rfl rfl (fun r3 => ?_))
    refine ExL.pures 1 rfl ?_
    refine ExL.nil ?_
    refine Ex.seq ?_
    refine Ex.regSeq (ExL.pures 3 rfl ?_)
    refine ExL.nil ?_
    refine Ex.block ?_
    have haf : ¬ afault l ≠ 0 := (by assumption)
    obtain ⟨hva, h60⟩ := af_zero haf
    refine Ex.loopA (fun k A c => [(5, .slice A (shortL l k).length c), (17, .int .i64 k)]) (fun k A c => [.row (.slice A (shortL l k).length c) 26 2 (shortL l k).length ((shortL l k).flatMap encA)]) (fun k => k ≤ l.length) (fun k => l.length - k) 0 ((some ⟨r3, 0, none⟩)) (0) [(2, _), (3, _), (15, _), (16, _)] [] 1 [0] ⟨rfl, rfl, trivial⟩ ⟨rfl, rfl, rfl, rfl, trivial⟩ (rfl) rfl (Nat.zero_le _) (fun k A c hI => ?_)
    have hI : k ≤ l.length := hI
    have hsl := shortL_len l k
    have hb1 := (shortL_low hva k hI).any (by omega) ((shortL l k).length - 1)
    refine Ex.regSeq (ExL.pures 0 rfl ?_)
    refine ExL.lss rfl rfl rfl rfl rfl rfl (fun h4 => ?_) (fun h4 => ?_)
    · refine ExL.nil ?_
      refine Ex.seq ?_
      refine Ex.cond_t rfl ?_
      refine Ex.skip ?_
      refine Ex.seq ?_
      refine Ex.block ?_
      have hkl : k < l.length := (by omega)
      obtain ⟨hv1, hv2, hv3⟩ := valid_n (hva k hkl)
      refine Ex.regSeq (ExL.pures 0 rfl ?_)
      refine ExL.free (fr_indexAddrF (Reads.old hl) encA_len rfl rfl rfl rfl rfl rfl (by omega)) rfl rfl rfl ?_
      refine ExL.free (fr_loadN rfl rfl rfl rfl rfl (by first | exact segN (Reads.old hl) encA_len rfl zA (by omega) | exact segF (Reads.old hl) encA_len rfl zA (by omega))) rfl rfl rfl ?_
      refine ExL.op rfl (op_alloc rfl rfl rfl rfl rfl (fun b5 => ?_))
      refine ExL.op rfl (op_storeC (i := 0) rfl rfl rfl rfl rfl rfl rfl rfl rfl rfl ?_)
      refine ExL.nil ?_
      refine Ex.regSeq (ExL.pures 2 rfl ?_)
      refine ExL.free (by first | exact fr_sub64 rfl rfl rfl (by omega) | exact fr_sub rfl rfl rfl) rfl rfl rfl ?_
      refine ExL.pures 1 rfl ?_
      refine ExL.nil ?_
      refine Ex.block ?_
      refine Ex.regSeq (ExL.pures 0 rfl ?_)
      refine ExL.free (fr_loadN rfl rfl rfl rfl rfl (SegO.whole (i := 0) rfl)) rfl rfl rfl ?_
      refine ExL.op rfl (op_ret rfl rfl rfl (c_isPulse (l.getD k zA)) (fun _ _ => trivial) rfl rfl (fun x6 hx6 => ?_))
      refine ExL.pures 1 rfl ?_
      refine ExL.bool (d := 31) rfl (fun hb7 => ?_) (fun hb7 => ?_)
      · refine ExL.pures 1 rfl ?_
        refine ExL.free (fr_load rfl rfl rfl rfl (CellO.blk (i := 0) rfl rfl)) rfl rfl rfl ?_
        refine ExL.eql rfl rfl rfl rfl rfl rfl (fun h8 => ?_) (fun h8 => ?_)
        · refine ExL.pures 2 rfl ?_
          refine ExL.nil ?_
          refine Ex.cond_t rfl ?_
          refine Ex.skip ?_
          refine Ex.region (ExL.pures 0 rfl ?_)
          refine ExL.free (by first | exact fr_add64 rfl rfl rfl (by omega) | exact fr_add rfl rfl rfl) rfl rfl rfl ?_
          refine ExL.pures 1 rfl ?_
          refine ExL.nil ?_
          refine HandA.of (k + 1) (A) (c) 2 [1] ⟨(by first | (rw [hsame]; first | done | rfl) | (rw [shortL_succ hkl, st_skip (by first | assumption | exact isP_t (by omega)) (by assumption)]; first | done | rfl) | (rw [shortL_succ hkl, st_new (fun h => by first | exact absurd h.2 (by assumption) | exact nP h.1 (by assumption) | exact nPk h.1 (by omega)) (by first | exact .inl (by omega) | exact .inr (.inl (by assumption)) | exact .inr (.inr (by assumption))), List.length_append]; rfl)), rfl, trivial⟩ ⟨rfl, rfl, rfl, rfl, trivial⟩ (by first | (rw [hsame]; first | done | rfl) | (rw [shortL_succ hkl, st_skip (by first | assumption | exact isP_t (by omega)) (by assumption)]; first | done | rfl) | (rw [shortL_succ hkl, st_new (fun h => by first | exact absurd h.2 (by assumption) | exact nP h.1 (by assumption) | exact nPk h.1 (by omega)) (by first | exact .inl (by omega) | exact .inr (.inl (by assumption)) | exact .inr (.inr (by assumption))), List.length_append, List.flatMap_append]; rfl)) rfl (by omega) (by omega)
        · refine ExL.pures 2 rfl ?_
          refine ExL.nil ?_
          refine Ex.cond_f rfl ?_
          refine Ex.drawSeqM rfl ?_
          refine ExD.take (i := 0) rfl (by kernel_rfl) (pureVal_ok rfl) ((List.Sublist.refl _)) rfl rfl rfl ?_
          refine ExD.cmp_lss (i := 1) rfl (by kernel_rfl) rfl rfl rfl ((List.Sublist.refl _)) rfl rfl rfl (fun h9 => ?_) (fun h9 => ?_)
          · refine ExD.take (i := 2) rfl (by kernel_rfl) (pureVal_ok rfl) ((List.Sublist.refl _)) rfl rfl rfl ?_
            refine ExD.pass (i := 3) rfl (by kernel_rfl) ((List.Sublist.refl _)) rfl rfl rfl ?_
            refine ExD.pass (i := 4) rfl (by kernel_rfl) ((List.Sublist.refl _)) rfl rfl rfl ?_
            refine ExD.pass (i := 5) rfl (by kernel_rfl) ((List.Sublist.refl _)) rfl rfl rfl ?_
            refine ExD.pass (i := 6) rfl (by kernel_rfl) ((List.Sublist.refl _)) rfl rfl rfl ?_
            refine ExD.pass (i := 7) rfl (by kernel_rfl) ((List.Sublist.refl _)) rfl rfl rfl ?_
            refine ExD.pass (i := 8) rfl (by kernel_rfl) ((List.Sublist.refl _)) rfl rfl rfl ?_
            refine ExD.pass (i := 9) rfl (by kernel_rfl) ((List.Sublist.refl _)) rfl rfl rfl ?_
            refine ExD.pass (i := 10) rfl (by kernel_rfl) ((List.Sublist.refl _)) rfl rfl rfl ?_
            refine ExD.take (i := 11) rfl (by kernel_rfl) (pureVal_ok rfl) ((List.Sublist.refl _)) rfl rfl rfl ?_
            refine ExD.take (i := 12) rfl (by kernel_rfl) (pureVal_ok rfl) ((List.Sublist.refl _)) rfl rfl rfl ?_
            refine ExD.pass (i := 13) rfl (by kernel_rfl) ((List.Sublist.refl _)) rfl rfl rfl ?_
            refine ExD.pass (i := 14) rfl (by kernel_rfl) ((List.Sublist.refl _)) rfl rfl rfl ?_
            refine ExD.pass (i := 15) rfl (by kernel_rfl) ((List.Sublist.refl _)) rfl rfl rfl ?_
            refine ExD.take (i := 16) rfl (by kernel_rfl) (pureVal_ok rfl) ((List.Sublist.refl _)) rfl rfl rfl ?_
            refine ExD.take (i := 17) rfl (by kernel_rfl) (pureVal_ok rfl) ((List.Sublist.refl _)) rfl rfl rfl ?_
            refine ExD.done (by kernel_rfl) ?_
            refine Ex.cond_t rfl ?_
            refine Ex.region (ExL.pures 1 rfl ?_)
            refine ExL.free (fr_loadN rfl rfl rfl rfl rfl (SegO.whole (i := 0) rfl)) rfl rfl rfl ?_
            refine ExL.op rfl (op_buildSlice (sz := 2) rfl rfl rfl rfl rfl rfl rfl rfl (by decide) rfl rfl rfl (fun r10 => ?_))
            refine ExL.op rfl (op_append (sz := 2) (bytes := 16) (i := 2) rfl rfl rfl rfl (Reads.row (i := 0) rfl) rfl (fun e => nomatch e) rfl rfl rfl rfl (by constructor <;> first | omega | (unfold maxLen; omega)) rfl rfl (fun A11 cA11 => ?_))
            refine ExL.pures 1 rfl ?_
            refine ExL.nil ?_
            refine Ex.region (ExL.pures 0 rfl ?_)
            refine ExL.free (by first | exact fr_add64 rfl rfl rfl (by omega) | exact fr_add rfl rfl rfl) rfl rfl rfl ?_
            refine ExL.pures 1 rfl ?_
            refine ExL.nil ?_
            refine HandA.of (k + 1) (A11) (cA11) 3 [2] ⟨(by first | (rw [hsame]; first | done | rfl) | (rw [shortL_succ hkl, st_skip (by first | assumption | exact isP_t (by omega)) (by assumption)]; first | done | rfl) | (rw [shortL_succ hkl, st_new (fun h => by first | exact absurd h.2 (by assumption) | exact nP h.1 (by assumption) | exact nPk h.1 (by omega)) (by first | exact .inl (by omega) | exact .inr (.inl (by assumption)) | exact .inr (.inr (by assumption))), List.length_append]; rfl)), rfl, trivial⟩ ⟨rfl, rfl, rfl, rfl, trivial⟩ (by first | (rw [hsame]; first | done | rfl) | (rw [shortL_succ hkl, st_skip (by first | assumption | exact isP_t (by omega)) (by assumption)]; first | done | rfl) | (rw [shortL_succ hkl, st_new (fun h => by first | exact absurd h.2 (by assumption) | exact nP h.1 (by assumption) | exact nPk h.1 (by omega)) (by first | exact .inl (by omega) | exact .inr (.inl (by assumption)) | exact .inr (.inr (by assumption))), List.length_append, List.flatMap_append]; rfl)) rfl (by omega) (by omega)
          · refine ExD.take (i := 2) rfl (by kernel_rfl) (pureVal_ok rfl) ((List.Sublist.refl _)) rfl rfl rfl ?_
            refine ExD.take (i := 3) rfl (by kernel_rfl) (pureVal_ok rfl) ((List.Sublist.refl _)) rfl rfl rfl ?_
            refine ExD.take (i := 4) rfl (by kernel_rfl) (pureVal_ok rfl) ((List.Sublist.refl _)) rfl rfl rfl ?_
            refine ExD.take (i := 5) rfl (by kernel_rfl) (fr_indexAddrR (sz := 2) 1 rfl rfl rfl rfl rfl rfl (by omega)) ((List.Sublist.refl _)) rfl rfl rfl ?_
            refine ExD.take (i := 6) rfl (by kernel_rfl) (fr_fieldAddrR 1 rfl (by omega) rfl rfl rfl rfl rfl rfl) ((List.Sublist.refl _)) rfl rfl rfl ?_
            refine ExD.take (i := 7) rfl (by kernel_rfl) (fr_load rfl rfl rfl rfl (cellJ (((shortL l k).length - 1)) (Reads.row (i := 1) rfl) encA_len zA 0 rfl (by omega) (by omega) rfl)) ((List.Sublist.refl _)) rfl rfl rfl ?_
            refine ExD.take (i := 8) rfl (by kernel_rfl) (pureVal_ok rfl) ((List.Sublist.refl _)) rfl rfl rfl ?_
            refine ExD.take (i := 9) rfl (by kernel_rfl) (fr_load rfl rfl rfl rfl (CellO.blk (i := 0) rfl rfl)) ((List.Sublist.refl _)) rfl rfl rfl ?_
            refine ExD.cmp_neq (i := 10) rfl (by kernel_rfl) rfl rfl rfl ((List.Sublist.refl _)) rfl rfl rfl (fun h13 => ?_) (fun h13 => ?_)
            · refine ExD.take (i := 11) rfl (by kernel_rfl) (pureVal_ok rfl) ((List.Sublist.refl _)) rfl rfl rfl ?_
              refine ExD.take (i := 12) rfl (by kernel_rfl) (pureVal_ok rfl) ((List.Sublist.refl _)) rfl rfl rfl ?_
              refine ExD.pass (i := 13) rfl (by kernel_rfl) ((List.Sublist.refl _)) rfl rfl rfl ?_
              refine ExD.pass (i := 14) rfl (by kernel_rfl) ((List.Sublist.refl _)) rfl rfl rfl ?_
              refine ExD.pass (i := 15) rfl (by kernel_rfl) ((List.Sublist.refl _)) rfl rfl rfl ?_
              refine ExD.take (i := 16) rfl (by kernel_rfl) (pureVal_ok rfl) ((List.Sublist.refl _)) rfl rfl rfl ?_
              refine ExD.take (i := 17) rfl (by kernel_rfl) (pureVal_ok rfl) ((List.Sublist.refl _)) rfl rfl rfl ?_
              refine ExD.done (by kernel_rfl) ?_
              refine Ex.cond_t rfl ?_
              refine Ex.region (ExL.pures 1 rfl ?_)
              refine ExL.free (fr_loadN rfl rfl rfl rfl rfl (SegO.whole (i := 0) rfl)) rfl rfl rfl ?_
              refine ExL.op rfl (op_buildSlice (sz := 2) rfl rfl rfl rfl rfl rfl rfl rfl (by decide) rfl rfl rfl (fun r14 => ?_))
              refine ExL.op rfl (op_append (sz := 2) (bytes := 16) (i := 2) rfl rfl rfl rfl (Reads.row (i := 0) rfl) rfl (fun e => nomatch e) rfl rfl rfl rfl (by constructor <;> first | omega | (unfold maxLen; omega)) rfl rfl (fun A15 cA15 => ?_))
              refine ExL.pures 1 rfl ?_
              refine ExL.nil ?_
              refine Ex.region (ExL.pures 0 rfl ?_)
              refine ExL.free (by first | exact fr_add64 rfl rfl rfl (by omega) | exact fr_add rfl rfl rfl) rfl rfl rfl ?_
              refine ExL.pures 1 rfl ?_
              refine ExL.nil ?_
              refine HandA.of (k + 1) (A15) (cA15) 3 [2] ⟨(by first | (rw [hsame]; first | done | rfl) | (rw [shortL_succ hkl, st_skip (by first | assumption | exact isP_t (by omega)) (by assumption)]; first | done | rfl) | (rw [shortL_succ hkl, st_new (fun h => by first | exact absurd h.2 (by assumption) | exact nP h.1 (by assumption) | exact nPk h.1 (by omega)) (by first | exact .inl (by omega) | exact .inr (.inl (by assumption)) | exact .inr (.inr (by assumption))), List.length_append]; rfl)), rfl, trivial⟩ ⟨rfl, rfl, rfl, rfl, trivial⟩ (by first | (rw [hsame]; first | done | rfl) | (rw [shortL_succ hkl, st_skip (by first | assumption | exact isP_t (by omega)) (by assumption)]; first | done | rfl) | (rw [shortL_succ hkl, st_new (fun h => by first | exact absurd h.2 (by assumption) | exact nP h.1 (by assumption) | exact nPk h.1 (by omega)) (by first | exact .inl (by omega) | exact .inr (.inl (by assumption)) | exact .inr (.inr (by assumption))), List.length_append, List.flatMap_append]; rfl)) rfl (by omega) (by omega)
            · refine ExD.take (i := 11) rfl (by kernel_rfl) (pureVal_ok rfl) ((List.Sublist.refl _)) rfl rfl rfl ?_
              refine ExD.take (i := 12) rfl (by kernel_rfl) (pureVal_ok rfl) ((List.Sublist.refl _)) rfl rfl rfl ?_
              refine ExD.take (i := 13) rfl (by kernel_rfl) (pureVal_ok rfl) ((List.Sublist.refl _)) rfl rfl rfl ?_
              refine ExD.take (i := 14) rfl (by kernel_rfl) (fr_load rfl rfl rfl rfl (CellO.blk (i := 0) rfl rfl)) ((List.Sublist.refl _)) rfl rfl rfl ?_
              refine ExD.cmp_eql (i := 15) rfl (by kernel_rfl) rfl rfl rfl ((List.Sublist.refl _)) rfl rfl rfl (fun h17 => ?_) (fun h17 => ?_)
              · refine ExD.take (i := 16) rfl (by kernel_rfl) (pureVal_ok rfl) ((List.Sublist.refl _)) rfl rfl rfl ?_
                refine ExD.take (i := 17) rfl (by kernel_rfl) (pureVal_ok rfl) ((List.Sublist.refl _)) rfl rfl rfl ?_
                refine ExD.done (by kernel_rfl) ?_
                refine Ex.cond_t rfl ?_
                refine Ex.region (ExL.pures 1 rfl ?_)
                refine ExL.free (fr_loadN rfl rfl rfl rfl rfl (SegO.whole (i := 0) rfl)) rfl rfl rfl ?_
                refine ExL.op rfl (op_buildSlice (sz := 2) rfl rfl rfl rfl rfl rfl rfl rfl (by decide) rfl rfl rfl (fun r18 => ?_))
                refine ExL.op rfl (op_append (sz := 2) (bytes := 16) (i := 2) rfl rfl rfl rfl (Reads.row (i := 0) rfl) rfl (fun e => nomatch e) rfl rfl rfl rfl (by constructor <;> first | omega | (unfold maxLen; omega)) rfl rfl (fun A19 cA19 => ?_))
                refine ExL.pures 1 rfl ?_
                refine ExL.nil ?_
                refine Ex.region (ExL.pures 0 rfl ?_)
                refine ExL.free (by first | exact fr_add64 rfl rfl rfl (by omega) | exact fr_add rfl rfl rfl) rfl rfl rfl ?_
                refine ExL.pures 1 rfl ?_
                refine ExL.nil ?_
                refine HandA.of (k + 1) (A19) (cA19) 3 [2] ⟨(by first | (rw [hsame]; first | done | rfl) | (rw [shortL_succ hkl, st_skip (by first | assumption | exact isP_t (by omega)) (by assumption)]; first | done | rfl) | (rw [shortL_succ hkl, st_new (fun h => by first | exact absurd h.2 (by assumption) | exact nP h.1 (by assumption) | exact nPk h.1 (by omega)) (by first | exact .inl (by omega) | exact .inr (.inl (by assumption)) | exact .inr (.inr (by assumption))), List.length_append]; rfl)), rfl, trivial⟩ ⟨rfl, rfl, rfl, rfl, trivial⟩ (by first | (rw [hsame]; first | done | rfl) | (rw [shortL_succ hkl, st_skip (by first | assumption | exact isP_t (by omega)) (by assumption)]; first | done | rfl) | (rw [shortL_succ hkl, st_new (fun h => by first | exact absurd h.2 (by assumption) | exact nP h.1 (by assumption) | exact nPk h.1 (by omega)) (by first | exact .inl (by omega) | exact .inr (.inl (by assumption)) | exact .inr (.inr (by assumption))), List.length_append, List.flatMap_append]; rfl)) rfl (by omega) (by omega)
              · refine ExD.take (i := 16) rfl (by kernel_rfl) (pureVal_ok rfl) ((List.Sublist.refl _)) rfl rfl rfl ?_
                refine ExD.take (i := 17) rfl (by kernel_rfl) (pureVal_ok rfl) ((List.Sublist.refl _)) rfl rfl rfl ?_
                refine ExD.done (by kernel_rfl) ?_
                refine Ex.cond_f rfl ?_
                refine Ex.regSeq (ExL.pures 0 rfl ?_)
                refine ExL.free (fr_loadN rfl rfl rfl rfl rfl (SegO.whole (i := 0) rfl)) rfl rfl rfl ?_
                refine ExL.op rfl (op_ret rfl rfl rfl (c_isPulse (l.getD k zA)) (fun _ _ => trivial) rfl rfl (fun x21 hx21 => ?_))
                refine ExL.pures 1 rfl ?_
                refine ExL.nil ?_
                refine Ex.cond rfl (fun hb22 => ?_) (fun hb22 => ?_)
                · refine Ex.drawI [0] rfl rfl ?_
                  refine ExD.take (i := 0) rfl (by kernel_rfl) (pureVal_ok rfl) ((List.Sublist.cons_cons _ (List.nil_sublist _))) rfl rfl rfl ?_
                  refine ExD.take (i := 1) rfl (by kernel_rfl) (pureVal_ok rfl) ((List.Sublist.cons_cons _ (List.nil_sublist _))) rfl rfl rfl ?_
                  refine ExD.take (i := 5) rfl (by kernel_rfl) (pureVal_ok rfl) ((List.Sublist.cons_cons _ (List.nil_sublist _))) rfl rfl rfl ?_
                  refine ExD.take (i := 6) rfl (by kernel_rfl) (fr_load rfl rfl rfl rfl (CellO.blk (i := 0) rfl rfl)) ((List.Sublist.cons_cons _ (List.nil_sublist _))) rfl rfl rfl ?_
                  refine ExD.op (i := 2) rfl (by kernel_rfl) rfl (Op1.of_free (fr_indexAddrR (sz := 2) 1 rfl rfl rfl rfl rfl rfl (by omega)) rfl rfl ⟨(List.Sublist.cons_cons _ (List.nil_sublist _)), ?_⟩)
                  refine ExD.op (i := 3) rfl (by kernel_rfl) rfl (Op1.of_free (fr_fieldAddrR 1 rfl (by omega) rfl rfl rfl rfl rfl rfl) rfl rfl ⟨(List.Sublist.cons_cons _ (List.nil_sublist _)), ?_⟩)
                  refine ExD.op (i := 4) rfl (by kernel_rfl) rfl (Op1.of_free (fr_load rfl rfl rfl rfl (cellJ (((shortL l k).length - 1)) (Reads.row (i := 1) rfl) encA_len zA 1 rfl (by omega) (by omega) rfl)) rfl rfl ⟨(List.Sublist.cons_cons _ (List.nil_sublist _)), ?_⟩)
                  refine ExD.take (i := 7) rfl (by kernel_rfl) (by first | exact fr_add64 rfl rfl rfl (by omega) | exact fr_add rfl rfl rfl) ((List.Sublist.cons_cons _ (List.nil_sublist _))) rfl rfl rfl ?_
                  refine ExD.op (i := 8) rfl (by kernel_rfl) rfl (Op1.of_free (fr_indexAddrR (sz := 2) 1 rfl rfl rfl rfl rfl rfl (by omega)) rfl rfl ⟨(List.Sublist.cons_cons _ (List.nil_sublist _)), ?_⟩)
                  refine ExD.op (i := 9) rfl (by kernel_rfl) rfl (Op1.of_free (fr_fieldAddrR 1 rfl (by omega) rfl rfl rfl rfl rfl rfl) rfl rfl ⟨(List.Sublist.cons_cons _ (List.nil_sublist _)), ?_⟩)
                  refine ExD.op (i := 10) rfl (by kernel_rfl) rfl (op_storeRowF (i := 1) rfl rfl rfl rfl rfl rfl rfl rfl (room_at encA_len (k := (shortL l k).length - 1) (q := 1) (by omega) (by first | omega | (simp; omega) | (simp; done)) rfl) (List.cons_ne_nil _ _) rfl (put_add hkl (fun h => by first | exact absurd h.2 (by assumption) | exact nP h.1 (by assumption) | exact nPk h.1 (by omega)) (by rintro (h | h | h) <;> first | omega | exact absurd h (by assumption)) (by first | assumption | exact isP_t (by omega)) (by first | omega | (simp; omega) | (simp; done))) ⟨(List.Sublist.cons_cons _ (List.nil_sublist _)), ?_⟩)
                  have hsame := sh_same hkl (fun h => by first | exact absurd h.2 (by assumption) | exact nP h.1 (by assumption) | exact nPk h.1 (by omega)) (by rintro (h | h | h) <;> first | omega | exact absurd h (by assumption))
                  refine ExD.done (by kernel_rfl) ?_
                  refine Ex.region (ExL.pures 0 rfl ?_)
                  refine ExL.free (by first | exact fr_add64 rfl rfl rfl (by omega) | exact fr_add rfl rfl rfl) rfl rfl rfl ?_
                  refine ExL.pures 1 rfl ?_
                  refine ExL.nil ?_
                  refine HandA.of (k + 1) (A) (c) 2 [1] ⟨(by first | (rw [hsame]; first | done | rfl) | (rw [shortL_succ hkl, st_skip (by first | assumption | exact isP_t (by omega)) (by assumption)]; first | done | rfl) | (rw [shortL_succ hkl, st_new (fun h => by first | exact absurd h.2 (by assumption) | exact nP h.1 (by assumption) | exact nPk h.1 (by omega)) (by first | exact .inl (by omega) | exact .inr (.inl (by assumption)) | exact .inr (.inr (by assumption))), List.length_append]; rfl)), rfl, trivial⟩ ⟨rfl, rfl, rfl, rfl, trivial⟩ (by first | (rw [hsame]; first | done | rfl) | (rw [shortL_succ hkl, st_skip (by first | assumption | exact isP_t (by omega)) (by assumption)]; first | done | rfl) | (rw [shortL_succ hkl, st_new (fun h => by first | exact absurd h.2 (by assumption) | exact nP h.1 (by assumption) | exact nPk h.1 (by omega)) (by first | exact .inl (by omega) | exact .inr (.inl (by assumption)) | exact .inr (.inr (by assumption))), List.length_append, List.flatMap_append]; rfl)) rfl (by omega) (by omega)
                · refine Ex.region (ExL.pures 2 rfl ?_)
                  refine ExL.free (fr_loadN rfl rfl rfl rfl rfl (SegO.whole (i := 0) rfl)) rfl rfl rfl ?_
                  refine ExL.free (fr_indexAddrR (sz := 2) 1 rfl rfl rfl rfl rfl rfl (by omega)) rfl rfl rfl ?_
                  refine ExL.op rfl (op_storeRowF (i := 1) rfl rfl rfl rfl rfl rfl rfl rfl (room encA_len (k := (shortL l k).length - 1) (by omega) (by omega) rfl) (List.cons_ne_nil _ _) rfl (put_put hkl (fun h => by first | exact absurd h.2 (by assumption) | exact nP h.1 (by assumption) | exact nPk h.1 (by omega)) (by rintro (h | h | h) <;> first | omega | exact absurd h (by assumption)) (by first | assumption | exact isP_f (by omega)) (by omega)) ?_)
                  have hsame := sh_same hkl (fun h => by first | exact absurd h.2 (by assumption) | exact nP h.1 (by assumption) | exact nPk h.1 (by omega)) (by rintro (h | h | h) <;> first | omega | exact absurd h (by assumption))
                  refine ExL.nil ?_
                  refine Ex.region (ExL.pures 0 rfl ?_)
                  refine ExL.free (by first | exact fr_add64 rfl rfl rfl (by omega) | exact fr_add rfl rfl rfl) rfl rfl rfl ?_
                  refine ExL.pures 1 rfl ?_
                  refine ExL.nil ?_
                  refine HandA.of (k + 1) (A) (c) 2 [1] ⟨(by first | (rw [hsame]; first | done | rfl) | (rw [shortL_succ hkl, st_skip (by first | assumption | exact isP_t (by omega)) (by assumption)]; first | done | rfl) | (rw [shortL_succ hkl, st_new (fun h => by first | exact absurd h.2 (by assumption) | exact nP h.1 (by assumption) | exact nPk h.1 (by omega)) (by first | exact .inl (by omega) | exact .inr (.inl (by assumption)) | exact .inr (.inr (by assumption))), List.length_append]; rfl)), rfl, trivial⟩ ⟨rfl, rfl, rfl, rfl, trivial⟩ (by first | (rw [hsame]; first | done | rfl) | (rw [shortL_succ hkl, st_skip (by first | assumption | exact isP_t (by omega)) (by assumption)]; first | done | rfl) | (rw [shortL_succ hkl, st_new (fun h => by first | exact absurd h.2 (by assumption) | exact nP h.1 (by assumption) | exact nPk h.1 (by omega)) (by first | exact .inl (by omega) | exact .inr (.inl (by assumption)) | exact .inr (.inr (by assumption))), List.length_append, List.flatMap_append]; rfl)) rfl (by omega) (by omega)
      · refine ExL.pures 5 rfl ?_
        refine ExL.nil ?_
        refine Ex.cond_f rfl ?_
        refine Ex.drawSeqM rfl ?_
        refine ExD.take (i := 0) rfl (by kernel_rfl) (pureVal_ok rfl) ((List.Sublist.refl _)) rfl rfl rfl ?_
        refine ExD.cmp_lss (i := 1) rfl (by kernel_rfl) rfl rfl rfl ((List.Sublist.refl _)) rfl rfl rfl (fun h23 => ?_) (fun h23 => ?_)
        · refine ExD.take (i := 2) rfl (by kernel_rfl) (pureVal_ok rfl) ((List.Sublist.refl _)) rfl rfl rfl ?_
          refine ExD.pass (i := 3) rfl (by kernel_rfl) ((List.Sublist.refl _)) rfl rfl rfl ?_
          refine ExD.pass (i := 4) rfl (by kernel_rfl) ((List.Sublist.refl _)) rfl rfl rfl ?_
          refine ExD.pass (i := 5) rfl (by kernel_rfl) ((List.Sublist.refl _)) rfl rfl rfl ?_
          refine ExD.pass (i := 6) rfl (by kernel_rfl) ((List.Sublist.refl _)) rfl rfl rfl ?_
          refine ExD.pass (i := 7) rfl (by kernel_rfl) ((List.Sublist.refl _)) rfl rfl rfl ?_
          refine ExD.pass (i := 8) rfl (by kernel_rfl) ((List.Sublist.refl _)) rfl rfl rfl ?_
          refine ExD.pass (i := 9) rfl (by kernel_rfl) ((List.Sublist.refl _)) rfl rfl rfl ?_
          refine ExD.pass (i := 10) rfl (by kernel_rfl) ((List.Sublist.refl _)) rfl rfl rfl ?_
          refine ExD.take (i := 11) rfl (by kernel_rfl) (pureVal_ok rfl) ((List.Sublist.refl _)) rfl rfl rfl ?_
          refine ExD.take (i := 12) rfl (by kernel_rfl) (pureVal_ok rfl) ((List.Sublist.refl _)) rfl rfl rfl ?_
          refine ExD.pass (i := 13) rfl (by kernel_rfl) ((List.Sublist.refl _)) rfl rfl rfl ?_
          refine ExD.pass (i := 14) rfl (by kernel_rfl) ((List.Sublist.refl _)) rfl rfl rfl ?_
          refine ExD.pass (i := 15) rfl (by kernel_rfl) ((List.Sublist.refl _)) rfl rfl rfl ?_
          refine ExD.take (i := 16) rfl (by kernel_rfl) (pureVal_ok rfl) ((List.Sublist.refl _)) rfl rfl rfl ?_
          refine ExD.take (i := 17) rfl (by kernel_rfl) (pureVal_ok rfl) ((List.Sublist.refl _)) rfl rfl rfl ?_
          refine ExD.done (by kernel_rfl) ?_
          refine Ex.cond_t rfl ?_
          refine Ex.region (ExL.pures 1 rfl ?_)
          refine ExL.free (fr_loadN rfl rfl rfl rfl rfl (SegO.whole (i := 0) rfl)) rfl rfl rfl ?_
          refine ExL.op rfl (op_buildSlice (sz := 2) rfl rfl rfl rfl rfl rfl rfl rfl (by decide) rfl rfl rfl (fun r24 => ?_))
          refine ExL.op rfl (op_append (sz := 2) (bytes := 16) (i := 2) rfl rfl rfl rfl (Reads.row (i := 0) rfl) rfl (fun e => nomatch e) rfl rfl rfl rfl (by constructor <;> first | omega | (unfold maxLen; omega)) rfl rfl (fun A25 cA25 => ?_))
          refine ExL.pures 1 rfl ?_
          refine ExL.nil ?_
          refine Ex.region (ExL.pures 0 rfl ?_)
          refine ExL.free (by first | exact fr_add64 rfl rfl rfl (by omega) | exact fr_add rfl rfl rfl) rfl rfl rfl ?_
          refine ExL.pures 1 rfl ?_
          refine ExL.nil ?_
          refine HandA.of (k + 1) (A25) (cA25) 3 [2] ⟨(by first | (rw [hsame]; first | done | rfl) | (rw [shortL_succ hkl, st_skip (by first | assumption | exact isP_t (by omega)) (by assumption)]; first | done | rfl) | (rw [shortL_succ hkl, st_new (fun h => by first | exact absurd h.2 (by assumption) | exact nP h.1 (by assumption) | exact nPk h.1 (by omega)) (by first | exact .inl (by omega) | exact .inr (.inl (by assumption)) | exact .inr (.inr (by assumption))), List.length_append]; rfl)), rfl, trivial⟩ ⟨rfl, rfl, rfl, rfl, trivial⟩ (by first | (rw [hsame]; first | done | rfl) | (rw [shortL_succ hkl, st_skip (by first | assumption | exact isP_t (by omega)) (by assumption)]; first | done | rfl) | (rw [shortL_succ hkl, st_new (fun h => by first | exact absurd h.2 (by assumption) | exact nP h.1 (by assumption) | exact nPk h.1 (by omega)) (by first | exact .inl (by omega) | exact .inr (.inl (by assumption)) | exact .inr (.inr (by assumption))), List.length_append, List.flatMap_append]; rfl)) rfl (by omega) (by omega)
        · refine ExD.take (i := 2) rfl (by kernel_rfl) (pureVal_ok rfl) ((List.Sublist.refl _)) rfl rfl rfl ?_
          refine ExD.take (i := 3) rfl (by kernel_rfl) (pureVal_ok rfl) ((List.Sublist.refl _)) rfl rfl rfl ?_
          refine ExD.take (i := 4) rfl (by kernel_rfl) (pureVal_ok rfl) ((List.Sublist.refl _)) rfl rfl rfl ?_
          refine ExD.take (i := 5) rfl (by kernel_rfl) (fr_indexAddrR (sz := 2) 1 rfl rfl rfl rfl rfl rfl (by omega)) ((List.Sublist.refl _)) rfl rfl rfl ?_
          refine ExD.take (i := 6) rfl (by kernel_rfl) (fr_fieldAddrR 1 rfl (by omega) rfl rfl rfl rfl rfl rfl) ((List.Sublist.refl _)) rfl rfl rfl ?_
          refine ExD.take (i := 7) rfl (by kernel_rfl) (fr_load rfl rfl rfl rfl (cellJ (((shortL l k).length - 1)) (Reads.row (i := 1) rfl) encA_len zA 0 rfl (by omega) (by omega) rfl)) ((List.Sublist.refl _)) rfl rfl rfl ?_
          refine ExD.take (i := 8) rfl (by kernel_rfl) (pureVal_ok rfl) ((List.Sublist.refl _)) rfl rfl rfl ?_
          refine ExD.take (i := 9) rfl (by kernel_rfl) (fr_load rfl rfl rfl rfl (CellO.blk (i := 0) rfl rfl)) ((List.Sublist.refl _)) rfl rfl rfl ?_
          refine ExD.cmp_neq (i := 10) rfl (by kernel_rfl) rfl rfl rfl ((List.Sublist.refl _)) rfl rfl rfl (fun h27 => ?_) (fun h27 => ?_)
          · refine ExD.take (i := 11) rfl (by kernel_rfl) (pureVal_ok rfl) ((List.Sublist.refl _)) rfl rfl rfl ?_
            refine ExD.take (i := 12) rfl (by kernel_rfl) (pureVal_ok rfl) ((List.Sublist.refl _)) rfl rfl rfl ?_
            refine ExD.pass (i := 13) rfl (by kernel_rfl) ((List.Sublist.refl _)) rfl rfl rfl ?_
            refine ExD.pass (i := 14) rfl (by kernel_rfl) ((List.Sublist.refl _)) rfl rfl rfl ?_
            refine ExD.pass (i := 15) rfl (by kernel_rfl) ((List.Sublist.refl _)) rfl rfl rfl ?_
            refine ExD.take (i := 16) rfl (by kernel_rfl) (pureVal_ok rfl) ((List.Sublist.refl _)) rfl rfl rfl ?_
            refine ExD.take (i := 17) rfl (by kernel_rfl) (pureVal_ok rfl) ((List.Sublist.refl _)) rfl rfl rfl ?_
            refine ExD.done (by kernel_rfl) ?_
            refine Ex.cond_t rfl ?_
            refine Ex.region (ExL.pures 1 rfl ?_)
            refine ExL.free (fr_loadN rfl rfl rfl rfl rfl (SegO.whole (i := 0) rfl)) rfl rfl rfl ?_
            refine ExL.op rfl (op_buildSlice (sz := 2) rfl rfl rfl rfl rfl rfl rfl rfl (by decide) rfl rfl rfl (fun r28 => ?_))
            refine ExL.op rfl (op_append (sz := 2) (bytes := 16) (i := 2) rfl rfl rfl rfl (Reads.row (i := 0) rfl) rfl (fun e => nomatch e) rfl rfl rfl rfl (by constructor <;> first | omega | (unfold maxLen; omega)) rfl rfl (fun A29 cA29 => ?_))
            refine ExL.pures 1 rfl ?_
            refine ExL.nil ?_
            refine Ex.region (ExL.pures 0 rfl ?_)
            refine ExL.free (by first | exact fr_add64 rfl rfl rfl (by omega) | exact fr_add rfl rfl rfl) rfl rfl rfl ?_
            refine ExL.pures 1 rfl ?_
            refine ExL.nil ?_
            refine HandA.of (k + 1) (A29) (cA29) 3 [2] ⟨(by first | (rw [hsame]; first | done | rfl) | (rw [shortL_succ hkl, st_skip (by first | assumption | exact isP_t (by omega)) (by assumption)]; first | done | rfl) | (rw [shortL_succ hkl, st_new (fun h => by first | exact absurd h.2 (by assumption) | exact nP h.1 (by assumption) | exact nPk h.1 (by omega)) (by first | exact .inl (by omega) | exact .inr (.inl (by assumption)) | exact .inr (.inr (by assumption))), List.length_append]; rfl)), rfl, trivial⟩ ⟨rfl, rfl, rfl, rfl, trivial⟩ (by first | (rw [hsame]; first | done | rfl) | (rw [shortL_succ hkl, st_skip (by first | assumption | exact isP_t (by omega)) (by assumption)]; first | done | rfl) | (rw [shortL_succ hkl, st_new (fun h => by first | exact absurd h.2 (by assumption) | exact nP h.1 (by assumption) | exact nPk h.1 (by omega)) (by first | exact .inl (by omega) | exact .inr (.inl (by assumption)) | exact .inr (.inr (by assumption))), List.length_append, List.flatMap_append]; rfl)) rfl (by omega) (by omega)
          · refine ExD.take (i := 11) rfl (by kernel_rfl) (pureVal_ok rfl) ((List.Sublist.refl _)) rfl rfl rfl ?_
            refine ExD.take (i := 12) rfl (by kernel_rfl) (pureVal_ok rfl) ((List.Sublist.refl _)) rfl rfl rfl ?_
            refine ExD.take (i := 13) rfl (by kernel_rfl) (pureVal_ok rfl) ((List.Sublist.refl _)) rfl rfl rfl ?_
            refine ExD.take (i := 14) rfl (by kernel_rfl) (fr_load rfl rfl rfl rfl (CellO.blk (i := 0) rfl rfl)) ((List.Sublist.refl _)) rfl rfl rfl ?_
            refine ExD.cmp_eql (i := 15) rfl (by kernel_rfl) rfl rfl rfl ((List.Sublist.refl _)) rfl rfl rfl (fun h31 => ?_) (fun h31 => ?_)
            · refine ExD.take (i := 16) rfl (by kernel_rfl) (pureVal_ok rfl) ((List.Sublist.refl _)) rfl rfl rfl ?_
              refine ExD.take (i := 17) rfl (by kernel_rfl) (pureVal_ok rfl) ((List.Sublist.refl _)) rfl rfl rfl ?_
              refine ExD.done (by kernel_rfl) ?_
              refine Ex.cond_t rfl ?_
              refine Ex.region (ExL.pures 1 rfl ?_)
              refine ExL.free (fr_loadN rfl rfl rfl rfl rfl (SegO.whole (i := 0) rfl)) rfl rfl rfl ?_
              refine ExL.op rfl (op_buildSlice (sz := 2) rfl rfl rfl rfl rfl rfl rfl rfl (by decide) rfl rfl rfl (fun r32 => ?_))
              refine ExL.op rfl (op_append (sz := 2) (bytes := 16) (i := 2) rfl rfl rfl rfl (Reads.row (i := 0) rfl) rfl (fun e => nomatch e) rfl rfl rfl rfl (by constructor <;> first | omega | (unfold maxLen; omega)) rfl rfl (fun A33 cA33 => ?_))
              refine ExL.pures 1 rfl ?_
              refine ExL.nil ?_
              refine Ex.region (ExL.pures 0 rfl ?_)
              refine ExL.free (by first | exact fr_add64 rfl rfl rfl (by omega) | exact fr_add rfl rfl rfl) rfl rfl rfl ?_
              refine ExL.pures 1 rfl ?_
              refine ExL.nil ?_
              refine HandA.of (k + 1) (A33) (cA33) 3 [2] ⟨(by first | (rw [hsame]; first | done | rfl) | (rw [shortL_succ hkl, st_skip (by first | assumption | exact isP_t (by omega)) (by assumption)]; first | done | rfl) | (rw [shortL_succ hkl, st_new (fun h => by first | exact absurd h.2 (by assumption) | exact nP h.1 (by assumption) | exact nPk h.1 (by omega)) (by first | exact .inl (by omega) | exact .inr (.inl (by assumption)) | exact .inr (.inr (by assumption))), List.length_append]; rfl)), rfl, trivial⟩ ⟨rfl, rfl, rfl, rfl, trivial⟩ (by first | (rw [hsame]; first | done | rfl) | (rw [shortL_succ hkl, st_skip (by first | assumption | exact isP_t (by omega)) (by assumption)]; first | done | rfl) | (rw [shortL_succ hkl, st_new (fun h => by first | exact absurd h.2 (by assumption) | exact nP h.1 (by assumption) | exact nPk h.1 (by omega)) (by first | exact .inl (by omega) | exact .inr (.inl (by assumption)) | exact .inr (.inr (by assumption))), List.length_append, List.flatMap_append]; rfl)) rfl (by omega) (by omega)
            · refine ExD.take (i := 16) rfl (by kernel_rfl) (pureVal_ok rfl) ((List.Sublist.refl _)) rfl rfl rfl ?_
              refine ExD.take (i := 17) rfl (by kernel_rfl) (pureVal_ok rfl) ((List.Sublist.refl _)) rfl rfl rfl ?_
              refine ExD.done (by kernel_rfl) ?_
              refine Ex.cond_f rfl ?_
              refine Ex.regSeq (ExL.pures 0 rfl ?_)
              refine ExL.free (fr_loadN rfl rfl rfl rfl rfl (SegO.whole (i := 0) rfl)) rfl rfl rfl ?_
              refine ExL.op rfl (op_ret rfl rfl rfl (c_isPulse (l.getD k zA)) (fun _ _ => trivial) rfl rfl (fun x35 hx35 => ?_))
              refine ExL.pures 1 rfl ?_
              refine ExL.nil ?_
              refine Ex.cond rfl (fun hb36 => ?_) (fun hb36 => ?_)
              · refine Ex.drawI [0] rfl rfl ?_
                refine ExD.take (i := 0) rfl (by kernel_rfl) (pureVal_ok rfl) ((List.Sublist.cons_cons _ (List.nil_sublist _))) rfl rfl rfl ?_
                refine ExD.take (i := 1) rfl (by kernel_rfl) (pureVal_ok rfl) ((List.Sublist.cons_cons _ (List.nil_sublist _))) rfl rfl rfl ?_
                refine ExD.take (i := 5) rfl (by kernel_rfl) (pureVal_ok rfl) ((List.Sublist.cons_cons _ (List.nil_sublist _))) rfl rfl rfl ?_
                refine ExD.take (i := 6) rfl (by kernel_rfl) (fr_load rfl rfl rfl rfl (CellO.blk (i := 0) rfl rfl)) ((List.Sublist.cons_cons _ (List.nil_sublist _))) rfl rfl rfl ?_
                refine ExD.op (i := 2) rfl (by kernel_rfl) rfl (Op1.of_free (fr_indexAddrR (sz := 2) 1 rfl rfl rfl rfl rfl rfl (by omega)) rfl rfl ⟨(List.Sublist.cons_cons _ (List.nil_sublist _)), ?_⟩)
                refine ExD.op (i := 3) rfl (by kernel_rfl) rfl (Op1.of_free (fr_fieldAddrR 1 rfl (by omega) rfl rfl rfl rfl rfl rfl) rfl rfl ⟨(List.Sublist.cons_cons _ (List.nil_sublist _)), ?_⟩)
                refine ExD.op (i := 4) rfl (by kernel_rfl) rfl (Op1.of_free (fr_load rfl rfl rfl rfl (cellJ (((shortL l k).length - 1)) (Reads.row (i := 1) rfl) encA_len zA 1 rfl (by omega) (by omega) rfl)) rfl rfl ⟨(List.Sublist.cons_cons _ (List.nil_sublist _)), ?_⟩)
                refine ExD.take (i := 7) rfl (by kernel_rfl) (by first | exact fr_add64 rfl rfl rfl (by omega) | exact fr_add rfl rfl rfl) ((List.Sublist.cons_cons _ (List.nil_sublist _))) rfl rfl rfl ?_
                refine ExD.op (i := 8) rfl (by kernel_rfl) rfl (Op1.of_free (fr_indexAddrR (sz := 2) 1 rfl rfl rfl rfl rfl rfl (by omega)) rfl rfl ⟨(List.Sublist.cons_cons _ (List.nil_sublist _)), ?_⟩)
                refine ExD.op (i := 9) rfl (by kernel_rfl) rfl (Op1.of_free (fr_fieldAddrR 1 rfl (by omega) rfl rfl rfl rfl rfl rfl) rfl rfl ⟨(List.Sublist.cons_cons _ (List.nil_sublist _)), ?_⟩)
                refine ExD.op (i := 10) rfl (by kernel_rfl) rfl (op_storeRowF (i := 1) rfl rfl rfl rfl rfl rfl rfl rfl (room_at encA_len (k := (shortL l k).length - 1) (q := 1) (by omega) (by first | omega | (simp; omega) | (simp; done)) rfl) (List.cons_ne_nil _ _) rfl (put_add hkl (fun h => by first | exact absurd h.2 (by assumption) | exact nP h.1 (by assumption) | exact nPk h.1 (by omega)) (by rintro (h | h | h) <;> first | omega | exact absurd h (by assumption)) (by first | assumption | exact isP_t (by omega)) (by first | omega | (simp; omega) | (simp; done))) ⟨(List.Sublist.cons_cons _ (List.nil_sublist _)), ?_⟩)
                have hsame := sh_same hkl (fun h => by first | exact absurd h.2 (by assumption) | exact nP h.1 (by assumption) | exact nPk h.1 (by omega)) (by rintro (h | h | h) <;> first | omega | exact absurd h (by assumption))
                refine ExD.done (by kernel_rfl) ?_
                refine Ex.region (ExL.pures 0 rfl ?_)
                refine ExL.free (by first | exact fr_add64 rfl rfl rfl (by omega) | exact fr_add rfl rfl rfl) rfl rfl rfl ?_
                refine ExL.pures 1 rfl ?_
                refine ExL.nil ?_
                refine HandA.of (k + 1) (A) (c) 2 [1] ⟨(by first | (rw [hsame]; first | done | rfl) | (rw [shortL_succ hkl, st_skip (by first | assumption | exact isP_t (by omega)) (by assumption)]; first | done | rfl) | (rw [shortL_succ hkl, st_new (fun h => by first | exact absurd h.2 (by assumption) | exact nP h.1 (by assumption) | exact nPk h.1 (by omega)) (by first | exact .inl (by omega) | exact .inr (.inl (by assumption)) | exact .inr (.inr (by assumption))), List.length_append]; rfl)), rfl, trivial⟩ ⟨rfl, rfl, rfl, rfl, trivial⟩ (by first | (rw [hsame]; first | done | rfl) | (rw [shortL_succ hkl, st_skip (by first | assumption | exact isP_t (by omega)) (by assumption)]; first | done | rfl) | (rw [shortL_succ hkl, st_new (fun h => by first | exact absurd h.2 (by assumption) | exact nP h.1 (by assumption) | exact nPk h.1 (by omega)) (by first | exact .inl (by omega) | exact .inr (.inl (by assumption)) | exact .inr (.inr (by assumption))), List.length_append, List.flatMap_append]; rfl)) rfl (by omega) (by omega)
              · refine Ex.region (ExL.pures 2 rfl ?_)
                refine ExL.free (fr_loadN rfl rfl rfl rfl rfl (SegO.whole (i := 0) rfl)) rfl rfl rfl ?_
                refine ExL.free (fr_indexAddrR (sz := 2) 1 rfl rfl rfl rfl rfl rfl (by omega)) rfl rfl rfl ?_
                refine ExL.op rfl (op_storeRowF (i := 1) rfl rfl rfl rfl rfl rfl rfl rfl (room encA_len (k := (shortL l k).length - 1) (by omega) (by omega) rfl) (List.cons_ne_nil _ _) rfl (put_put hkl (fun h => by first | exact absurd h.2 (by assumption) | exact nP h.1 (by assumption) | exact nPk h.1 (by omega)) (by rintro (h | h | h) <;> first | omega | exact absurd h (by assumption)) (by first | assumption | exact isP_f (by omega)) (by omega)) ?_)
                have hsame := sh_same hkl (fun h => by first | exact absurd h.2 (by assumption) | exact nP h.1 (by assumption) | exact nPk h.1 (by omega)) (by rintro (h | h | h) <;> first | omega | exact absurd h (by assumption))
                refine ExL.nil ?_
                refine Ex.region (ExL.pures 0 rfl ?_)
                refine ExL.free (by first | exact fr_add64 rfl rfl rfl (by omega) | exact fr_add rfl rfl rfl) rfl rfl rfl ?_
                refine ExL.pures 1 rfl ?_
                refine ExL.nil ?_
                refine HandA.of (k + 1) (A) (c) 2 [1] ⟨(by first | (rw [hsame]; first | done | rfl) | (rw [shortL_succ hkl, st_skip (by first | assumption | exact isP_t (by omega)) (by assumption)]; first | done | rfl) | (rw [shortL_succ hkl, st_new (fun h => by first | exact absurd h.2 (by assumption) | exact nP h.1 (by assumption) | exact nPk h.1 (by omega)) (by first | exact .inl (by omega) | exact .inr (.inl (by assumption)) | exact .inr (.inr (by assumption))), List.length_append]; rfl)), rfl, trivial⟩ ⟨rfl, rfl, rfl, rfl, trivial⟩ (by first | (rw [hsame]; first | done | rfl) | (rw [shortL_succ hkl, st_skip (by first | assumption | exact isP_t (by omega)) (by assumption)]; first | done | rfl) | (rw [shortL_succ hkl, st_new (fun h => by first | exact absurd h.2 (by assumption) | exact nP h.1 (by assumption) | exact nPk h.1 (by omega)) (by first | exact .inl (by omega) | exact .inr (.inl (by assumption)) | exact .inr (.inr (by assumption))), List.length_append, List.flatMap_append]; rfl)) rfl (by omega) (by omega)
    · refine ExL.nil ?_
      refine Ex.seq ?_
      refine Ex.cond_f rfl ?_
      refine Ex.exit ?_
      have hkn : k = l.length := (by omega)
      refine Ex.seq ?_
      refine Ex.regSeq (ExL.pures 1 rfl ?_)
      refine ExL.op rfl (op_ret rfl rfl rfl (c_slContainsFuncA (shortL l k) _ _ (by omega) 113 [] (fun _ => True) (fun _ _ _ _ => trivial) (big) (fun x => c_sh1 x)) (fun w' hw => ⟨Reads.get (Reads.row (i := 0) rfl) w' hw, trivial⟩) rfl rfl (fun x37 hx37 => ?_))
      refine ExL.nil ?_
      refine Ex.cond rfl (fun hb38 => ?_) (fun hb38 => ?_)
      · refine Ex.regSeq (ExL.pures 2 rfl ?_)
        refine ExL.nil ?_
        refine Ex.nilRow 26 2 ?_
        refine Ex.ret ?_
        refine RetQ.mk (none, 0) rfl (.tmp rfl (.tmp rfl .nil)) (t2 (by first | (rw [shk_bad (k := k) (by omega) (by assumption)]; first | done | rfl) | (rw [shk_long hbad (by assumption)]; first | done | rfl) | (rw [sh_bad (by assumption)]; first | done | rfl) | (rw [shk_big hkn haf (by assumption)]; first | done | rfl) | (rw [shk_ok hkn haf (by assumption)]; first | done | rfl) | (rw [shk_low hkn haf hI2]; first | done | rfl) | (rw [shk_over hkl haf (by rw [shortL_succ hkl]; exact over_chk (hva k hkl) (fun h => by first | exact absurd h.2 (by assumption) | exact nP h.1 (by assumption) | exact nPk h.1 (by omega)) (by rintro (h | h | h) <;> first | omega | exact absurd h (by assumption)) (by rw [← shortL_succ hkl]; assumption))]; first | done | rfl)) (by first | (rw [shk_bad (k := k) (by omega) (by assumption)]; first | done | rfl) | (rw [shk_long hbad (by assumption)]; first | done | rfl) | (rw [sh_bad (by assumption)]; first | done | rfl) | (rw [shk_big hkn haf (by assumption)]; first | done | rfl) | (rw [shk_ok hkn haf (by assumption)]; first | done | rfl) | (rw [shk_low hkn haf hI2]; first | done | rfl) | (rw [shk_over hkl haf (by rw [shortL_succ hkl]; exact over_chk (hva k hkl) (fun h => by first | exact absurd h.2 (by assumption) | exact nP h.1 (by assumption) | exact nPk h.1 (by omega)) (by rintro (h | h | h) <;> first | omega | exact absurd h (by assumption)) (by rw [← shortL_succ hkl]; assumption))]; first | done | rfl))) [0] (by first | (rw [shk_bad (k := k) (by omega) (by assumption)]; first | done | rfl) | (rw [shk_long hbad (by assumption)]; first | done | rfl) | (rw [sh_bad (by assumption)]; first | done | rfl) | (rw [shk_big hkn haf (by assumption)]; first | done | rfl) | (rw [shk_ok hkn haf (by assumption)]; first | done | rfl) | (rw [shk_low hkn haf hI2]; first | done | rfl) | (rw [shk_over hkl haf (by rw [shortL_succ hkl]; exact over_chk (hva k hkl) (fun h => by first | exact absurd h.2 (by assumption) | exact nP h.1 (by assumption) | exact nPk h.1 (by omega)) (by rintro (h | h | h) <;> first | omega | exact absurd h (by assumption)) (by rw [← shortL_succ hkl]; assumption))]; first | done | rfl)) rfl (trivial)
      · refine Ex.skip ?_
        refine Ex.regSeq (ExL.pures 3 rfl ?_)
        refine ExL.nil ?_
        refine Ex.ret ?_
        refine RetQ.mk (A, c) rfl (.tmp rfl (.tmp rfl .nil)) (t2 (by first | (rw [shk_bad (k := k) (by omega) (by assumption)]; first | done | rfl) | (rw [shk_long hbad (by assumption)]; first | done | rfl) | (rw [sh_bad (by assumption)]; first | done | rfl) | (rw [shk_big hkn haf (by assumption)]; first | done | rfl) | (rw [shk_ok hkn haf (by assumption)]; first | done | rfl) | (rw [shk_low hkn haf hI2]; first | done | rfl) | (rw [shk_over hkl haf (by rw [shortL_succ hkl]; exact over_chk (hva k hkl) (fun h => by first | exact absurd h.2 (by assumption) | exact nP h.1 (by assumption) | exact nPk h.1 (by omega)) (by rintro (h | h | h) <;> first | omega | exact absurd h (by assumption)) (by rw [← shortL_succ hkl]; assumption))]; first | done | rfl)) (by first | (rw [shk_bad (k := k) (by omega) (by assumption)]; first | done | rfl) | (rw [shk_long hbad (by assumption)]; first | done | rfl) | (rw [sh_bad (by assumption)]; first | done | rfl) | (rw [shk_big hkn haf (by assumption)]; first | done | rfl) | (rw [shk_ok hkn haf (by assumption)]; first | done | rfl) | (rw [shk_low hkn haf hI2]; first | done | rfl) | (rw [shk_over hkl haf (by rw [shortL_succ hkl]; exact over_chk (hva k hkl) (fun h => by first | exact absurd h.2 (by assumption) | exact nP h.1 (by assumption) | exact nPk h.1 (by omega)) (by rintro (h | h | h) <;> first | omega | exact absurd h (by assumption)) (by rw [← shortL_succ hkl]; assumption))]; first | done | rfl))) [0] (by first | (rw [shk_bad (k := k) (by omega) (by assumption)]; first | done | rfl) | (rw [shk_long hbad (by assumption)]; first | done | rfl) | (rw [sh_bad (by assumption)]; first | done | rfl) | (rw [shk_big hkn haf (by assumption)]; first | done | rfl) | (rw [shk_ok hkn haf (by assumption)]; first | done | rfl) | (rw [shk_low hkn haf hI2]; first | done | rfl) | (rw [shk_over hkl haf (by rw [shortL_succ hkl]; exact over_chk (hva k hkl) (fun h => by first | exact absurd h.2 (by assumption) | exact nP h.1 (by assumption) | exact nPk h.1 (by omega)) (by rintro (h | h | h) <;> first | omega | exact absurd h (by assumption)) (by rw [← shortL_succ hkl]; assumption))]; first | done | rfl)) rfl (trivial)
theorem e_43 : Enters Try.prog 43 := Enters.of Try.func43 rfl
theorem c_sShortActs (l : List VAct) (Al : Option Addr) (cl : Nat) (hll : l.length ≤ maxLen) : Ret Try.prog 43 [.slice Al l.length cl] (fun w => Rd w Al (l.flatMap encA)) (fun x : Option Addr × Nat => .tuple #[.slice x.1 (shortV l).1.length x.2, .int .i64 (shortV l).2]) (fun x => [.row (.slice x.1 ((shortV l).1).length x.2) 26 2 ((shortV l).1).length (((shortV l).1).flatMap encA)]) (fun x => True) := by
  refine Ret.of e_43 Try.func43 rfl Try.ntmps43 rfl rfl (fun w hpre => ?_)
  have hl := hpre.base
  have hm0 : maxLen = 9223372036854775807 := rfl
  refine Ex.regSeq (ExL.pures 2 rfl ?_)
  refine ExL.nil ?_
  refine Ex.seq ?_
  refine Ex.regSeq (ExL.pures 1 rfl ?_)
  refine ExL.nil ?_
  refine Ex.block ?_
  refine Ex.loopK (X := Nat) (fun k => [(4, .int .i64 k)]) (fun k => []) (fun k => k ≤ l.length ∧ ∀ i, i < k → validAct (l.getD i zA) = true) (fun k => l.length - k) 0 [(0, _)] [] 0 [] ⟨rfl, trivial⟩ ⟨rfl, trivial⟩ (rfl) rfl ⟨Nat.zero_le _, fun i hi => by omega⟩ (fun k hI => ?_)
  have hI : k ≤ l.length ∧ ∀ i, i < k → validAct (l.getD i zA) = true := hI
  obtain ⟨hI, hall⟩ := hI
  refine Ex.seq ?_
  refine Ex.regSeq (ExL.pures 3 rfl ?_)
  refine ExL.lss rfl rfl rfl rfl rfl rfl (fun h1 => ?_) (fun h1 => ?_)
  · refine ExL.nil ?_
    refine Ex.cond_t rfl ?_
    refine Ex.skip ?_
    refine Ex.seq ?_
    refine Ex.block ?_
    refine Ex.regSeq (ExL.pures 2 rfl ?_)
    refine ExL.free (fr_indexAddrF (Reads.old hl) encA_len rfl rfl rfl rfl rfl rfl (by omega)) rfl rfl rfl ?_
    refine ExL.free (fr_loadN rfl rfl rfl rfl rfl (by first | exact segN (Reads.old hl) encA_len rfl zA (by omega) | exact segF (Reads.old hl) encA_len rfl zA (by omega))) rfl rfl rfl ?_
    refine ExL.op rfl (op_ret rfl rfl rfl (c_l07Act _) (fun _ _ => trivial) rfl rfl (fun x2 hx2 => ?_))
    refine ExL.pures 1 rfl ?_
    refine ExL.nil ?_
    refine Ex.cond rfl (fun hb3 => ?_) (fun hb3 => ?_)
    · replace hb3 := nb_t hb3
      refine Ex.regSeq (ExL.pures 0 rfl ?_)
      refine ExL.op rfl (op_buildSlice (sz := 2) rfl rfl rfl rfl rfl rfl rfl rfl (by decide) rfl rfl rfl (fun r4 => ?_))
      refine ExL.pures 2 rfl ?_
      refine ExL.nil ?_
      refine Ex.ret ?_
      refine RetQ.mk ((some ⟨r4, 0, none⟩), 0) rfl (.tmp rfl (.tmp rfl .nil)) (t2 (by first | (rw [shk_bad (k := k) (by omega) (by assumption)]; first | done | rfl) | (rw [shk_long hbad (by assumption)]; first | done | rfl) | (rw [sh_bad (by assumption)]; first | done | rfl) | (rw [shk_big hkn haf (by assumption)]; first | done | rfl) | (rw [shk_ok hkn haf (by assumption)]; first | done | rfl) | (rw [shk_low hkn haf hI2]; first | done | rfl) | (rw [shk_over hkl haf (by rw [shortL_succ hkl]; exact over_chk (hva k hkl) (fun h => by first | exact absurd h.2 (by assumption) | exact nP h.1 (by assumption) | exact nPk h.1 (by omega)) (by rintro (h | h | h) <;> first | omega | exact absurd h (by assumption)) (by rw [← shortL_succ hkl]; assumption))]; first | done | rfl)) (by first | (rw [shk_bad (k := k) (by omega) (by assumption)]; first | done | rfl) | (rw [shk_long hbad (by assumption)]; first | done | rfl) | (rw [sh_bad (by assumption)]; first | done | rfl) | (rw [shk_big hkn haf (by assumption)]; first | done | rfl) | (rw [shk_ok hkn haf (by assumption)]; first | done | rfl) | (rw [shk_low hkn haf hI2]; first | done | rfl) | (rw [shk_over hkl haf (by rw [shortL_succ hkl]; exact over_chk (hva k hkl) (fun h => by first | exact absurd h.2 (by assumption) | exact nP h.1 (by assumption) | exact nPk h.1 (by omega)) (by rintro (h | h | h) <;> first | omega | exact absurd h (by assumption)) (by rw [← shortL_succ hkl]; assumption))]; first | done | rfl))) [0] (by first | (rw [shk_bad (k := k) (by omega) (by assumption)]; first | done | rfl) | (rw [shk_long hbad (by assumption)]; first | done | rfl) | (rw [sh_bad (by assumption)]; first | done | rfl) | (rw [shk_big hkn haf (by assumption)]; first | done | rfl) | (rw [shk_ok hkn haf (by assumption)]; first | done | rfl) | (rw [shk_low hkn haf hI2]; first | done | rfl) | (rw [shk_over hkl haf (by rw [shortL_succ hkl]; exact over_chk (hva k hkl) (fun h => by first | exact absurd h.2 (by assumption) | exact nP h.1 (by assumption) | exact nPk h.1 (by omega)) (by rintro (h | h | h) <;> first | omega | exact absurd h (by assumption)) (by rw [← shortL_succ hkl]; assumption))]; first | done | rfl)) rfl (trivial)
    · replace hb3 := nb_f hb3
      refine Ex.skip ?_
      refine Ex.region (ExL.pures 1 rfl ?_)
      refine ExL.free (by first | exact fr_add64 rfl rfl rfl (by omega) | exact fr_add rfl rfl rfl) rfl rfl rfl ?_
      refine ExL.pures 1 rfl ?_
      refine ExL.nil ?_
      refine Hand.mk (k + 1) 0 [] ⟨rfl, trivial⟩ ⟨rfl, trivial⟩ (rfl) rfl (⟨by omega, all_snoc hall (by assumption)⟩) (by omega)
  · refine ExL.nil ?_
    refine Ex.cond_f rfl ?_
    refine Ex.exit ?_
    have hbad := any_bad_f (by omega) hall
    clear hall hI
    refine Ex.seq ?_
    refine Ex.regSeq (ExL.pures 2 rfl ?_)
    refine ExL.gtr rfl rfl rfl rfl rfl rfl (fun h5 => ?_) (fun h5 => ?_)
    · refine ExL.nil ?_
      refine Ex.cond_t rfl ?_
      refine Ex.regSeq (ExL.pures 0 rfl ?_)
      refine ExL.op rfl (op_buildSlice (sz := 2) rfl rfl rfl rfl rfl rfl rfl rfl (by decide) rfl rfl rfl (fun r6 => ?_))
      refine ExL.pures 2 rfl ?_
      refine ExL.nil ?_
      refine Ex.ret ?_
      refine RetQ.mk ((some ⟨r6, 0, none⟩), 0) rfl (.tmp rfl (.tmp rfl .nil)) (t2 (by first | (rw [shk_bad (k := k) (by omega) (by assumption)]; first | done | rfl) | (rw [shk_long hbad (by assumption)]; first | done | rfl) | (rw [sh_bad (by assumption)]; first | done | rfl) | (rw [shk_big hkn haf (by assumption)]; first | done | rfl) | (rw [shk_ok hkn haf (by assumption)]; first | done | rfl) | (rw [shk_low hkn haf hI2]; first | done | rfl) | (rw [shk_over hkl haf (by rw [shortL_succ hkl]; exact over_chk (hva k hkl) (fun h => by first | exact absurd h.2 (by assumption) | exact nP h.1 (by assumption) | exact nPk h.1 (by omega)) (by rintro (h | h | h) <;> first | omega | exact absurd h (by assumption)) (by rw [← shortL_succ hkl]; assumption))]; first | done | rfl)) (by first | (rw [shk_bad (k := k) (by omega) (by assumption)]; first | done | rfl) | (rw [shk_long hbad (by assumption)]; first | done | rfl) | (rw [sh_bad (by assumption)]; first | done | rfl) | (rw [shk_big hkn haf (by assumption)]; first | done | rfl) | (rw [shk_ok hkn haf (by assumption)]; first | done | rfl) | (rw [shk_low hkn haf hI2]; first | done | rfl) | (rw [shk_over hkl haf (by rw [shortL_succ hkl]; exact over_chk (hva k hkl) (fun h => by first | exact absurd h.2 (by assumption) | exact nP h.1 (by assumption) | exact nPk h.1 (by omega)) (by rintro (h | h | h) <;> first | omega | exact absurd h (by assumption)) (by rw [← shortL_succ hkl]; assumption))]; first | done | rfl))) [0] (by first | (rw [shk_bad (k := k) (by omega) (by assumption)]; first | done | rfl) | (rw [shk_long hbad (by assumption)]; first | done | rfl) | (rw [sh_bad (by assumption)]; first | done | rfl) | (rw [shk_big hkn haf (by assumption)]; first | done | rfl) | (rw [shk_ok hkn haf (by assumption)]; first | done | rfl) | (rw [shk_low hkn haf hI2]; first | done | rfl) | (rw [shk_over hkl haf (by rw [shortL_succ hkl]; exact over_chk (hva k hkl) (fun h => by first | exact absurd h.2 (by assumption) | exact nP h.1 (by assumption) | exact nPk h.1 (by omega)) (by rintro (h | h | h) <;> first | omega | exact absurd h (by assumption)) (by rw [← shortL_succ hkl]; assumption))]; first | done | rfl)) rfl (trivial)
    · refine ExL.nil ?_
      refine Ex.cond_f rfl ?_
      refine Ex.skip ?_
      refine Ex.regSeq (ExL.pures 0 rfl ?_)
      refine ExL.op rfl (op_buildSlice (sz := 2) rfl rfl rfl rfl rfl rfl rfl rfl (by decide) rfl rfl rfl (fun r7 => ?_))
      refine ExL.pures 1 rfl ?_
      refine ExL.nil ?_
      refine Ex.seq ?_
      refine Ex.regSeq (ExL.pures 1 rfl ?_)
      refine ExL.nil ?_
      refine Ex.block ?_
      have haf : ¬ afault l ≠ 0 := af_zero' hbad (by assumption)
      obtain ⟨hva, h60⟩ := af_zero haf
      refine Ex.loopA (fun k A c => [(5, .slice A (shortL l k).length c), (6, .int .i64 k)]) (fun k A c => [.row (.slice A (shortL l k).length c) 26 2 (shortL l k).length ((shortL l k).flatMap encA)]) (fun k => k ≤ l.length ∧ Low 1000000000000 (shortL l k)) (fun k => l.length - k) 0 ((some ⟨r7, 0, none⟩)) (0) [(0, _)] [] 1 [0] ⟨rfl, rfl, trivial⟩ ⟨rfl, trivial⟩ (rfl) rfl ⟨Nat.zero_le _, fun x hx => by simp [shortL] at hx⟩ (fun k A c hI => ?_)
      have hI : k ≤ l.length ∧ Low 1000000000000 (shortL l k) := hI
      obtain ⟨hI, hI2⟩ := hI
      have hsl := shortL_len l k
      have hb1 := hI2.any (by omega) ((shortL l k).length - 1)
      refine Ex.seq ?_
      refine Ex.regSeq (ExL.pures 3 rfl ?_)
      refine ExL.lss rfl rfl rfl rfl rfl rfl (fun h8 => ?_) (fun h8 => ?_)
      · refine ExL.nil ?_
        refine Ex.cond_t rfl ?_
        refine Ex.skip ?_
        refine Ex.seq ?_
        refine Ex.block ?_
        have hkl : k < l.length := (by omega)
        obtain ⟨hv1, hv2, hv3⟩ := valid_n (hva k hkl)
        refine Ex.regSeq (ExL.pures 2 rfl ?_)
        refine ExL.free (fr_indexAddrF (Reads.old hl) encA_len rfl rfl rfl rfl rfl rfl (by omega)) rfl rfl rfl ?_
        refine ExL.free (fr_loadN rfl rfl rfl rfl rfl (by first | exact segN (Reads.old hl) encA_len rfl zA (by omega) | exact segF (Reads.old hl) encA_len rfl zA (by omega))) rfl rfl rfl ?_
        refine ExL.op rfl (op_alloc rfl rfl rfl rfl rfl (fun b9 => ?_))
        refine ExL.op rfl (op_storeC (i := 0) rfl rfl rfl rfl rfl rfl rfl rfl rfl rfl ?_)
        refine ExL.nil ?_
        refine Ex.regSeq (ExL.pures 1 rfl ?_)
        refine ExL.free (fr_load rfl rfl rfl rfl (CellO.blk (i := 0) rfl rfl)) rfl rfl rfl ?_
        refine ExL.eql rfl rfl rfl rfl rfl rfl (fun h10 => ?_) (fun h10 => ?_)
        · refine ExL.pures 6 rfl ?_
          refine ExL.nil ?_
          refine Ex.seq ?_
          refine Ex.regSeq (ExL.pures 3 rfl ?_)
          refine ExL.free (fr_load rfl rfl rfl rfl (CellO.blk (i := 0) rfl rfl)) rfl rfl rfl ?_
          refine ExL.eql rfl rfl rfl rfl rfl rfl (fun h11 => ?_) (fun h11 => ?_)
          · refine ExL.pures 1 rfl ?_
            refine ExL.nil ?_
            refine Ex.cond_t rfl ?_
            refine Ex.exit ?_
            refine Ex.region (ExL.pures 1 rfl ?_)
            refine ExL.free (by first | exact fr_add64 rfl rfl rfl (by omega) | exact fr_add rfl rfl rfl) rfl rfl rfl ?_
            refine ExL.pures 1 rfl ?_
            refine ExL.nil ?_
            refine HandA.of (k + 1) (A) (c) 2 [1] ⟨(by first | (rw [hsame]; first | done | rfl) | (rw [shortL_succ hkl, st_skip (by first | assumption | exact isP_t (by omega)) (by assumption)]; first | done | rfl) | (rw [shortL_succ hkl, st_new (fun h => by first | exact absurd h.2 (by assumption) | exact nP h.1 (by assumption) | exact nPk h.1 (by omega)) (by first | exact .inl (by omega) | exact .inr (.inl (by assumption)) | exact .inr (.inr (by assumption))), List.length_append]; rfl)), rfl, trivial⟩ ⟨rfl, trivial⟩ (by first | (rw [hsame]; first | done | rfl) | (rw [shortL_succ hkl, st_skip (by first | assumption | exact isP_t (by omega)) (by assumption)]; first | done | rfl) | (rw [shortL_succ hkl, st_new (fun h => by first | exact absurd h.2 (by assumption) | exact nP h.1 (by assumption) | exact nPk h.1 (by omega)) (by first | exact .inl (by omega) | exact .inr (.inl (by assumption)) | exact .inr (.inr (by assumption))), List.length_append, List.flatMap_append]; rfl)) rfl (⟨by omega, by rw [shortL_succ hkl]; exact low_next hI2 (hva k hkl) (by first | exact .inl ⟨(by first | assumption | exact isP_t (by omega)), by assumption⟩ | exact .inr (.inl (by first | exact .inl (by omega) | exact .inr (.inl (by assumption)) | exact .inr (.inr (by assumption)))) | exact .inr (.inr (by rw [← shortL_succ hkl]; assumption)))⟩) (by omega)
          · refine ExL.pures 1 rfl ?_
            refine ExL.nil ?_
            refine Ex.cond_f rfl ?_
            refine Ex.skip ?_
            refine Ex.regSeq (ExL.pures 2 rfl ?_)
            refine ExL.free (by first | exact fr_sub64 rfl rfl rfl (by omega) | exact fr_sub rfl rfl rfl) rfl rfl rfl ?_
            refine ExL.pures 1 rfl ?_
            refine ExL.nil ?_
            refine Ex.seq ?_
            refine Ex.drawSeqM rfl ?_
            refine ExD.take (i := 0) rfl (by kernel_rfl) (pureVal_ok rfl) ((List.Sublist.refl _)) rfl rfl rfl ?_
            refine ExD.cmp_lss (i := 1) rfl (by kernel_rfl) rfl rfl rfl ((List.Sublist.refl _)) rfl rfl rfl (fun h12 => ?_) (fun h12 => ?_)
            · refine ExD.take (i := 2) rfl (by kernel_rfl) (pureVal_ok rfl) ((List.Sublist.refl _)) rfl rfl rfl ?_
              refine ExD.pass (i := 3) rfl (by kernel_rfl) ((List.Sublist.refl _)) rfl rfl rfl ?_
              refine ExD.pass (i := 4) rfl (by kernel_rfl) ((List.Sublist.refl _)) rfl rfl rfl ?_
              refine ExD.pass (i := 5) rfl (by kernel_rfl) ((List.Sublist.refl _)) rfl rfl rfl ?_
              refine ExD.pass (i := 6) rfl (by kernel_rfl) ((List.Sublist.refl _)) rfl rfl rfl ?_
              refine ExD.pass (i := 7) rfl (by kernel_rfl) ((List.Sublist.refl _)) rfl rfl rfl ?_
              refine ExD.pass (i := 8) rfl (by kernel_rfl) ((List.Sublist.refl _)) rfl rfl rfl ?_
              refine ExD.pass (i := 9) rfl (by kernel_rfl) ((List.Sublist.refl _)) rfl rfl rfl ?_
              refine ExD.pass (i := 10) rfl (by kernel_rfl) ((List.Sublist.refl _)) rfl rfl rfl ?_
              refine ExD.take (i := 11) rfl (by kernel_rfl) (pureVal_ok rfl) ((List.Sublist.refl _)) rfl rfl rfl ?_
              refine ExD.take (i := 12) rfl (by kernel_rfl) (pureVal_ok rfl) ((List.Sublist.refl _)) rfl rfl rfl ?_
              refine ExD.pass (i := 13) rfl (by kernel_rfl) ((List.Sublist.refl _)) rfl rfl rfl ?_
              refine ExD.pass (i := 14) rfl (by kernel_rfl) ((List.Sublist.refl _)) rfl rfl rfl ?_
              refine ExD.pass (i := 15) rfl (by kernel_rfl) ((List.Sublist.refl _)) rfl rfl rfl ?_
              refine ExD.take (i := 16) rfl (by kernel_rfl) (pureVal_ok rfl) ((List.Sublist.refl _)) rfl rfl rfl ?_
              refine ExD.done (by kernel_rfl) ?_
              refine Ex.cond_t rfl ?_
              refine Ex.regSeq (ExL.pures 1 rfl ?_)
              refine ExL.free (fr_loadN rfl rfl rfl rfl rfl (SegO.whole (i := 0) rfl)) rfl rfl rfl ?_
              refine ExL.op rfl (op_buildSlice (sz := 2) rfl rfl rfl rfl rfl rfl rfl rfl (by decide) rfl rfl rfl (fun r13 => ?_))
              refine ExL.op rfl (op_append (sz := 2) (bytes := 16) (i := 2) rfl rfl rfl rfl (Reads.row (i := 0) rfl) rfl (fun e => nomatch e) rfl rfl rfl rfl (by constructor <;> first | omega | (unfold maxLen; omega)) rfl rfl (fun A14 cA14 => ?_))
              refine ExL.pures 1 rfl ?_
              refine ExL.nil ?_
              refine Ex.exit ?_
              refine Ex.region (ExL.pures 1 rfl ?_)
              refine ExL.free (by first | exact fr_add64 rfl rfl rfl (by omega) | exact fr_add rfl rfl rfl) rfl rfl rfl ?_
              refine ExL.pures 1 rfl ?_
              refine ExL.nil ?_
              refine HandA.of (k + 1) (A14) (cA14) 3 [2] ⟨(by first | (rw [hsame]; first | done | rfl) | (rw [shortL_succ hkl, st_skip (by first | assumption | exact isP_t (by omega)) (by assumption)]; first | done | rfl) | (rw [shortL_succ hkl, st_new (fun h => by first | exact absurd h.2 (by assumption) | exact nP h.1 (by assumption) | exact nPk h.1 (by omega)) (by first | exact .inl (by omega) | exact .inr (.inl (by assumption)) | exact .inr (.inr (by assumption))), List.length_append]; rfl)), rfl, trivial⟩ ⟨rfl, trivial⟩ (by first | (rw [hsame]; first | done | rfl) | (rw [shortL_succ hkl, st_skip (by first | assumption | exact isP_t (by omega)) (by assumption)]; first | done | rfl) | (rw [shortL_succ hkl, st_new (fun h => by first | exact absurd h.2 (by assumption) | exact nP h.1 (by assumption) | exact nPk h.1 (by omega)) (by first | exact .inl (by omega) | exact .inr (.inl (by assumption)) | exact .inr (.inr (by assumption))), List.length_append, List.flatMap_append]; rfl)) rfl (⟨by omega, by rw [shortL_succ hkl]; exact low_next hI2 (hva k hkl) (by first | exact .inl ⟨(by first | assumption | exact isP_t (by omega)), by assumption⟩ | exact .inr (.inl (by first | exact .inl (by omega) | exact .inr (.inl (by assumption)) | exact .inr (.inr (by assumption)))) | exact .inr (.inr (by rw [← shortL_succ hkl]; assumption)))⟩) (by omega)
            · refine ExD.take (i := 2) rfl (by kernel_rfl) (pureVal_ok rfl) ((List.Sublist.refl _)) rfl rfl rfl ?_
              refine ExD.take (i := 3) rfl (by kernel_rfl) (pureVal_ok rfl) ((List.Sublist.refl _)) rfl rfl rfl ?_
              refine ExD.take (i := 4) rfl (by kernel_rfl) (pureVal_ok rfl) ((List.Sublist.refl _)) rfl rfl rfl ?_
              refine ExD.take (i := 5) rfl (by kernel_rfl) (fr_indexAddrR (sz := 2) 1 rfl rfl rfl rfl rfl rfl (by omega)) ((List.Sublist.refl _)) rfl rfl rfl ?_
              refine ExD.take (i := 6) rfl (by kernel_rfl) (fr_fieldAddrR 1 rfl (by omega) rfl rfl rfl rfl rfl rfl) ((List.Sublist.refl _)) rfl rfl rfl ?_
              refine ExD.take (i := 7) rfl (by kernel_rfl) (fr_load rfl rfl rfl rfl (cellJ (((shortL l k).length - 1)) (Reads.row (i := 1) rfl) encA_len zA 0 rfl (by omega) (by omega) rfl)) ((List.Sublist.refl _)) rfl rfl rfl ?_
              refine ExD.take (i := 8) rfl (by kernel_rfl) (pureVal_ok rfl) ((List.Sublist.refl _)) rfl rfl rfl ?_
              refine ExD.take (i := 9) rfl (by kernel_rfl) (fr_load rfl rfl rfl rfl (CellO.blk (i := 0) rfl rfl)) ((List.Sublist.refl _)) rfl rfl rfl ?_
              refine ExD.cmp_neq (i := 10) rfl (by kernel_rfl) rfl rfl rfl ((List.Sublist.refl _)) rfl rfl rfl (fun h16 => ?_) (fun h16 => ?_)
              · refine ExD.take (i := 11) rfl (by kernel_rfl) (pureVal_ok rfl) ((List.Sublist.refl _)) rfl rfl rfl ?_
                refine ExD.take (i := 12) rfl (by kernel_rfl) (pureVal_ok rfl) ((List.Sublist.refl _)) rfl rfl rfl ?_
                refine ExD.pass (i := 13) rfl (by kernel_rfl) ((List.Sublist.refl _)) rfl rfl rfl ?_
                refine ExD.pass (i := 14) rfl (by kernel_rfl) ((List.Sublist.refl _)) rfl rfl rfl ?_
                refine ExD.pass (i := 15) rfl (by kernel_rfl) ((List.Sublist.refl _)) rfl rfl rfl ?_
                refine ExD.take (i := 16) rfl (by kernel_rfl) (pureVal_ok rfl) ((List.Sublist.refl _)) rfl rfl rfl ?_
                refine ExD.done (by kernel_rfl) ?_
                refine Ex.cond_t rfl ?_
                refine Ex.regSeq (ExL.pures 1 rfl ?_)
                refine ExL.free (fr_loadN rfl rfl rfl rfl rfl (SegO.whole (i := 0) rfl)) rfl rfl rfl ?_
                refine ExL.op rfl (op_buildSlice (sz := 2) rfl rfl rfl rfl rfl rfl rfl rfl (by decide) rfl rfl rfl (fun r17 => ?_))
                refine ExL.op rfl (op_append (sz := 2) (bytes := 16) (i := 2) rfl rfl rfl rfl (Reads.row (i := 0) rfl) rfl (fun e => nomatch e) rfl rfl rfl rfl (by constructor <;> first | omega | (unfold maxLen; omega)) rfl rfl (fun A18 cA18 => ?_))
                refine ExL.pures 1 rfl ?_
                refine ExL.nil ?_
                refine Ex.exit ?_
                refine Ex.region (ExL.pures 1 rfl ?_)
                refine ExL.free (by first | exact fr_add64 rfl rfl rfl (by omega) | exact fr_add rfl rfl rfl) rfl rfl rfl ?_
                refine ExL.pures 1 rfl ?_
                refine ExL.nil ?_
                refine HandA.of (k + 1) (A18) (cA18) 3 [2] ⟨(by first | (rw [hsame]; first | done | rfl) | (rw [shortL_succ hkl, st_skip (by first | assumption | exact isP_t (by omega)) (by assumption)]; first | done | rfl) | (rw [shortL_succ hkl, st_new (fun h => by first | exact absurd h.2 (by assumption) | exact nP h.1 (by assumption) | exact nPk h.1 (by omega)) (by first | exact .inl (by omega) | exact .inr (.inl (by assumption)) | exact .inr (.inr (by assumption))), List.length_append]; rfl)), rfl, trivial⟩ ⟨rfl, trivial⟩ (by first | (rw [hsame]; first | done | rfl) | (rw [shortL_succ hkl, st_skip (by first | assumption | exact isP_t (by omega)) (by assumption)]; first | done | rfl) | (rw [shortL_succ hkl, st_new (fun h => by first | exact absurd h.2 (by assumption) | exact nP h.1 (by assumption) | exact nPk h.1 (by omega)) (by first | exact .inl (by omega) | exact .inr (.inl (by assumption)) | exact .inr (.inr (by assumption))), List.length_append, List.flatMap_append]; rfl)) rfl (⟨by omega, by rw [shortL_succ hkl]; exact low_next hI2 (hva k hkl) (by first | exact .inl ⟨(by first | assumption | exact isP_t (by omega)), by assumption⟩ | exact .inr (.inl (by first | exact .inl (by omega) | exact .inr (.inl (by assumption)) | exact .inr (.inr (by assumption)))) | exact .inr (.inr (by rw [← shortL_succ hkl]; assumption)))⟩) (by omega)
              · refine ExD.take (i := 11) rfl (by kernel_rfl) (pureVal_ok rfl) ((List.Sublist.refl _)) rfl rfl rfl ?_
                refine ExD.take (i := 12) rfl (by kernel_rfl) (pureVal_ok rfl) ((List.Sublist.refl _)) rfl rfl rfl ?_
                refine ExD.take (i := 13) rfl (by kernel_rfl) (pureVal_ok rfl) ((List.Sublist.refl _)) rfl rfl rfl ?_
                refine ExD.take (i := 14) rfl (by kernel_rfl) (fr_load rfl rfl rfl rfl (CellO.blk (i := 0) rfl rfl)) ((List.Sublist.refl _)) rfl rfl rfl ?_
                refine ExD.cmp_eql (i := 15) rfl (by kernel_rfl) rfl rfl rfl ((List.Sublist.refl _)) rfl rfl rfl (fun h20 => ?_) (fun h20 => ?_)
                · refine ExD.take (i := 16) rfl (by kernel_rfl) (pureVal_ok rfl) ((List.Sublist.refl _)) rfl rfl rfl ?_
                  refine ExD.done (by kernel_rfl) ?_
                  refine Ex.cond_t rfl ?_
                  refine Ex.regSeq (ExL.pures 1 rfl ?_)
                  refine ExL.free (fr_loadN rfl rfl rfl rfl rfl (SegO.whole (i := 0) rfl)) rfl rfl rfl ?_
                  refine ExL.op rfl (op_buildSlice (sz := 2) rfl rfl rfl rfl rfl rfl rfl rfl (by decide) rfl rfl rfl (fun r21 => ?_))
                  refine ExL.op rfl (op_append (sz := 2) (bytes := 16) (i := 2) rfl rfl rfl rfl (Reads.row (i := 0) rfl) rfl (fun e => nomatch e) rfl rfl rfl rfl (by constructor <;> first | omega | (unfold maxLen; omega)) rfl rfl (fun A22 cA22 => ?_))
                  refine ExL.pures 1 rfl ?_
                  refine ExL.nil ?_
                  refine Ex.exit ?_
                  refine Ex.region (ExL.pures 1 rfl ?_)
                  refine ExL.free (by first | exact fr_add64 rfl rfl rfl (by omega) | exact fr_add rfl rfl rfl) rfl rfl rfl ?_
                  refine ExL.pures 1 rfl ?_
                  refine ExL.nil ?_
                  refine HandA.of (k + 1) (A22) (cA22) 3 [2] ⟨(by first | (rw [hsame]; first | done | rfl) | (rw [shortL_succ hkl, st_skip (by first | assumption | exact isP_t (by omega)) (by assumption)]; first | done | rfl) | (rw [shortL_succ hkl, st_new (fun h => by first | exact absurd h.2 (by assumption) | exact nP h.1 (by assumption) | exact nPk h.1 (by omega)) (by first | exact .inl (by omega) | exact .inr (.inl (by assumption)) | exact .inr (.inr (by assumption))), List.length_append]; rfl)), rfl, trivial⟩ ⟨rfl, trivial⟩ (by first | (rw [hsame]; first | done | rfl) | (rw [shortL_succ hkl, st_skip (by first | assumption | exact isP_t (by omega)) (by assumption)]; first | done | rfl) | (rw [shortL_succ hkl, st_new (fun h => by first | exact absurd h.2 (by assumption) | exact nP h.1 (by assumption) | exact nPk h.1 (by omega)) (by first | exact .inl (by omega) | exact .inr (.inl (by assumption)) | exact .inr (.inr (by assumption))), List.length_append, List.flatMap_append]; rfl)) rfl (⟨by omega, by rw [shortL_succ hkl]; exact low_next hI2 (hva k hkl) (by first | exact .inl ⟨(by first | assumption | exact isP_t (by omega)), by assumption⟩ | exact .inr (.inl (by first | exact .inl (by omega) | exact .inr (.inl (by assumption)) | exact .inr (.inr (by assumption)))) | exact .inr (.inr (by rw [← shortL_succ hkl]; assumption)))⟩) (by omega)
                · refine ExD.take (i := 16) rfl (by kernel_rfl) (pureVal_ok rfl) ((List.Sublist.refl _)) rfl rfl rfl ?_
                  refine ExD.done (by kernel_rfl) ?_
                  refine Ex.cond_f rfl ?_
                  refine Ex.skip ?_
                  refine Ex.seq ?_
                  refine Ex.regSeq (ExL.pures 1 rfl ?_)
                  refine ExL.nil ?_
                  refine Ex.cond_t rfl ?_
                  refine Ex.drawI [0] rfl rfl ?_
                  refine ExD.take (i := 0) rfl (by kernel_rfl) (pureVal_ok rfl) ((List.Sublist.cons_cons _ (List.nil_sublist _))) rfl rfl rfl ?_
                  refine ExD.take (i := 1) rfl (by kernel_rfl) (pureVal_ok rfl) ((List.Sublist.cons_cons _ (List.nil_sublist _))) rfl rfl rfl ?_
                  refine ExD.take (i := 5) rfl (by kernel_rfl) (pureVal_ok rfl) ((List.Sublist.cons_cons _ (List.nil_sublist _))) rfl rfl rfl ?_
                  refine ExD.take (i := 6) rfl (by kernel_rfl) (fr_load rfl rfl rfl rfl (CellO.blk (i := 0) rfl rfl)) ((List.Sublist.cons_cons _ (List.nil_sublist _))) rfl rfl rfl ?_
                  refine ExD.op (i := 2) rfl (by kernel_rfl) rfl (Op1.of_free (fr_indexAddrR (sz := 2) 1 rfl rfl rfl rfl rfl rfl (by omega)) rfl rfl ⟨(List.Sublist.cons_cons _ (List.nil_sublist _)), ?_⟩)
                  refine ExD.op (i := 3) rfl (by kernel_rfl) rfl (Op1.of_free (fr_fieldAddrR 1 rfl (by omega) rfl rfl rfl rfl rfl rfl) rfl rfl ⟨(List.Sublist.cons_cons _ (List.nil_sublist _)), ?_⟩)
                  refine ExD.op (i := 4) rfl (by kernel_rfl) rfl (Op1.of_free (fr_load rfl rfl rfl rfl (cellJ (((shortL l k).length - 1)) (Reads.row (i := 1) rfl) encA_len zA 1 rfl (by omega) (by omega) rfl)) rfl rfl ⟨(List.Sublist.cons_cons _ (List.nil_sublist _)), ?_⟩)
                  refine ExD.take (i := 7) rfl (by kernel_rfl) (by first | exact fr_add64 rfl rfl rfl (by omega) | exact fr_add rfl rfl rfl) ((List.Sublist.cons_cons _ (List.nil_sublist _))) rfl rfl rfl ?_
                  refine ExD.op (i := 8) rfl (by kernel_rfl) rfl (Op1.of_free (fr_indexAddrR (sz := 2) 1 rfl rfl rfl rfl rfl rfl (by omega)) rfl rfl ⟨(List.Sublist.cons_cons _ (List.nil_sublist _)), ?_⟩)
                  refine ExD.op (i := 9) rfl (by kernel_rfl) rfl (Op1.of_free (fr_fieldAddrR 1 rfl (by omega) rfl rfl rfl rfl rfl rfl) rfl rfl ⟨(List.Sublist.cons_cons _ (List.nil_sublist _)), ?_⟩)
                  refine ExD.op (i := 10) rfl (by kernel_rfl) rfl (op_storeRowF (i := 1) rfl rfl rfl rfl rfl rfl rfl rfl (room_at encA_len (k := (shortL l k).length - 1) (q := 1) (by omega) (by first | omega | (simp; omega) | (simp; done)) rfl) (List.cons_ne_nil _ _) rfl (put_add hkl (fun h => by first | exact absurd h.2 (by assumption) | exact nP h.1 (by assumption) | exact nPk h.1 (by omega)) (by rintro (h | h | h) <;> first | omega | exact absurd h (by assumption)) (by first | assumption | exact isP_t (by omega)) (by first | omega | (simp; omega) | (simp; done))) ⟨(List.Sublist.cons_cons _ (List.nil_sublist _)), ?_⟩)
                  have hsame := sh_same hkl (fun h => by first | exact absurd h.2 (by assumption) | exact nP h.1 (by assumption) | exact nPk h.1 (by omega)) (by rintro (h | h | h) <;> first | omega | exact absurd h (by assumption))
                  refine ExD.done (by kernel_rfl) ?_
                  refine Ex.regSeq (ExL.pures 2 rfl ?_)
                  refine ExL.free (fr_indexAddrR (sz := 2) 1 rfl rfl rfl rfl rfl rfl (by omega)) rfl rfl rfl ?_
                  refine ExL.free (fr_fieldAddrR 1 rfl (by omega) rfl rfl rfl rfl rfl rfl) rfl rfl rfl ?_
                  refine ExL.free (fr_load rfl rfl rfl rfl (cellJ (((shortL l k).length - 1)) (Reads.row (i := 1) rfl) encA_len zA 1 rfl (by omega) (by omega) rfl)) rfl rfl rfl ?_
                  refine ExL.gtr rfl rfl rfl rfl rfl rfl (fun h24 => ?_) (fun h24 => ?_)
                  · refine ExL.nil ?_
                    refine Ex.cond_t rfl ?_
                    refine Ex.regSeq (ExL.pures 0 rfl ?_)
                    refine ExL.op rfl (op_buildSlice (sz := 2) rfl rfl rfl rfl rfl rfl rfl rfl (by decide) rfl rfl rfl (fun r25 => ?_))
                    refine ExL.pures 2 rfl ?_
                    refine ExL.nil ?_
                    refine Ex.ret ?_
                    refine RetQ.mk ((some ⟨r25, 0, none⟩), 0) rfl (.tmp rfl (.tmp rfl .nil)) (t2 (by first | (rw [shk_bad (k := k) (by omega) (by assumption)]; first | done | rfl) | (rw [shk_long hbad (by assumption)]; first | done | rfl) | (rw [sh_bad (by assumption)]; first | done | rfl) | (rw [shk_big hkn haf (by assumption)]; first | done | rfl) | (rw [shk_ok hkn haf (by assumption)]; first | done | rfl) | (rw [shk_low hkn haf hI2]; first | done | rfl) | (rw [shk_over hkl haf (by rw [shortL_succ hkl]; exact over_chk (hva k hkl) (fun h => by first | exact absurd h.2 (by assumption) | exact nP h.1 (by assumption) | exact nPk h.1 (by omega)) (by rintro (h | h | h) <;> first | omega | exact absurd h (by assumption)) (by rw [← shortL_succ hkl]; assumption))]; first | done | rfl)) (by first | (rw [shk_bad (k := k) (by omega) (by assumption)]; first | done | rfl) | (rw [shk_long hbad (by assumption)]; first | done | rfl) | (rw [sh_bad (by assumption)]; first | done | rfl) | (rw [shk_big hkn haf (by assumption)]; first | done | rfl) | (rw [shk_ok hkn haf (by assumption)]; first | done | rfl) | (rw [shk_low hkn haf hI2]; first | done | rfl) | (rw [shk_over hkl haf (by rw [shortL_succ hkl]; exact over_chk (hva k hkl) (fun h => by first | exact absurd h.2 (by assumption) | exact nP h.1 (by assumption) | exact nPk h.1 (by omega)) (by rintro (h | h | h) <;> first | omega | exact absurd h (by assumption)) (by rw [← shortL_succ hkl]; assumption))]; first | done | rfl))) [0] (by first | (rw [shk_bad (k := k) (by omega) (by assumption)]; first | done | rfl) | (rw [shk_long hbad (by assumption)]; first | done | rfl) | (rw [sh_bad (by assumption)]; first | done | rfl) | (rw [shk_big hkn haf (by assumption)]; first | done | rfl) | (rw [shk_ok hkn haf (by assumption)]; first | done | rfl) | (rw [shk_low hkn haf hI2]; first | done | rfl) | (rw [shk_over hkl haf (by rw [shortL_succ hkl]; exact over_chk (hva k hkl) (fun h => by first | exact absurd h.2 (by assumption) | exact nP h.1 (by assumption) | exact nPk h.1 (by omega)) (by rintro (h | h | h) <;> first | omega | exact absurd h (by assumption)) (by rw [← shortL_succ hkl]; assumption))]; first | done | rfl)) rfl (trivial)
                  · refine ExL.nil ?_
                    refine Ex.cond_f rfl ?_
                    refine Ex.skip ?_
                    refine Ex.region (ExL.pures 1 rfl ?_)
                    refine ExL.free (by first | exact fr_add64 rfl rfl rfl (by omega) | exact fr_add rfl rfl rfl) rfl rfl rfl ?_
                    refine ExL.pures 1 rfl ?_
                    refine ExL.nil ?_
                    refine HandA.of (k + 1) (A) (c) 2 [1] ⟨(by first | (rw [hsame]; first | done | rfl) | (rw [shortL_succ hkl, st_skip (by first | assumption | exact isP_t (by omega)) (by assumption)]; first | done | rfl) | (rw [shortL_succ hkl, st_new (fun h => by first | exact absurd h.2 (by assumption) | exact nP h.1 (by assumption) | exact nPk h.1 (by omega)) (by first | exact .inl (by omega) | exact .inr (.inl (by assumption)) | exact .inr (.inr (by assumption))), List.length_append]; rfl)), rfl, trivial⟩ ⟨rfl, trivial⟩ (by first | (rw [hsame]; first | done | rfl) | (rw [shortL_succ hkl, st_skip (by first | assumption | exact isP_t (by omega)) (by assumption)]; first | done | rfl) | (rw [shortL_succ hkl, st_new (fun h => by first | exact absurd h.2 (by assumption) | exact nP h.1 (by assumption) | exact nPk h.1 (by omega)) (by first | exact .inl (by omega) | exact .inr (.inl (by assumption)) | exact .inr (.inr (by assumption))), List.length_append, List.flatMap_append]; rfl)) rfl (⟨by omega, by rw [shortL_succ hkl]; exact low_next hI2 (hva k hkl) (by first | exact .inl ⟨(by first | assumption | exact isP_t (by omega)), by assumption⟩ | exact .inr (.inl (by first | exact .inl (by omega) | exact .inr (.inl (by assumption)) | exact .inr (.inr (by assumption)))) | exact .inr (.inr (by rw [← shortL_succ hkl]; assumption)))⟩) (by omega)
        · refine ExL.pures 2 rfl ?_
          refine ExL.free (fr_load rfl rfl rfl rfl (CellO.blk (i := 0) rfl rfl)) rfl rfl rfl ?_
          refine ExL.eql rfl rfl rfl rfl rfl rfl (fun h26 => ?_) (fun h26 => ?_)
          · refine ExL.pures 2 rfl ?_
            refine ExL.nil ?_
            refine Ex.seq ?_
            refine Ex.regSeq (ExL.pures 3 rfl ?_)
            refine ExL.free (fr_load rfl rfl rfl rfl (CellO.blk (i := 0) rfl rfl)) rfl rfl rfl ?_
            refine ExL.eql rfl rfl rfl rfl rfl rfl (fun h27 => ?_) (fun h27 => ?_)
            · refine ExL.pures 1 rfl ?_
              refine ExL.nil ?_
              refine Ex.cond_t rfl ?_
              refine Ex.exit ?_
              refine Ex.region (ExL.pures 1 rfl ?_)
              refine ExL.free (by first | exact fr_add64 rfl rfl rfl (by omega) | exact fr_add rfl rfl rfl) rfl rfl rfl ?_
              refine ExL.pures 1 rfl ?_
              refine ExL.nil ?_
              refine HandA.of (k + 1) (A) (c) 2 [1] ⟨(by first | (rw [hsame]; first | done | rfl) | (rw [shortL_succ hkl, st_skip (by first | assumption | exact isP_t (by omega)) (by assumption)]; first | done | rfl) | (rw [shortL_succ hkl, st_new (fun h => by first | exact absurd h.2 (by assumption) | exact nP h.1 (by assumption) | exact nPk h.1 (by omega)) (by first | exact .inl (by omega) | exact .inr (.inl (by assumption)) | exact .inr (.inr (by assumption))), List.length_append]; rfl)), rfl, trivial⟩ ⟨rfl, trivial⟩ (by first | (rw [hsame]; first | done | rfl) | (rw [shortL_succ hkl, st_skip (by first | assumption | exact isP_t (by omega)) (by assumption)]; first | done | rfl) | (rw [shortL_succ hkl, st_new (fun h => by first | exact absurd h.2 (by assumption) | exact nP h.1 (by assumption) | exact nPk h.1 (by omega)) (by first | exact .inl (by omega) | exact .inr (.inl (by assumption)) | exact .inr (.inr (by assumption))), List.length_append, List.flatMap_append]; rfl)) rfl (⟨by omega, by rw [shortL_succ hkl]; exact low_next hI2 (hva k hkl) (by first | exact .inl ⟨(by first | assumption | exact isP_t (by omega)), by assumption⟩ | exact .inr (.inl (by first | exact .inl (by omega) | exact .inr (.inl (by assumption)) | exact .inr (.inr (by assumption)))) | exact .inr (.inr (by rw [← shortL_succ hkl]; assumption)))⟩) (by omega)
            · refine ExL.pures 1 rfl ?_
              refine ExL.nil ?_
              refine Ex.cond_f rfl ?_
              refine Ex.skip ?_
              refine Ex.regSeq (ExL.pures 2 rfl ?_)
              refine ExL.free (by first | exact fr_sub64 rfl rfl rfl (by omega) | exact fr_sub rfl rfl rfl) rfl rfl rfl ?_
              refine ExL.pures 1 rfl ?_
              refine ExL.nil ?_
              refine Ex.seq ?_
              refine Ex.drawSeqM rfl ?_
              refine ExD.take (i := 0) rfl (by kernel_rfl) (pureVal_ok rfl) ((List.Sublist.refl _)) rfl rfl rfl ?_
              refine ExD.cmp_lss (i := 1) rfl (by kernel_rfl) rfl rfl rfl ((List.Sublist.refl _)) rfl rfl rfl (fun h28 => ?_) (fun h28 => ?_)
              · refine ExD.take (i := 2) rfl (by kernel_rfl) (pureVal_ok rfl) ((List.Sublist.refl _)) rfl rfl rfl ?_
                refine ExD.pass (i := 3) rfl (by kernel_rfl) ((List.Sublist.refl _)) rfl rfl rfl ?_
                refine ExD.pass (i := 4) rfl (by kernel_rfl) ((List.Sublist.refl _)) rfl rfl rfl ?_
                refine ExD.pass (i := 5) rfl (by kernel_rfl) ((List.Sublist.refl _)) rfl rfl rfl ?_
                refine ExD.pass (i := 6) rfl (by kernel_rfl) ((List.Sublist.refl _)) rfl rfl rfl ?_
                refine ExD.pass (i := 7) rfl (by kernel_rfl) ((List.Sublist.refl _)) rfl rfl rfl ?_
                refine ExD.pass (i := 8) rfl (by kernel_rfl) ((List.Sublist.refl _)) rfl rfl rfl ?_
                refine ExD.pass (i := 9) rfl (by kernel_rfl) ((List.Sublist.refl _)) rfl rfl rfl ?_
                refine ExD.pass (i := 10) rfl (by kernel_rfl) ((List.Sublist.refl _)) rfl rfl rfl ?_
                refine ExD.take (i := 11) rfl (by kernel_rfl) (pureVal_ok rfl) ((List.Sublist.refl _)) rfl rfl rfl ?_
                refine ExD.take (i := 12) rfl (by kernel_rfl) (pureVal_ok rfl) ((List.Sublist.refl _)) rfl rfl rfl ?_
                refine ExD.pass (i := 13) rfl (by kernel_rfl) ((List.Sublist.refl _)) rfl rfl rfl ?_
                refine ExD.pass (i := 14) rfl (by kernel_rfl) ((List.Sublist.refl _)) rfl rfl rfl ?_
                refine ExD.pass (i := 15) rfl (by kernel_rfl) ((List.Sublist.refl _)) rfl rfl rfl ?_
                refine ExD.take (i := 16) rfl (by kernel_rfl) (pureVal_ok rfl) ((List.Sublist.refl _)) rfl rfl rfl ?_
                refine ExD.done (by kernel_rfl) ?_
                refine Ex.cond_t rfl ?_
                refine Ex.regSeq (ExL.pures 1 rfl ?_)
                refine ExL.free (fr_loadN rfl rfl rfl rfl rfl (SegO.whole (i := 0) rfl)) rfl rfl rfl ?_
                refine ExL.op rfl (op_buildSlice (sz := 2) rfl rfl rfl rfl rfl rfl rfl rfl (by decide) rfl rfl rfl (fun r29 => ?_))
                refine ExL.op rfl (op_append (sz := 2) (bytes := 16) (i := 2) rfl rfl rfl rfl (Reads.row (i := 0) rfl) rfl (fun e => nomatch e) rfl rfl rfl rfl (by constructor <;> first | omega | (unfold maxLen; omega)) rfl rfl (fun A30 cA30 => ?_))
                refine ExL.pures 1 rfl ?_
                refine ExL.nil ?_
                refine Ex.exit ?_
                refine Ex.region (ExL.pures 1 rfl ?_)
                refine ExL.free (by first | exact fr_add64 rfl rfl rfl (by omega) | exact fr_add rfl rfl rfl) rfl rfl rfl ?_
                refine ExL.pures 1 rfl ?_
                refine ExL.nil ?_
                refine HandA.of (k + 1) (A30) (cA30) 3 [2] ⟨(by first | (rw [hsame]; first | done | rfl) | (rw [shortL_succ hkl, st_skip (by first | assumption | exact isP_t (by omega)) (by assumption)]; first | done | rfl) | (rw [shortL_succ hkl, st_new (fun h => by first | exact absurd h.2 (by assumption) | exact nP h.1 (by assumption) | exact nPk h.1 (by omega)) (by first | exact .inl (by omega) | exact .inr (.inl (by assumption)) | exact .inr (.inr (by assumption))), List.length_append]; rfl)), rfl, trivial⟩ ⟨rfl, trivial⟩ (by first | (rw [hsame]; first | done | rfl) | (rw [shortL_succ hkl, st_skip (by first | assumption | exact isP_t (by omega)) (by assumption)]; first | done | rfl) | (rw [shortL_succ hkl, st_new (fun h => by first | exact absurd h.2 (by assumption) | exact nP h.1 (by assumption) | exact nPk h.1 (by omega)) (by first | exact .inl (by omega) | exact .inr (.inl (by assumption)) | exact .inr (.inr (by assumption))), List.length_append, List.flatMap_append]; rfl)) rfl (⟨by omega, by rw [shortL_succ hkl]; exact low_next hI2 (hva k hkl) (by first | exact .inl ⟨(by first | assumption | exact isP_t (by omega)), by assumption⟩ | exact .inr (.inl (by first | exact .inl (by omega) | exact .inr (.inl (by assumption)) | exact .inr (.inr (by assumption)))) | exact .inr (.inr (by rw [← shortL_succ hkl]; assumption)))⟩) (by omega)
              · refine ExD.take (i := 2) rfl (by kernel_rfl) (pureVal_ok rfl) ((List.Sublist.refl _)) rfl rfl rfl ?_
                refine ExD.take (i := 3) rfl (by kernel_rfl) (pureVal_ok rfl) ((List.Sublist.refl _)) rfl rfl rfl ?_
                refine ExD.take (i := 4) rfl (by kernel_rfl) (pureVal_ok rfl) ((List.Sublist.refl _)) rfl rfl rfl ?_
                refine ExD.take (i := 5) rfl (by kernel_rfl) (fr_indexAddrR (sz := 2) 1 rfl rfl rfl rfl rfl rfl (by omega)) ((List.Sublist.refl _)) rfl rfl rfl ?_
                refine ExD.take (i := 6) rfl (by kernel_rfl) (fr_fieldAddrR 1 rfl (by omega) rfl rfl rfl rfl rfl rfl) ((List.Sublist.refl _)) rfl rfl rfl ?_
                refine ExD.take (i := 7) rfl (by kernel_rfl) (fr_load rfl rfl rfl rfl (cellJ (((shortL l k).length - 1)) (Reads.row (i := 1) rfl) encA_len zA 0 rfl (by omega) (by omega) rfl)) ((List.Sublist.refl _)) rfl rfl rfl ?_
                refine ExD.take (i := 8) rfl (by kernel_rfl) (pureVal_ok rfl) ((List.Sublist.refl _)) rfl rfl rfl ?_
                refine ExD.take (i := 9) rfl (by kernel_rfl) (fr_load rfl rfl rfl rfl (CellO.blk (i := 0) rfl rfl)) ((List.Sublist.refl _)) rfl rfl rfl ?_
                refine ExD.cmp_neq (i := 10) rfl (by kernel_rfl) rfl rfl rfl ((List.Sublist.refl _)) rfl rfl rfl (fun h32 => ?_) (fun h32 => ?_)
                · refine ExD.take (i := 11) rfl (by kernel_rfl) (pureVal_ok rfl) ((List.Sublist.refl _)) rfl rfl rfl ?_
                  refine ExD.take (i := 12) rfl (by kernel_rfl) (pureVal_ok rfl) ((List.Sublist.refl _)) rfl rfl rfl ?_
                  refine ExD.pass (i := 13) rfl (by kernel_rfl) ((List.Sublist.refl _)) rfl rfl rfl ?_
                  refine ExD.pass (i := 14) rfl (by kernel_rfl) ((List.Sublist.refl _)) rfl rfl rfl ?_
                  refine ExD.pass (i := 15) rfl (by kernel_rfl) ((List.Sublist.refl _)) rfl rfl rfl ?_
                  refine ExD.take (i := 16) rfl (by kernel_rfl) (pureVal_ok rfl) ((List.Sublist.refl _)) rfl rfl rfl ?_
                  refine ExD.done (by kernel_rfl) ?_
                  refine Ex.cond_t rfl ?_
                  refine Ex.regSeq (ExL.pures 1 rfl ?_)
                  refine ExL.free (fr_loadN rfl rfl rfl rfl rfl (SegO.whole (i := 0) rfl)) rfl rfl rfl ?_
                  refine ExL.op rfl (op_buildSlice (sz := 2) rfl rfl rfl rfl rfl rfl rfl rfl (by decide) rfl rfl rfl (fun r33 => ?_))
                  refine ExL.op rfl (op_append (sz := 2) (bytes := 16) (i := 2) rfl rfl rfl rfl (Reads.row (i := 0) rfl) rfl (fun e => nomatch e) rfl rfl rfl rfl (by constructor <;> first | omega | (unfold maxLen; omega)) rfl rfl (fun A34 cA34 => ?_))
                  refine ExL.pures 1 rfl ?_
                  refine ExL.nil ?_
                  refine Ex.exit ?_
                  refine Ex.region (ExL.pures 1 rfl ?_)
                  refine ExL.free (by first | exact fr_add64 rfl rfl rfl (by omega) | exact fr_add rfl rfl rfl) rfl rfl rfl ?_
                  refine ExL.pures 1 rfl ?_
                  refine ExL.nil ?_
                  refine HandA.of (k + 1) (A34) (cA34) 3 [2] ⟨(by first | (rw [hsame]; first | done | rfl) | (rw [shortL_succ hkl, st_skip (by first | assumption | exact isP_t (by omega)) (by assumption)]; first | done | rfl) | (rw [shortL_succ hkl, st_new (fun h => by first | exact absurd h.2 (by assumption) | exact nP h.1 (by assumption) | exact nPk h.1 (by omega)) (by first | exact .inl (by omega) | exact .inr (.inl (by assumption)) | exact .inr (.inr (by assumption))), List.length_append]; rfl)), rfl, trivial⟩ ⟨rfl, trivial⟩ (by first | (rw [hsame]; first | done | rfl) | (rw [shortL_succ hkl, st_skip (by first | assumption | exact isP_t (by omega)) (by assumption)]; first | done | rfl) | (rw [shortL_succ hkl, st_new (fun h => by first | exact absurd h.2 (by assumption) | exact nP h.1 (by assumption) | exact nPk h.1 (by omega)) (by first | exact .inl (by omega) | exact .inr (.inl (by assumption)) | exact .inr (.inr (by assumption))), List.length_append, List.flatMap_append]; rfl)) rfl (⟨by omega, by rw [shortL_succ hkl]; exact low_next hI2 (hva k hkl) (by first | exact .inl ⟨(by first | assumption | exact isP_t (by omega)), by assumption⟩ | exact .inr (.inl (by first | exact .inl (by omega) | exact .inr (.inl (by assumption)) | exact .inr (.inr (by assumption)))) | exact .inr (.inr (by rw [← shortL_succ hkl]; assumption)))⟩) (by omega)
                · refine ExD.take (i := 11) rfl (by kernel_rfl) (pureVal_ok rfl) ((List.Sublist.refl _)) rfl rfl rfl ?_
                  refine ExD.take (i := 12) rfl (by kernel_rfl) (pureVal_ok rfl) ((List.Sublist.refl _)) rfl rfl rfl ?_
                  refine ExD.take (i := 13) rfl (by kernel_rfl) (pureVal_ok rfl) ((List.Sublist.refl _)) rfl rfl rfl ?_
                  refine ExD.take (i := 14) rfl (by kernel_rfl) (fr_load rfl rfl rfl rfl (CellO.blk (i := 0) rfl rfl)) ((List.Sublist.refl _)) rfl rfl rfl ?_
                  refine ExD.cmp_eql (i := 15) rfl (by kernel_rfl) rfl rfl rfl ((List.Sublist.refl _)) rfl rfl rfl (fun h36 => ?_) (fun h36 => ?_)
                  · refine ExD.take (i := 16) rfl (by kernel_rfl) (pureVal_ok rfl) ((List.Sublist.refl _)) rfl rfl rfl ?_
                    refine ExD.done (by kernel_rfl) ?_
                    refine Ex.cond_t rfl ?_
                    refine Ex.regSeq (ExL.pures 1 rfl ?_)
                    refine ExL.free (fr_loadN rfl rfl rfl rfl rfl (SegO.whole (i := 0) rfl)) rfl rfl rfl ?_
                    refine ExL.op rfl (op_buildSlice (sz := 2) rfl rfl rfl rfl rfl rfl rfl rfl (by decide) rfl rfl rfl (fun r37 => ?_))
                    refine ExL.op rfl (op_append (sz := 2) (bytes := 16) (i := 2) rfl rfl rfl rfl (Reads.row (i := 0) rfl) rfl (fun e => nomatch e) rfl rfl rfl rfl (by constructor <;> first | omega | (unfold maxLen; omega)) rfl rfl (fun A38 cA38 => ?_))
                    refine ExL.pures 1 rfl ?_
                    refine ExL.nil ?_
                    refine Ex.exit ?_
                    refine Ex.region (ExL.pures 1 rfl ?_)
                    refine ExL.free (by first | exact fr_add64 rfl rfl rfl (by omega) | exact fr_add rfl rfl rfl) rfl rfl rfl ?_
                    refine ExL.pures 1 rfl ?_
                    refine ExL.nil ?_
                    refine HandA.of (k + 1) (A38) (cA38) 3 [2] ⟨(by first | (rw [hsame]; first | done | rfl) | (rw [shortL_succ hkl, st_skip (by first | assumption | exact isP_t (by omega)) (by assumption)]; first | done | rfl) | (rw [shortL_succ hkl, st_new (fun h => by first | exact absurd h.2 (by assumption) | exact nP h.1 (by assumption) | exact nPk h.1 (by omega)) (by first | exact .inl (by omega) | exact .inr (.inl (by assumption)) | exact .inr (.inr (by assumption))), List.length_append]; rfl)), rfl, trivial⟩ ⟨rfl, trivial⟩ (by first | (rw [hsame]; first | done | rfl) | (rw [shortL_succ hkl, st_skip (by first | assumption | exact isP_t (by omega)) (by assumption)]; first | done | rfl) | (rw [shortL_succ hkl, st_new (fun h => by first | exact absurd h.2 (by assumption) | exact nP h.1 (by assumption) | exact nPk h.1 (by omega)) (by first | exact .inl (by omega) | exact .inr (.inl (by assumption)) | exact .inr (.inr (by assumption))), List.length_append, List.flatMap_append]; rfl)) rfl (⟨by omega, by rw [shortL_succ hkl]; exact low_next hI2 (hva k hkl) (by first | exact .inl ⟨(by first | assumption | exact isP_t (by omega)), by assumption⟩ | exact .inr (.inl (by first | exact .inl (by omega) | exact .inr (.inl (by assumption)) | exact .inr (.inr (by assumption)))) | exact .inr (.inr (by rw [← shortL_succ hkl]; assumption)))⟩) (by omega)
                  · refine ExD.take (i := 16) rfl (by kernel_rfl) (pureVal_ok rfl) ((List.Sublist.refl _)) rfl rfl rfl ?_
                    refine ExD.done (by kernel_rfl) ?_
                    refine Ex.cond_f rfl ?_
                    refine Ex.skip ?_
                    refine Ex.seq ?_
                    refine Ex.regSeq (ExL.pures 1 rfl ?_)
                    refine ExL.nil ?_
                    refine Ex.cond_t rfl ?_
                    refine Ex.drawI [0] rfl rfl ?_
                    refine ExD.take (i := 0) rfl (by kernel_rfl) (pureVal_ok rfl) ((List.Sublist.cons_cons _ (List.nil_sublist _))) rfl rfl rfl ?_
                    refine ExD.take (i := 1) rfl (by kernel_rfl) (pureVal_ok rfl) ((List.Sublist.cons_cons _ (List.nil_sublist _))) rfl rfl rfl ?_
                    refine ExD.take (i := 5) rfl (by kernel_rfl) (pureVal_ok rfl) ((List.Sublist.cons_cons _ (List.nil_sublist _))) rfl rfl rfl ?_
                    refine ExD.take (i := 6) rfl (by kernel_rfl) (fr_load rfl rfl rfl rfl (CellO.blk (i := 0) rfl rfl)) ((List.Sublist.cons_cons _ (List.nil_sublist _))) rfl rfl rfl ?_
                    refine ExD.op (i := 2) rfl (by kernel_rfl) rfl (Op1.of_free (fr_indexAddrR (sz := 2) 1 rfl rfl rfl rfl rfl rfl (by omega)) rfl rfl ⟨(List.Sublist.cons_cons _ (List.nil_sublist _)), ?_⟩)
                    refine ExD.op (i := 3) rfl (by kernel_rfl) rfl (Op1.of_free (fr_fieldAddrR 1 rfl (by omega) rfl rfl rfl rfl rfl rfl) rfl rfl ⟨(List.Sublist.cons_cons _ (List.nil_sublist _)), ?_⟩)
                    refine ExD.op (i := 4) rfl (by kernel_rfl) rfl (Op1.of_free (fr_load rfl rfl rfl rfl (cellJ (((shortL l k).length - 1)) (Reads.row (i := 1) rfl) encA_len zA 1 rfl (by omega) (by omega) rfl)) rfl rfl ⟨(List.Sublist.cons_cons _ (List.nil_sublist _)), ?_⟩)
                    refine ExD.take (i := 7) rfl (by kernel_rfl) (by first | exact fr_add64 rfl rfl rfl (by omega) | exact fr_add rfl rfl rfl) ((List.Sublist.cons_cons _ (List.nil_sublist _))) rfl rfl rfl ?_
                    refine ExD.op (i := 8) rfl (by kernel_rfl) rfl (Op1.of_free (fr_indexAddrR (sz := 2) 1 rfl rfl rfl rfl rfl rfl (by omega)) rfl rfl ⟨(List.Sublist.cons_cons _ (List.nil_sublist _)), ?_⟩)
                    refine ExD.op (i := 9) rfl (by kernel_rfl) rfl (Op1.of_free (fr_fieldAddrR 1 rfl (by omega) rfl rfl rfl rfl rfl rfl) rfl rfl ⟨(List.Sublist.cons_cons _ (List.nil_sublist _)), ?_⟩)
                    refine ExD.op (i := 10) rfl (by kernel_rfl) rfl (op_storeRowF (i := 1) rfl rfl rfl rfl rfl rfl rfl rfl (room_at encA_len (k := (shortL l k).length - 1) (q := 1) (by omega) (by first | omega | (simp; omega) | (simp; done)) rfl) (List.cons_ne_nil _ _) rfl (put_add hkl (fun h => by first | exact absurd h.2 (by assumption) | exact nP h.1 (by assumption) | exact nPk h.1 (by omega)) (by rintro (h | h | h) <;> first | omega | exact absurd h (by assumption)) (by first | assumption | exact isP_t (by omega)) (by first | omega | (simp; omega) | (simp; done))) ⟨(List.Sublist.cons_cons _ (List.nil_sublist _)), ?_⟩)
                    have hsame := sh_same hkl (fun h => by first | exact absurd h.2 (by assumption) | exact nP h.1 (by assumption) | exact nPk h.1 (by omega)) (by rintro (h | h | h) <;> first | omega | exact absurd h (by assumption))
                    refine ExD.done (by kernel_rfl) ?_
                    refine Ex.regSeq (ExL.pures 2 rfl ?_)
                    refine ExL.free (fr_indexAddrR (sz := 2) 1 rfl rfl rfl rfl rfl rfl (by omega)) rfl rfl rfl ?_
                    refine ExL.free (fr_fieldAddrR 1 rfl (by omega) rfl rfl rfl rfl rfl rfl) rfl rfl rfl ?_
                    refine ExL.free (fr_load rfl rfl rfl rfl (cellJ (((shortL l k).length - 1)) (Reads.row (i := 1) rfl) encA_len zA 1 rfl (by omega) (by omega) rfl)) rfl rfl rfl ?_
                    refine ExL.gtr rfl rfl rfl rfl rfl rfl (fun h40 => ?_) (fun h40 => ?_)
                    · refine ExL.nil ?_
                      refine Ex.cond_t rfl ?_
                      refine Ex.regSeq (ExL.pures 0 rfl ?_)
                      refine ExL.op rfl (op_buildSlice (sz := 2) rfl rfl rfl rfl rfl rfl rfl rfl (by decide) rfl rfl rfl (fun r41 => ?_))
                      refine ExL.pures 2 rfl ?_
                      refine ExL.nil ?_
                      refine Ex.ret ?_
                      refine RetQ.mk ((some ⟨r41, 0, none⟩), 0) rfl (.tmp rfl (.tmp rfl .nil)) (t2 (by first | (rw [shk_bad (k := k) (by omega) (by assumption)]; first | done | rfl) | (rw [shk_long hbad (by assumption)]; first | done | rfl) | (rw [sh_bad (by assumption)]; first | done | rfl) | (rw [shk_big hkn haf (by assumption)]; first | done | rfl) | (rw [shk_ok hkn haf (by assumption)]; first | done | rfl) | (rw [shk_low hkn haf hI2]; first | done | rfl) | (rw [shk_over hkl haf (by rw [shortL_succ hkl]; exact over_chk (hva k hkl) (fun h => by first | exact absurd h.2 (by assumption) | exact nP h.1 (by assumption) | exact nPk h.1 (by omega)) (by rintro (h | h | h) <;> first | omega | exact absurd h (by assumption)) (by rw [← shortL_succ hkl]; assumption))]; first | done | rfl)) (by first | (rw [shk_bad (k := k) (by omega) (by assumption)]; first | done | rfl) | (rw [shk_long hbad (by assumption)]; first | done | rfl) | (rw [sh_bad (by assumption)]; first | done | rfl) | (rw [shk_big hkn haf (by assumption)]; first | done | rfl) | (rw [shk_ok hkn haf (by assumption)]; first | done | rfl) | (rw [shk_low hkn haf hI2]; first | done | rfl) | (rw [shk_over hkl haf (by rw [shortL_succ hkl]; exact over_chk (hva k hkl) (fun h => by first | exact absurd h.2 (by assumption) | exact nP h.1 (by assumption) | exact nPk h.1 (by omega)) (by rintro (h | h | h) <;> first | omega | exact absurd h (by assumption)) (by rw [← shortL_succ hkl]; assumption))]; first | done | rfl))) [0] (by first | (rw [shk_bad (k := k) (by omega) (by assumption)]; first | done | rfl) | (rw [shk_long hbad (by assumption)]; first | done | rfl) | (rw [sh_bad (by assumption)]; first | done | rfl) | (rw [shk_big hkn haf (by assumption)]; first | done | rfl) | (rw [shk_ok hkn haf (by assumption)]; first | done | rfl) | (rw [shk_low hkn haf hI2]; first | done | rfl) | (rw [shk_over hkl haf (by rw [shortL_succ hkl]; exact over_chk (hva k hkl) (fun h => by first | exact absurd h.2 (by assumption) | exact nP h.1 (by assumption) | exact nPk h.1 (by omega)) (by rintro (h | h | h) <;> first | omega | exact absurd h (by assumption)) (by rw [← shortL_succ hkl]; assumption))]; first | done | rfl)) rfl (trivial)
                    · refine ExL.nil ?_
                      refine Ex.cond_f rfl ?_
                      refine Ex.skip ?_
                      refine Ex.region (ExL.pures 1 rfl ?_)
                      refine ExL.free (by first | exact fr_add64 rfl rfl rfl (by omega) | exact fr_add rfl rfl rfl) rfl rfl rfl ?_
                      refine ExL.pures 1 rfl ?_
                      refine ExL.nil ?_
                      refine HandA.of (k + 1) (A) (c) 2 [1] ⟨(by first | (rw [hsame]; first | done | rfl) | (rw [shortL_succ hkl, st_skip (by first | assumption | exact isP_t (by omega)) (by assumption)]; first | done | rfl) | (rw [shortL_succ hkl, st_new (fun h => by first | exact absurd h.2 (by assumption) | exact nP h.1 (by assumption) | exact nPk h.1 (by omega)) (by first | exact .inl (by omega) | exact .inr (.inl (by assumption)) | exact .inr (.inr (by assumption))), List.length_append]; rfl)), rfl, trivial⟩ ⟨rfl, trivial⟩ (by first | (rw [hsame]; first | done | rfl) | (rw [shortL_succ hkl, st_skip (by first | assumption | exact isP_t (by omega)) (by assumption)]; first | done | rfl) | (rw [shortL_succ hkl, st_new (fun h => by first | exact absurd h.2 (by assumption) | exact nP h.1 (by assumption) | exact nPk h.1 (by omega)) (by first | exact .inl (by omega) | exact .inr (.inl (by assumption)) | exact .inr (.inr (by assumption))), List.length_append, List.flatMap_append]; rfl)) rfl (⟨by omega, by rw [shortL_succ hkl]; exact low_next hI2 (hva k hkl) (by first | exact .inl ⟨(by first | assumption | exact isP_t (by omega)), by assumption⟩ | exact .inr (.inl (by first | exact .inl (by omega) | exact .inr (.inl (by assumption)) | exact .inr (.inr (by assumption)))) | exact .inr (.inr (by rw [← shortL_succ hkl]; assumption)))⟩) (by omega)
          · refine ExL.pures 2 rfl ?_
            refine ExL.nil ?_
            refine Ex.seq ?_
            refine Ex.regSeq (ExL.pures 6 rfl ?_)
            refine ExL.nil ?_
            refine Ex.cond_f rfl ?_
            refine Ex.skip ?_
            refine Ex.regSeq (ExL.pures 2 rfl ?_)
            refine ExL.free (by first | exact fr_sub64 rfl rfl rfl (by omega) | exact fr_sub rfl rfl rfl) rfl rfl rfl ?_
            refine ExL.pures 1 rfl ?_
            refine ExL.nil ?_
            refine Ex.seq ?_
            refine Ex.drawSeqM rfl ?_
            refine ExD.take (i := 0) rfl (by kernel_rfl) (pureVal_ok rfl) ((List.Sublist.refl _)) rfl rfl rfl ?_
            refine ExD.cmp_lss (i := 1) rfl (by kernel_rfl) rfl rfl rfl ((List.Sublist.refl _)) rfl rfl rfl (fun h42 => ?_) (fun h42 => ?_)
            · refine ExD.take (i := 2) rfl (by kernel_rfl) (pureVal_ok rfl) ((List.Sublist.refl _)) rfl rfl rfl ?_
              refine ExD.pass (i := 3) rfl (by kernel_rfl) ((List.Sublist.refl _)) rfl rfl rfl ?_
              refine ExD.pass (i := 4) rfl (by kernel_rfl) ((List.Sublist.refl _)) rfl rfl rfl ?_
              refine ExD.pass (i := 5) rfl (by kernel_rfl) ((List.Sublist.refl _)) rfl rfl rfl ?_
              refine ExD.pass (i := 6) rfl (by kernel_rfl) ((List.Sublist.refl _)) rfl rfl rfl ?_
              refine ExD.pass (i := 7) rfl (by kernel_rfl) ((List.Sublist.refl _)) rfl rfl rfl ?_
              refine ExD.pass (i := 8) rfl (by kernel_rfl) ((List.Sublist.refl _)) rfl rfl rfl ?_
              refine ExD.pass (i := 9) rfl (by kernel_rfl) ((List.Sublist.refl _)) rfl rfl rfl ?_
              refine ExD.pass (i := 10) rfl (by kernel_rfl) ((List.Sublist.refl _)) rfl rfl rfl ?_
              refine ExD.take (i := 11) rfl (by kernel_rfl) (pureVal_ok rfl) ((List.Sublist.refl _)) rfl rfl rfl ?_
              refine ExD.take (i := 12) rfl (by kernel_rfl) (pureVal_ok rfl) ((List.Sublist.refl _)) rfl rfl rfl ?_
              refine ExD.pass (i := 13) rfl (by kernel_rfl) ((List.Sublist.refl _)) rfl rfl rfl ?_
              refine ExD.pass (i := 14) rfl (by kernel_rfl) ((List.Sublist.refl _)) rfl rfl rfl ?_
              refine ExD.pass (i := 15) rfl (by kernel_rfl) ((List.Sublist.refl _)) rfl rfl rfl ?_
              refine ExD.take (i := 16) rfl (by kernel_rfl) (pureVal_ok rfl) ((List.Sublist.refl _)) rfl rfl rfl ?_
              refine ExD.done (by kernel_rfl) ?_
              refine Ex.cond_t rfl ?_
              refine Ex.regSeq (ExL.pures 1 rfl ?_)
              refine ExL.free (fr_loadN rfl rfl rfl rfl rfl (SegO.whole (i := 0) rfl)) rfl rfl rfl ?_
              refine ExL.op rfl (op_buildSlice (sz := 2) rfl rfl rfl rfl rfl rfl rfl rfl (by decide) rfl rfl rfl (fun r43 => ?_))
              refine ExL.op rfl (op_append (sz := 2) (bytes := 16) (i := 2) rfl rfl rfl rfl (Reads.row (i := 0) rfl) rfl (fun e => nomatch e) rfl rfl rfl rfl (by constructor <;> first | omega | (unfold maxLen; omega)) rfl rfl (fun A44 cA44 => ?_))
              refine ExL.pures 1 rfl ?_
              refine ExL.nil ?_
              refine Ex.exit ?_
              refine Ex.region (ExL.pures 1 rfl ?_)
              refine ExL.free (by first | exact fr_add64 rfl rfl rfl (by omega) | exact fr_add rfl rfl rfl) rfl rfl rfl ?_
              refine ExL.pures 1 rfl ?_
              refine ExL.nil ?_
              refine HandA.of (k + 1) (A44) (cA44) 3 [2] ⟨(by first | (rw [hsame]; first | done | rfl) | (rw [shortL_succ hkl, st_skip (by first | assumption | exact isP_t (by omega)) (by assumption)]; first | done | rfl) | (rw [shortL_succ hkl, st_new (fun h => by first | exact absurd h.2 (by assumption) | exact nP h.1 (by assumption) | exact nPk h.1 (by omega)) (by first | exact .inl (by omega) | exact .inr (.inl (by assumption)) | exact .inr (.inr (by assumption))), List.length_append]; rfl)), rfl, trivial⟩ ⟨rfl, trivial⟩ (by first | (rw [hsame]; first | done | rfl) | (rw [shortL_succ hkl, st_skip (by first | assumption | exact isP_t (by omega)) (by assumption)]; first | done | rfl) | (rw [shortL_succ hkl, st_new (fun h => by first | exact absurd h.2 (by assumption) | exact nP h.1 (by assumption) | exact nPk h.1 (by omega)) (by first | exact .inl (by omega) | exact .inr (.inl (by assumption)) | exact .inr (.inr (by assumption))), List.length_append, List.flatMap_append]; rfl)) rfl (⟨by omega, by rw [shortL_succ hkl]; exact low_next hI2 (hva k hkl) (by first | exact .inl ⟨(by first | assumption | exact isP_t (by omega)), by assumption⟩ | exact .inr (.inl (by first | exact .inl (by omega) | exact .inr (.inl (by assumption)) | exact .inr (.inr (by assumption)))) | exact .inr (.inr (by rw [← shortL_succ hkl]; assumption)))⟩) (by omega)
            · refine ExD.take (i := 2) rfl (by kernel_rfl) (pureVal_ok rfl) ((List.Sublist.refl _)) rfl rfl rfl ?_
              refine ExD.take (i := 3) rfl (by kernel_rfl) (pureVal_ok rfl) ((List.Sublist.refl _)) rfl rfl rfl ?_
              refine ExD.take (i := 4) rfl (by kernel_rfl) (pureVal_ok rfl) ((List.Sublist.refl _)) rfl rfl rfl ?_
              refine ExD.take (i := 5) rfl (by kernel_rfl) (fr_indexAddrR (sz := 2) 1 rfl rfl rfl rfl rfl rfl (by omega)) ((List.Sublist.refl _)) rfl rfl rfl ?_
              refine ExD.take (i := 6) rfl (by kernel_rfl) (fr_fieldAddrR 1 rfl (by omega) rfl rfl rfl rfl rfl rfl) ((List.Sublist.refl _)) rfl rfl rfl ?_
              refine ExD.take (i := 7) rfl (by kernel_rfl) (fr_load rfl rfl rfl rfl (cellJ (((shortL l k).length - 1)) (Reads.row (i := 1) rfl) encA_len zA 0 rfl (by omega) (by omega) rfl)) ((List.Sublist.refl _)) rfl rfl rfl ?_
              refine ExD.take (i := 8) rfl (by kernel_rfl) (pureVal_ok rfl) ((List.Sublist.refl _)) rfl rfl rfl ?_
              refine ExD.take (i := 9) rfl (by kernel_rfl) (fr_load rfl rfl rfl rfl (CellO.blk (i := 0) rfl rfl)) ((List.Sublist.refl _)) rfl rfl rfl ?_
              refine ExD.cmp_neq (i := 10) rfl (by kernel_rfl) rfl rfl rfl ((List.Sublist.refl _)) rfl rfl rfl (fun h46 => ?_) (fun h46 => ?_)
              · refine ExD.take (i := 11) rfl (by kernel_rfl) (pureVal_ok rfl) ((List.Sublist.refl _)) rfl rfl rfl ?_
                refine ExD.take (i := 12) rfl (by kernel_rfl) (pureVal_ok rfl) ((List.Sublist.refl _)) rfl rfl rfl ?_
                refine ExD.pass (i := 13) rfl (by kernel_rfl) ((List.Sublist.refl _)) rfl rfl rfl ?_
                refine ExD.pass (i := 14) rfl (by kernel_rfl) ((List.Sublist.refl _)) rfl rfl rfl ?_
                refine ExD.pass (i := 15) rfl (by kernel_rfl) ((List.Sublist.refl _)) rfl rfl rfl ?_
                refine ExD.take (i := 16) rfl (by kernel_rfl) (pureVal_ok rfl) ((List.Sublist.refl _)) rfl rfl rfl ?_
                refine ExD.done (by kernel_rfl) ?_
                refine Ex.cond_t rfl ?_
                refine Ex.regSeq (ExL.pures 1 rfl ?_)
                refine ExL.free (fr_loadN rfl rfl rfl rfl rfl (SegO.whole (i := 0) rfl)) rfl rfl rfl ?_
                refine ExL.op rfl (op_buildSlice (sz := 2) rfl rfl rfl rfl rfl rfl rfl rfl (by decide) rfl rfl rfl (fun r47 => ?_))
                refine ExL.op rfl (op_append (sz := 2) (bytes := 16) (i := 2) rfl rfl rfl rfl (Reads.row (i := 0) rfl) rfl (fun e => nomatch e) rfl rfl rfl rfl (by constructor <;> first | omega | (unfold maxLen; omega)) rfl rfl (fun A48 cA48 => ?_))
                refine ExL.pures 1 rfl ?_
                refine ExL.nil ?_
                refine Ex.exit ?_
                refine Ex.region (ExL.pures 1 rfl ?_)
                refine ExL.free (by first | exact fr_add64 rfl rfl rfl (by omega) | exact fr_add rfl rfl rfl) rfl rfl rfl ?_
                refine ExL.pures 1 rfl ?_
                refine ExL.nil ?_
                refine HandA.of (k + 1) (A48) (cA48) 3 [2] ⟨(by first | (rw [hsame]; first | done | rfl) | (rw [shortL_succ hkl, st_skip (by first | assumption | exact isP_t (by omega)) (by assumption)]; first | done | rfl) | (rw [shortL_succ hkl, st_new (fun h => by first | exact absurd h.2 (by assumption) | exact nP h.1 (by assumption) | exact nPk h.1 (by omega)) (by first | exact .inl (by omega) | exact .inr (.inl (by assumption)) | exact .inr (.inr (by assumption))), List.length_append]; rfl)), rfl, trivial⟩ ⟨rfl, trivial⟩ (by first | (rw [hsame]; first | done | rfl) | (rw [shortL_succ hkl, st_skip (by first | assumption | exact isP_t (by omega)) (by assumption)]; first | done | rfl) | (rw [shortL_succ hkl, st_new (fun h => by first | exact absurd h.2 (by assumption) | exact nP h.1 (by assumption) | exact nPk h.1 (by omega)) (by first | exact .inl (by omega) | exact .inr (.inl (by assumption)) | exact .inr (.inr (by assumption))), List.length_append, List.flatMap_append]; rfl)) rfl (⟨by omega, by rw [shortL_succ hkl]; exact low_next hI2 (hva k hkl) (by first | exact .inl ⟨(by first | assumption | exact isP_t (by omega)), by assumption⟩ | exact .inr (.inl (by first | exact .inl (by omega) | exact .inr (.inl (by assumption)) | exact .inr (.inr (by assumption)))) | exact .inr (.inr (by rw [← shortL_succ hkl]; assumption)))⟩) (by omega)
              · refine ExD.take (i := 11) rfl (by kernel_rfl) (pureVal_ok rfl) ((List.Sublist.refl _)) rfl rfl rfl ?_
                refine ExD.take (i := 12) rfl (by kernel_rfl) (pureVal_ok rfl) ((List.Sublist.refl _)) rfl rfl rfl ?_
                refine ExD.take (i := 13) rfl (by kernel_rfl) (pureVal_ok rfl) ((List.Sublist.refl _)) rfl rfl rfl ?_
                refine ExD.take (i := 14) rfl (by kernel_rfl) (fr_load rfl rfl rfl rfl (CellO.blk (i := 0) rfl rfl)) ((List.Sublist.refl _)) rfl rfl rfl ?_
                refine ExD.cmp_eql (i := 15) rfl (by kernel_rfl) rfl rfl rfl ((List.Sublist.refl _)) rfl rfl rfl (fun h50 => ?_) (fun h50 => ?_)
                · refine ExD.take (i := 16) rfl (by kernel_rfl) (pureVal_ok rfl) ((List.Sublist.refl _)) rfl rfl rfl ?_
                  refine ExD.done (by kernel_rfl) ?_
                  refine Ex.cond_t rfl ?_
                  refine Ex.regSeq (ExL.pures 1 rfl ?_)
                  refine ExL.free (fr_loadN rfl rfl rfl rfl rfl (SegO.whole (i := 0) rfl)) rfl rfl rfl ?_
                  refine ExL.op rfl (op_buildSlice (sz := 2) rfl rfl rfl rfl rfl rfl rfl rfl (by decide) rfl rfl rfl (fun r51 => ?_))
                  refine ExL.op rfl (op_append (sz := 2) (bytes := 16) (i := 2) rfl rfl rfl rfl (Reads.row (i := 0) rfl) rfl (fun e => nomatch e) rfl rfl rfl rfl (by constructor <;> first | omega | (unfold maxLen; omega)) rfl rfl (fun A52 cA52 => ?_))
                  refine ExL.pures 1 rfl ?_
                  refine ExL.nil ?_
                  refine Ex.exit ?_
                  refine Ex.region (ExL.pures 1 rfl ?_)
                  refine ExL.free (by first | exact fr_add64 rfl rfl rfl (by omega) | exact fr_add rfl rfl rfl) rfl rfl rfl ?_
                  refine ExL.pures 1 rfl ?_
                  refine ExL.nil ?_
                  refine HandA.of (k + 1) (A52) (cA52) 3 [2] ⟨(by first | (rw [hsame]; first | done | rfl) | (rw [shortL_succ hkl, st_skip (by first | assumption | exact isP_t (by omega)) (by assumption)]; first | done | rfl) | (rw [shortL_succ hkl, st_new (fun h => by first | exact absurd h.2 (by assumption) | exact nP h.1 (by assumption) | exact nPk h.1 (by omega)) (by first | exact .inl (by omega) | exact .inr (.inl (by assumption)) | exact .inr (.inr (by assumption))), List.length_append]; rfl)), rfl, trivial⟩ ⟨rfl, trivial⟩ (by first | (rw [hsame]; first | done | rfl) | (rw [shortL_succ hkl, st_skip (by first | assumption | exact isP_t (by omega)) (by assumption)]; first | done | rfl) | (rw [shortL_succ hkl, st_new (fun h => by first | exact absurd h.2 (by assumption) | exact nP h.1 (by assumption) | exact nPk h.1 (by omega)) (by first | exact .inl (by omega) | exact .inr (.inl (by assumption)) | exact .inr (.inr (by assumption))), List.length_append, List.flatMap_append]; rfl)) rfl (⟨by omega, by rw [shortL_succ hkl]; exact low_next hI2 (hva k hkl) (by first | exact .inl ⟨(by first | assumption | exact isP_t (by omega)), by assumption⟩ | exact .inr (.inl (by first | exact .inl (by omega) | exact .inr (.inl (by assumption)) | exact .inr (.inr (by assumption)))) | exact .inr (.inr (by rw [← shortL_succ hkl]; assumption)))⟩) (by omega)
                · refine ExD.take (i := 16) rfl (by kernel_rfl) (pureVal_ok rfl) ((List.Sublist.refl _)) rfl rfl rfl ?_
                  refine ExD.done (by kernel_rfl) ?_
                  refine Ex.cond_f rfl ?_
                  refine Ex.skip ?_
                  refine Ex.seq ?_
                  refine Ex.regSeq (ExL.pures 1 rfl ?_)
                  refine ExL.nil ?_
                  refine Ex.cond_f rfl ?_
                  refine Ex.region (ExL.pures 2 rfl ?_)
                  refine ExL.free (fr_loadN rfl rfl rfl rfl rfl (SegO.whole (i := 0) rfl)) rfl rfl rfl ?_
                  refine ExL.free (fr_indexAddrR (sz := 2) 1 rfl rfl rfl rfl rfl rfl (by omega)) rfl rfl rfl ?_
                  refine ExL.op rfl (op_storeRowF (i := 1) rfl rfl rfl rfl rfl rfl rfl rfl (room encA_len (k := (shortL l k).length - 1) (by omega) (by omega) rfl) (List.cons_ne_nil _ _) rfl (put_put hkl (fun h => by first | exact absurd h.2 (by assumption) | exact nP h.1 (by assumption) | exact nPk h.1 (by omega)) (by rintro (h | h | h) <;> first | omega | exact absurd h (by assumption)) (by first | assumption | exact isP_f (by omega)) (by omega)) ?_)
                  have hsame := sh_same hkl (fun h => by first | exact absurd h.2 (by assumption) | exact nP h.1 (by assumption) | exact nPk h.1 (by omega)) (by rintro (h | h | h) <;> first | omega | exact absurd h (by assumption))
                  refine ExL.nil ?_
                  refine Ex.regSeq (ExL.pures 2 rfl ?_)
                  refine ExL.free (fr_indexAddrR (sz := 2) 1 rfl rfl rfl rfl rfl rfl (by omega)) rfl rfl rfl ?_
                  refine ExL.free (fr_fieldAddrR 1 rfl (by omega) rfl rfl rfl rfl rfl rfl) rfl rfl rfl ?_
                  refine ExL.free (fr_load rfl rfl rfl rfl (cellJ (((shortL l k).length - 1)) (Reads.row (i := 1) rfl) encA_len zA 1 rfl (by omega) (by omega) rfl)) rfl rfl rfl ?_
                  refine ExL.gtr rfl rfl rfl rfl rfl rfl (fun h54 => ?_) (fun h54 => ?_)
                  · refine ExL.nil ?_
                    refine Ex.cond_t rfl ?_
                    refine Ex.regSeq (ExL.pures 0 rfl ?_)
                    refine ExL.op rfl (op_buildSlice (sz := 2) rfl rfl rfl rfl rfl rfl rfl rfl (by decide) rfl rfl rfl (fun r55 => ?_))
                    refine ExL.pures 2 rfl ?_
                    refine ExL.nil ?_
                    refine Ex.ret ?_
                    refine RetQ.mk ((some ⟨r55, 0, none⟩), 0) rfl (.tmp rfl (.tmp rfl .nil)) (t2 (by first | (rw [shk_bad (k := k) (by omega) (by assumption)]; first | done | rfl) | (rw [shk_long hbad (by assumption)]; first | done | rfl) | (rw [sh_bad (by assumption)]; first | done | rfl) | (rw [shk_big hkn haf (by assumption)]; first | done | rfl) | (rw [shk_ok hkn haf (by assumption)]; first | done | rfl) | (rw [shk_low hkn haf hI2]; first | done | rfl) | (rw [shk_over hkl haf (by rw [shortL_succ hkl]; exact over_chk (hva k hkl) (fun h => by first | exact absurd h.2 (by assumption) | exact nP h.1 (by assumption) | exact nPk h.1 (by omega)) (by rintro (h | h | h) <;> first | omega | exact absurd h (by assumption)) (by rw [← shortL_succ hkl]; assumption))]; first | done | rfl)) (by first | (rw [shk_bad (k := k) (by omega) (by assumption)]; first | done | rfl) | (rw [shk_long hbad (by assumption)]; first | done | rfl) | (rw [sh_bad (by assumption)]; first | done | rfl) | (rw [shk_big hkn haf (by assumption)]; first | done | rfl) | (rw [shk_ok hkn haf (by assumption)]; first | done | rfl) | (rw [shk_low hkn haf hI2]; first | done | rfl) | (rw [shk_over hkl haf (by rw [shortL_succ hkl]; exact over_chk (hva k hkl) (fun h => by first | exact absurd h.2 (by assumption) | exact nP h.1 (by assumption) | exact nPk h.1 (by omega)) (by rintro (h | h | h) <;> first | omega | exact absurd h (by assumption)) (by rw [← shortL_succ hkl]; assumption))]; first | done | rfl))) [0] (by first | (rw [shk_bad (k := k) (by omega) (by assumption)]; first | done | rfl) | (rw [shk_long hbad (by assumption)]; first | done | rfl) | (rw [sh_bad (by assumption)]; first | done | rfl) | (rw [shk_big hkn haf (by assumption)]; first | done | rfl) | (rw [shk_ok hkn haf (by assumption)]; first | done | rfl) | (rw [shk_low hkn haf hI2]; first | done | rfl) | (rw [shk_over hkl haf (by rw [shortL_succ hkl]; exact over_chk (hva k hkl) (fun h => by first | exact absurd h.2 (by assumption) | exact nP h.1 (by assumption) | exact nPk h.1 (by omega)) (by rintro (h | h | h) <;> first | omega | exact absurd h (by assumption)) (by rw [← shortL_succ hkl]; assumption))]; first | done | rfl)) rfl (trivial)
                  · refine ExL.nil ?_
                    refine Ex.cond_f rfl ?_
                    refine Ex.skip ?_
                    refine Ex.region (ExL.pures 1 rfl ?_)
                    refine ExL.free (by first | exact fr_add64 rfl rfl rfl (by omega) | exact fr_add rfl rfl rfl) rfl rfl rfl ?_
                    refine ExL.pures 1 rfl ?_
                    refine ExL.nil ?_
                    refine HandA.of (k + 1) (A) (c) 2 [1] ⟨(by first | (rw [hsame]; first | done | rfl) | (rw [shortL_succ hkl, st_skip (by first | assumption | exact isP_t (by omega)) (by assumption)]; first | done | rfl) | (rw [shortL_succ hkl, st_new (fun h => by first | exact absurd h.2 (by assumption) | exact nP h.1 (by assumption) | exact nPk h.1 (by omega)) (by first | exact .inl (by omega) | exact .inr (.inl (by assumption)) | exact .inr (.inr (by assumption))), List.length_append]; rfl)), rfl, trivial⟩ ⟨rfl, trivial⟩ (by first | (rw [hsame]; first | done | rfl) | (rw [shortL_succ hkl, st_skip (by first | assumption | exact isP_t (by omega)) (by assumption)]; first | done | rfl) | (rw [shortL_succ hkl, st_new (fun h => by first | exact absurd h.2 (by assumption) | exact nP h.1 (by assumption) | exact nPk h.1 (by omega)) (by first | exact .inl (by omega) | exact .inr (.inl (by assumption)) | exact .inr (.inr (by assumption))), List.length_append, List.flatMap_append]; rfl)) rfl (⟨by omega, by rw [shortL_succ hkl]; exact low_next hI2 (hva k hkl) (by first | exact .inl ⟨(by first | assumption | exact isP_t (by omega)), by assumption⟩ | exact .inr (.inl (by first | exact .inl (by omega) | exact .inr (.inl (by assumption)) | exact .inr (.inr (by assumption)))) | exact .inr (.inr (by rw [← shortL_succ hkl]; assumption)))⟩) (by omega)
      · refine ExL.nil ?_
        refine Ex.cond_f rfl ?_
        refine Ex.exit ?_
        have hkn : k = l.length := (by omega)
        refine Ex.regSeq (ExL.pures 3 rfl ?_)
        refine ExL.nil ?_
        refine Ex.ret ?_
        refine RetQ.mk (A, c) rfl (.tmp rfl (.tmp rfl .nil)) (t2 (by first | (rw [shk_bad (k := k) (by omega) (by assumption)]; first | done | rfl) | (rw [shk_long hbad (by assumption)]; first | done | rfl) | (rw [sh_bad (by assumption)]; first | done | rfl) | (rw [shk_big hkn haf (by assumption)]; first | done | rfl) | (rw [shk_ok hkn haf (by assumption)]; first | done | rfl) | (rw [shk_low hkn haf hI2]; first | done | rfl) | (rw [shk_over hkl haf (by rw [shortL_succ hkl]; exact over_chk (hva k hkl) (fun h => by first | exact absurd h.2 (by assumption) | exact nP h.1 (by assumption) | exact nPk h.1 (by omega)) (by rintro (h | h | h) <;> first | omega | exact absurd h (by assumption)) (by rw [← shortL_succ hkl]; assumption))]; first | done | rfl)) (by first | (rw [shk_bad (k := k) (by omega) (by assumption)]; first | done | rfl) | (rw [shk_long hbad (by assumption)]; first | done | rfl) | (rw [sh_bad (by assumption)]; first | done | rfl) | (rw [shk_big hkn haf (by assumption)]; first | done | rfl) | (rw [shk_ok hkn haf (by assumption)]; first | done | rfl) | (rw [shk_low hkn haf hI2]; first | done | rfl) | (rw [shk_over hkl haf (by rw [shortL_succ hkl]; exact over_chk (hva k hkl) (fun h => by first | exact absurd h.2 (by assumption) | exact nP h.1 (by assumption) | exact nPk h.1 (by omega)) (by rintro (h | h | h) <;> first | omega | exact absurd h (by assumption)) (by rw [← shortL_succ hkl]; assumption))]; first | done | rfl))) [0] (by first | (rw [shk_bad (k := k) (by omega) (by assumption)]; first | done | rfl) | (rw [shk_long hbad (by assumption)]; first | done | rfl) | (rw [sh_bad (by assumption)]; first | done | rfl) | (rw [shk_big hkn haf (by assumption)]; first | done | rfl) | (rw [shk_ok hkn haf (by assumption)]; first | done | rfl) | (rw [shk_low hkn haf hI2]; first | done | rfl) | (rw [shk_over hkl haf (by rw [shortL_succ hkl]; exact over_chk (hva k hkl) (fun h => by first | exact absurd h.2 (by assumption) | exact nP h.1 (by assumption) | exact nPk h.1 (by omega)) (by rintro (h | h | h) <;> first | omega | exact absurd h (by assumption)) (by rw [← shortL_succ hkl]; assumption))]; first | done | rfl)) rfl (trivial)
end Go.Proofs.Ytjopackngkfdhaa
