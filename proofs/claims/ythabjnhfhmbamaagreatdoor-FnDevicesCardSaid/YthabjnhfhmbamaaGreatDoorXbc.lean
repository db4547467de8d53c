/- Several texts, one behind the other. -/
import Derived.Test.YthabjnhfhmbamaaGreatDoorProg
import Derived.Test.YthabjnhfhmbamaaGreatDoorXaa
import Derived.Test.YthabjnhfhmbamaaGreatDoorXab
import Derived.Test.YthabjnhfhmbamaaGreatDoorXac
import Derived.Test.YthabjnhfhmbamaaGreatDoorXba
import Derived.Test.YthabjnhfhmbamaaGreatDoorXbb
/- What these functions of the program hand back, each proved by walking its operations. -/
set_option linter.unusedVariables false
set_option linter.unusedSimpArgs false
set_option maxRecDepth 4000
namespace Go.Proofs.YthabjnhfhmbamaaGreatDoor
open Go Go.Sx Go.RowKit Go.W Go.Proofs
attribute [local irreducible] Ex ExL ExD Op1 Free RetQ MutQ Reads CellO SegO LoadsAs
theorem e_11 : Enters Tryz.prog 11 := Enters.of Tryz.func11 rfl
theorem c_iShortActs (l : List VAct) (Al : Option Addr) (cl : Nat) (hll : l.length ≤ maxLen) : Ret Tryz.prog 11 [.slice Al l.length cl] (fun w => Rd w Al (l.flatMap encA)) (fun x : Option Addr × Nat => .tuple #[.slice x.1 (shortV l).1.length x.2, .int .i64 (shortV l).2]) (fun x => [.row (.slice x.1 ((shortV l).1).length x.2) 44 2 ((shortV l).1).length (((shortV l).1).flatMap encA)]) (fun x => True) := by
  refine Ret.of e_11 Tryz.func11 rfl Tryz.ntmps11 rfl rfl (fun w hpre => ?_)
  have hl := hpre.base
  have hm0 : maxLen = 9223372036854775807 := rfl
  refine Ex.regSeq (ExL.pures 2 rfl ?_)
  refine ExL.nil ?_
  refine Ex.seq ?_
  refine Ex.regSeq (ExL.pures 1 rfl ?_)
  refine ExL.op rfl (op_ret rfl rfl rfl (c_actsFault l _ _ (by omega)) (Reads.get (Reads.old hl)) rfl rfl (fun x1 hx1 => ?_))
  refine ExL.pures 1 rfl ?_
  refine ExL.nil ?_
  refine Ex.regSeq (ExL.pures 1 rfl ?_)
  refine ExL.neq rfl rfl rfl rfl rfl rfl (fun h2 => ?_) (fun h2 => ?_)
  · refine ExL.nil ?_
    refine Ex.cond_t rfl ?_
    refine Ex.regSeq (ExL.pures 3 rfl ?_)
    refine ExL.nil ?_
    refine Ex.nilRow 44 2 ?_
    refine Ex.ret ?_
    refine RetQ.mk (none, 0) rfl (.tmp rfl (.tmp rfl .nil)) (t2 (by first | (rw [shk_bad (k := k) (by omega) (by assumption)]; first | done | rfl) | (rw [shk_long hbad (by assumption)]; first | done | rfl) | (rw [sh_bad (by assumption)]; first | done | rfl) | (rw [shk_big hkn haf (by assumption)]; first | done | rfl) | (rw [shk_ok hkn haf (by assumption)]; first | done | rfl) | (rw [shk_low hkn haf hI2]; first | done | rfl) | (rw [shk_over hkl haf (by rw [shortL_succ hkl]; exact over_chk (hva k hkl) (fun h => by first | exact absurd h.2 (by assumption) | exact nP h.1 (by assumption) | exact nPk h.1 (by omega)) (by rintro (h | h | h) <;> first | omega | exact absurd h (by assumption)) (by rw [← shortL_succ hkl]; assumption))]; first | done | rfl)) (by first | (rw [shk_bad (k := k) (by omega) (by assumption)]; first | done | rfl) | (rw [shk_long hbad (by assumption)]; first | done | rfl) | (rw [sh_bad (by assumption)]; first | done | rfl) | (rw [shk_big hkn haf (by assumption)]; first | done | rfl) | (rw [shk_ok hkn haf (by assumption)]; first | done | rfl) | (rw [shk_low hkn haf hI2]; first | done | rfl) | (rw [shk_over hkl haf (by rw [shortL_succ hkl]; exact over_chk (hva k hkl) (fun h => by first | exact absurd h.2 (by assumption) | exact nP h.1 (by assumption) | exact nPk h.1 (by omega)) (by rintro (h | h | h) <;> first | omega | exact absurd h (by assumption)) (by rw [← shortL_succ hkl]; assumption))]; first | done | rfl))) [0] (by first | (rw [shk_bad (k := k) (by omega) (by assumption)]; first | done | rfl) | (rw [shk_long hbad (by assumption)]; first | done | rfl) | (rw [sh_bad (by assumption)]; first | done | rfl) | (rw [shk_big hkn haf (by assumption)]; first | done | rfl) | (rw [shk_ok hkn haf (by assumption)]; first | done | rfl) | (rw [shk_low hkn haf hI2]; first | done | rfl) | (rw [shk_over hkl haf (by rw [shortL_succ hkl]; exact over_chk (hva k hkl) (fun h => by first | exact absurd h.2 (by assumption) | exact nP h.1 (by assumption) | exact nPk h.1 (by omega)) (by rintro (h | h | h) <;> first | omega | exact absurd h (by assumption)) (by rw [← shortL_succ hkl]; assumption))]; first | done | rfl)) rfl (trivial)
  · refine ExL.nil ?_
    refine Ex.cond_f rfl ?_
    refine Ex.skip ?_
    refine Ex.regSeq (ExL.pures 0 rfl ?_)
    refine ExL.op rfl (op_buildSlice (sz := 2) rfl rfl rfl rfl rfl rfl rfl rfl (by decide) rfl rfl rfl (fun r3 => ?_))
    refine ExL.pures 1 rfl ?_
    refine ExL.nil ?_
    refine Ex.seq ?_
    refine Ex.regSeq (ExL.pures 3 rfl ?_)
    refine ExL.nil ?_
    refine Ex.block ?_
    have haf : ¬ afault l ≠ 0 := (by assumption)
    obtain ⟨hva, h60⟩ := af_zero haf
    refine Ex.loopA (fun k A c => [(5, .slice A (shortL l k).length c), (17, .int .i64 k)]) (fun k A c => [.row (.slice A (shortL l k).length c) 44 2 (shortL l k).length ((shortL l k).flatMap encA)]) (fun k => k ≤ l.length) (fun k => l.length - k) 0 ((some ⟨r3, 0, none⟩)) (0) [(2, _), (3, _), (15, _), (16, _)] [] 1 [0] ⟨rfl, rfl, trivial⟩ ⟨rfl, rfl, rfl, rfl, trivial⟩ (rfl) rfl (Nat.zero_le _) (fun k A c hI => ?_)
    have hI : k ≤ l.length := hI
    have hsl := shortL_len l k
    have hb1 := (shortL_low hva k hI).any (by omega) ((shortL l k).length - 1)
    refine Ex.regSeq (ExL.pures 0 rfl ?_)
    refine ExL.lss rfl rfl rfl rfl rfl rfl (fun h4 => ?_) (fun h4 => ?_)
    · refine ExL.nil ?_
      refine Ex.seq ?_
      refine Ex.cond_t rfl ?_
      refine Ex.skip ?_
      refine Ex.seq ?_
      refine Ex.block ?_
      have hkl : k < l.length := (by omega)
      obtain ⟨hv1, hv2, hv3⟩ := valid_n (hva k hkl)
      refine Ex.regSeq (ExL.pures 0 rfl ?_)
      refine ExL.free (fr_indexAddrF (Reads.old hl) encA_len rfl rfl rfl rfl rfl rfl (by omega)) rfl rfl rfl ?_
      refine ExL.free (fr_loadN rfl rfl rfl rfl rfl (by first | exact segN (Reads.old hl) encA_len rfl zA (by omega) | exact segF (Reads.old hl) encA_len rfl zA (by omega))) rfl rfl rfl ?_
      refine ExL.op rfl (op_alloc rfl rfl rfl rfl rfl (fun b5 => ?_))
      refine ExL.op rfl (op_storeC (i := 0) rfl rfl rfl rfl rfl rfl rfl rfl rfl rfl ?_)
      refine ExL.nil ?_
      refine Ex.regSeq (ExL.pures 2 rfl ?_)
      refine ExL.free (by first | exact fr_sub64 rfl rfl rfl (by omega) | exact fr_sub rfl rfl rfl) rfl rfl rfl ?_
      refine ExL.pures 1 rfl ?_
      refine ExL.nil ?_
      refine Ex.block ?_
      refine Ex.regSeq (ExL.pures 0 rfl ?_)
      refine ExL.free (fr_loadN rfl rfl rfl rfl rfl (SegO.whole (i := 0) rfl)) rfl rfl rfl ?_
      refine ExL.op rfl (op_ret rfl rfl rfl (c_isPulse (l.getD k zA)) (fun _ _ => trivial) rfl rfl (fun x6 hx6 => ?_))
      refine ExL.pures 1 rfl ?_
      refine ExL.bool (d := 31) rfl (fun hb7 => ?_) (fun hb7 => ?_)
      · refine ExL.pures 1 rfl ?_
        refine ExL.free (fr_load rfl rfl rfl rfl (CellO.blk (i := 0) rfl rfl)) rfl rfl rfl ?_
        refine ExL.eql rfl rfl rfl rfl rfl rfl (fun h8 => ?_) (fun h8 => ?_)
        · refine ExL.pures 2 rfl ?_
          refine ExL.nil ?_
          refine Ex.cond_t rfl ?_
          refine Ex.skip ?_
          refine Ex.region (ExL.pures 0 rfl ?_)
          refine ExL.free (by first | exact fr_add64 rfl rfl rfl (by omega) | exact fr_add rfl rfl rfl) rfl rfl rfl ?_
          refine ExL.pures 1 rfl ?_
          refine ExL.nil ?_
          refine HandA.of (k + 1) (A) (c) 2 [1] ⟨(by first | (rw [hsame]; first | done | rfl) | (rw [shortL_succ hkl, st_skip (by first | assumption | exact isP_t (by omega)) (by assumption)]; first | done | rfl) | (rw [shortL_succ hkl, st_new (fun h => by first | exact absurd h.2 (by assumption) | exact nP h.1 (by assumption) | exact nPk h.1 (by omega)) (by first | exact .inl (by omega) | exact .inr (.inl (by assumption)) | exact .inr (.inr (by assumption))), List.length_append]; rfl)), rfl, trivial⟩ ⟨rfl, rfl, rfl, rfl, trivial⟩ (by first | (rw [hsame]; first | done | rfl) | (rw [shortL_succ hkl, st_skip (by first | assumption | exact isP_t (by omega)) (by assumption)]; first | done | rfl) | (rw [shortL_succ hkl, st_new (fun h => by first | exact absurd h.2 (by assumption) | exact nP h.1 (by assumption) | exact nPk h.1 (by omega)) (by first | exact .inl (by omega) | exact .inr (.inl (by assumption)) | exact .inr (.inr (by assumption))), List.length_append, List.flatMap_append]; rfl)) rfl (by omega) (by omega)
        · refine ExL.pures 2 rfl ?_
          refine ExL.nil ?_
          refine Ex.cond_f rfl ?_
          refine Ex.drawSeqM rfl ?_
          refine ExD.take (i := 0) rfl (by kernel_rfl) (pureVal_ok rfl) ((List.Sublist.refl _)) rfl rfl rfl ?_
          refine ExD.cmp_lss (i := 1) rfl (by kernel_rfl) rfl rfl rfl ((List.Sublist.refl _)) rfl rfl rfl (fun h9 => ?_) (fun h9 => ?_)
          · refine ExD.take (i := 2) rfl (by kernel_rfl) (pureVal_ok rfl) ((List.Sublist.refl _)) rfl rfl rfl ?_
            refine ExD.pass (i := 3) rfl (by kernel_rfl) ((List.Sublist.refl _)) rfl rfl rfl ?_
            refine ExD.pass (i := 4) rfl (by kernel_rfl) ((List.Sublist.refl _)) rfl rfl rfl ?_
            refine ExD.pass (i := 5) rfl (by kernel_rfl) ((List.Sublist.refl _)) rfl rfl rfl ?_
            refine ExD.pass (i := 6) rfl (by kernel_rfl) ((List.Sublist.refl _)) rfl rfl rfl ?_
            refine ExD.pass (i := 7) rfl (by kernel_rfl) ((List.Sublist.refl _)) rfl rfl rfl ?_
            refine ExD.pass (i := 8) rfl (by kernel_rfl) ((List.Sublist.refl _)) rfl rfl rfl ?_
            refine ExD.pass (i := 9) rfl (by kernel_rfl) ((List.Sublist.refl _)) rfl rfl rfl ?_
            refine ExD.pass (i := 10) rfl (by kernel_rfl) ((List.Sublist.refl _)) rfl rfl rfl ?_
            refine ExD.take (i := 11) rfl (by kernel_rfl) (pureVal_ok rfl) ((List.Sublist.refl _)) rfl rfl rfl ?_
            refine ExD.take (i := 12) rfl (by kernel_rfl) (pureVal_ok rfl) ((List.Sublist.refl _)) rfl rfl rfl ?_
            refine ExD.pass (i := 13) rfl (by kernel_rfl) ((List.Sublist.refl _)) rfl rfl rfl ?_
            refine ExD.pass (i := 14) rfl (by kernel_rfl) ((List.Sublist.refl _)) rfl rfl rfl ?_
            refine ExD.pass (i := 15) rfl (by kernel_rfl) ((List.Sublist.refl _)) rfl rfl rfl ?_
            refine ExD.take (i := 16) rfl (by kernel_rfl) (pureVal_ok rfl) ((List.Sublist.refl _)) rfl rfl rfl ?_
            refine ExD.take (i := 17) rfl (by kernel_rfl) (pureVal_ok rfl) ((List.Sublist.refl _)) rfl rfl rfl ?_
            refine ExD.done (by kernel_rfl) ?_
            refine Ex.cond_t rfl ?_
            refine Ex.region (ExL.pures 1 rfl ?_)
            refine ExL.free (fr_loadN rfl rfl rfl rfl rfl (SegO.whole (i := 0) rfl)) rfl rfl rfl ?_
            refine ExL.op rfl (op_buildSlice (sz := 2) rfl rfl rfl rfl rfl rfl rfl rfl (by decide) rfl rfl rfl (fun r10 => ?_))
            refine ExL.op rfl (op_append (sz := 2) (bytes := 16) (i := 2) rfl rfl rfl rfl (Reads.row (i := 0) rfl) rfl (fun e => nomatch e) rfl rfl rfl rfl (by constructor <;> first | omega | (unfold maxLen; omega)) rfl rfl (fun A11 cA11 => ?_))
            refine ExL.pures 1 rfl ?_
            refine ExL.nil ?_
            refine Ex.region (ExL.pures 0 rfl ?_)
            refine ExL.free (by first | exact fr_add64 rfl rfl rfl (by omega) | exact fr_add rfl rfl rfl) rfl rfl rfl ?_
            refine ExL.pures 1 rfl ?_
            refine ExL.nil ?_
            refine HandA.of (k + 1) (A11) (cA11) 3 [2] ⟨(by first | (rw [hsame]; first | done | rfl) | (rw [shortL_succ hkl, st_skip (by first | assumption | exact isP_t (by omega)) (by assumption)]; first | done | rfl) | (rw [shortL_succ hkl, st_new (fun h => by first | exact absurd h.2 (by assumption) | exact nP h.1 (by assumption) | exact nPk h.1 (by omega)) (by first | exact .inl (by omega) | exact .inr (.inl (by assumption)) | exact .inr (.inr (by assumption))), List.length_append]; rfl)), rfl, trivial⟩ ⟨rfl, rfl, rfl, rfl, trivial⟩ (by first | (rw [hsame]; first | done | rfl) | (rw [shortL_succ hkl, st_skip (by first | assumption | exact isP_t (by omega)) (by assumption)]; first | done | rfl) | (rw [shortL_succ hkl, st_new (fun h => by first | exact absurd h.2 (by assumption) | exact nP h.1 (by assumption) | exact nPk h.1 (by omega)) (by first | exact .inl (by omega) | exact .inr (.inl (by assumption)) | exact .inr (.inr (by assumption))), List.length_append, List.flatMap_append]; rfl)) rfl (by omega) (by omega)
          · refine ExD.take (i := 2) rfl (by kernel_rfl) (pureVal_ok rfl) ((List.Sublist.refl _)) rfl rfl rfl ?_
            refine ExD.take (i := 3) rfl (by kernel_rfl) (pureVal_ok rfl) ((List.Sublist.refl _)) rfl rfl rfl ?_
            refine ExD.take (i := 4) rfl (by kernel_rfl) (pureVal_ok rfl) ((List.Sublist.refl _)) rfl rfl rfl ?_
            refine ExD.take (i := 5) rfl (by kernel_rfl) (fr_indexAddrR (sz := 2) 1 rfl rfl rfl rfl rfl rfl (by omega)) ((List.Sublist.refl _)) rfl rfl rfl ?_
            refine ExD.take (i := 6) rfl (by kernel_rfl) (fr_fieldAddrR 1 rfl (by omega) rfl rfl rfl rfl rfl rfl) ((List.Sublist.refl _)) rfl rfl rfl ?_
            refine ExD.take (i := 7) rfl (by kernel_rfl) (fr_load rfl rfl rfl rfl (cellJ (((shortL l k).length - 1)) (Reads.row (i := 1) rfl) encA_len zA 0 rfl (by omega) (by omega) rfl)) ((List.Sublist.refl _)) rfl rfl rfl ?_
            refine ExD.take (i := 8) rfl (by kernel_rfl) (pureVal_ok rfl) ((List.Sublist.refl _)) rfl rfl rfl ?_
            refine ExD.take (i := 9) rfl (by kernel_rfl) (fr_load rfl rfl rfl rfl (CellO.blk (i := 0) rfl rfl)) ((List.Sublist.refl _)) rfl rfl rfl ?_
            refine ExD.cmp_neq (i := 10) rfl (by kernel_rfl) rfl rfl rfl ((List.Sublist.refl _)) rfl rfl rfl (fun h13 => ?_) (fun h13 => ?_)
            · refine ExD.take (i := 11) rfl (by kernel_rfl) (pureVal_ok rfl) ((List.Sublist.refl _)) rfl rfl rfl ?_
              refine ExD.take (i := 12) rfl (by kernel_rfl) (pureVal_ok rfl) ((List.Sublist.refl _)) rfl rfl rfl ?_
              refine ExD.pass (i := 13) rfl (by kernel_rfl) ((List.Sublist.refl _)) rfl rfl rfl ?_
              refine ExD.pass (i := 14) rfl (by kernel_rfl) ((List.Sublist.refl _)) rfl rfl rfl ?_
              refine ExD.pass (i := 15) rfl (by kernel_rfl) ((List.Sublist.refl _)) rfl rfl rfl ?_
              refine ExD.take (i := 16) rfl (by kernel_rfl) (pureVal_ok rfl) ((List.Sublist.refl _)) rfl rfl rfl ?_
              refine ExD.take (i := 17) rfl (by kernel_rfl) (pureVal_ok rfl) ((List.Sublist.refl _)) rfl rfl rfl ?_
              refine ExD.done (by kernel_rfl) ?_
              refine Ex.cond_t rfl ?_
              refine Ex.region (ExL.pures 1 rfl ?_)
              refine ExL.free (fr_loadN rfl rfl rfl rfl rfl (SegO.whole (i := 0) rfl)) rfl rfl rfl ?_
              refine ExL.op rfl (op_buildSlice (sz := 2) rfl rfl rfl rfl rfl rfl rfl rfl (by decide) rfl rfl rfl (fun r14 => ?_))
              refine ExL.op rfl (op_append (sz := 2) (bytes := 16) (i := 2) rfl rfl rfl rfl (Reads.row (i := 0) rfl) rfl (fun e => nomatch e) rfl rfl rfl rfl (by constructor <;> first | omega | (unfold maxLen; omega)) rfl rfl (fun A15 cA15 => ?_))
              refine ExL.pures 1 rfl ?_
              refine ExL.nil ?_
              refine Ex.region (ExL.pures 0 rfl ?_)
              refine ExL.free (by first | exact fr_add64 rfl rfl rfl (by omega) | exact fr_add rfl rfl rfl) rfl rfl rfl ?_
              refine ExL.pures 1 rfl ?_
              refine ExL.nil ?_
              refine HandA.of (k + 1) (A15) (cA15) 3 [2] ⟨(by first | (rw [hsame]; first | done | rfl) | (rw [shortL_succ hkl, st_skip (by first | assumption | exact isP_t (by omega)) (by assumption)]; first | done | rfl) | (rw [shortL_succ hkl, st_new (fun h => by first | exact absurd h.2 (by assumption) | exact nP h.1 (by assumption) | exact nPk h.1 (by omega)) (by first | exact .inl (by omega) | exact .inr (.inl (by assumption)) | exact .inr (.inr (by assumption))), List.length_append]; rfl)), rfl, trivial⟩ ⟨rfl, rfl, rfl, rfl, trivial⟩ (by first | (rw [hsame]; first | done | rfl) | (rw [shortL_succ hkl, st_skip (by first | assumption | exact isP_t (by omega)) (by assumption)]; first | done | rfl) | (rw [shortL_succ hkl, st_new (fun h => by first | exact absurd h.2 (by assumption) | exact nP h.1 (by assumption) | exact nPk h.1 (by omega)) (by first | exact .inl (by omega) | exact .inr (.inl (by assumption)) | exact .inr (.inr (by assumption))), List.length_append, List.flatMap_append]; rfl)) rfl (by omega) (by omega)
            · refine ExD.take (i := 11) rfl (by kernel_rfl) (pureVal_ok rfl) ((List.Sublist.refl _)) rfl rfl rfl ?_
              refine ExD.take (i := 12) rfl (by kernel_rfl) (pureVal_ok rfl) ((List.Sublist.refl _)) rfl rfl rfl ?_
              refine ExD.take (i := 13) rfl (by kernel_rfl) (pureVal_ok rfl) ((List.Sublist.refl _)) rfl rfl rfl ?_
              refine ExD.take (i := 14) rfl (by kernel_rfl) (fr_load rfl rfl rfl rfl (CellO.blk (i := 0) rfl rfl)) ((List.Sublist.refl _)) rfl rfl rfl ?_
              refine ExD.cmp_eql (i := 15) rfl (by kernel_rfl) rfl rfl rfl ((List.Sublist.refl _)) rfl rfl rfl (fun h17 => ?_) (fun h17 => ?_)
              · refine ExD.take (i := 16) rfl (by kernel_rfl) (pureVal_ok rfl) ((List.Sublist.refl _)) rfl rfl rfl ?_
                refine ExD.take (i := 17) rfl (by kernel_rfl) (pureVal_ok rfl) ((List.Sublist.refl _)) rfl rfl rfl ?_
                refine ExD.done (by kernel_rfl) ?_
                refine Ex.cond_t rfl ?_
                refine Ex.region (ExL.pures 1 rfl ?_)
                refine ExL.free (fr_loadN rfl rfl rfl rfl rfl (SegO.whole (i := 0) rfl)) rfl rfl rfl ?_
                refine ExL.op rfl (op_buildSlice (sz := 2) rfl rfl rfl rfl rfl rfl rfl rfl (by decide) rfl rfl rfl (fun r18 => ?_))
                refine ExL.op rfl (op_append (sz := 2) (bytes := 16) (i := 2) rfl rfl rfl rfl (Reads.row (i := 0) rfl) rfl (fun e => nomatch e) rfl rfl rfl rfl (by constructor <;> first | omega | (unfold maxLen; omega)) rfl rfl (fun A19 cA19 => ?_))
                refine ExL.pures 1 rfl ?_
                refine ExL.nil ?_
                refine Ex.region (ExL.pures 0 rfl ?_)
                refine ExL.free (by first | exact fr_add64 rfl rfl rfl (by omega) | exact fr_add rfl rfl rfl) rfl rfl rfl ?_
                refine ExL.pures 1 rfl ?_
                refine ExL.nil ?_
                refine HandA.of (k + 1) (A19) (cA19) 3 [2] ⟨(by first | (rw [hsame]; first | done | rfl) | (rw [shortL_succ hkl, st_skip (by first | assumption | exact isP_t (by omega)) (by assumption)]; first | done | rfl) | (rw [shortL_succ hkl, st_new (fun h => by first | exact absurd h.2 (by assumption) | exact nP h.1 (by assumption) | exact nPk h.1 (by omega)) (by first | exact .inl (by omega) | exact .inr (.inl (by assumption)) | exact .inr (.inr (by assumption))), List.length_append]; rfl)), rfl, trivial⟩ ⟨rfl, rfl, rfl, rfl, trivial⟩ (by first | (rw [hsame]; first | done | rfl) | (rw [shortL_succ hkl, st_skip (by first | assumption | exact isP_t (by omega)) (by assumption)]; first | done | rfl) | (rw [shortL_succ hkl, st_new (fun h => by first | exact absurd h.2 (by assumption) | exact nP h.1 (by assumption) | exact nPk h.1 (by omega)) (by first | exact .inl (by omega) | exact .inr (.inl (by assumption)) | exact .inr (.inr (by assumption))), List.length_append, List.flatMap_append]; rfl)) rfl (by omega) (by omega)
              · refine ExD.take (i := 16) rfl (by kernel_rfl) (pureVal_ok rfl) ((List.Sublist.refl _)) rfl rfl rfl ?_
                refine ExD.take (i := 17) rfl (by kernel_rfl) (pureVal_ok rfl) ((List.Sublist.refl _)) rfl rfl rfl ?_
                refine ExD.done (by kernel_rfl) ?_
                refine Ex.cond_f rfl ?_
                refine Ex.regSeq (ExL.pures 0 rfl ?_)
                refine ExL.free (fr_loadN rfl rfl rfl rfl rfl (SegO.whole (i := 0) rfl)) rfl rfl rfl ?_
                refine ExL.op rfl (op_ret rfl rfl rfl (c_isPulse (l.getD k zA)) (fun _ _ => trivial) rfl rfl (fun x21 hx21 => ?_))
                refine ExL.pures 1 rfl ?_
                refine ExL.nil ?_
                refine Ex.cond rfl (fun hb22 => ?_) (fun hb22 => ?_)
                · refine Ex.drawI [0] rfl rfl ?_
                  refine ExD.take (i := 0) rfl (by kernel_rfl) (pureVal_ok rfl) ((List.Sublist.cons_cons _ (List.nil_sublist _))) rfl rfl rfl ?_
                  refine ExD.take (i := 1) rfl (by kernel_rfl) (pureVal_ok rfl) ((List.Sublist.cons_cons _ (List.nil_sublist _))) rfl rfl rfl ?_
                  refine ExD.take (i := 5) rfl (by kernel_rfl) (pureVal_ok rfl) ((List.Sublist.cons_cons _ (List.nil_sublist _))) rfl rfl rfl ?_
                  refine ExD.take (i := 6) rfl (by kernel_rfl) (fr_load rfl rfl rfl rfl (CellO.blk (i := 0) rfl rfl)) ((List.Sublist.cons_cons _ (List.nil_sublist _))) rfl rfl rfl ?_
                  refine ExD.op (i := 2) rfl (by kernel_rfl) rfl (Op1.of_free (fr_indexAddrR (sz := 2) 1 rfl rfl rfl rfl rfl rfl (by omega)) rfl rfl ⟨(List.Sublist.cons_cons _ (List.nil_sublist _)), ?_⟩)
                  refine ExD.op (i := 3) rfl (by kernel_rfl) rfl (Op1.of_free (fr_fieldAddrR 1 rfl (by omega) rfl rfl rfl rfl rfl rfl) rfl rfl ⟨(List.Sublist.cons_cons _ (List.nil_sublist _)), ?_⟩)
                  refine ExD.op (i := 4) rfl (by kernel_rfl) rfl (Op1.of_free (fr_load rfl rfl rfl rfl (cellJ (((shortL l k).length - 1)) (Reads.row (i := 1) rfl) encA_len zA 1 rfl (by omega) (by omega) rfl)) rfl rfl ⟨(List.Sublist.cons_cons _ (List.nil_sublist _)), ?_⟩)
                  refine ExD.take (i := 7) rfl (by kernel_rfl) (by first | exact fr_add64 rfl rfl rfl (by omega) | exact fr_add rfl rfl rfl) ((List.Sublist.cons_cons _ (List.nil_sublist _))) rfl rfl rfl ?_
                  refine ExD.op (i := 8) rfl (by kernel_rfl) rfl (Op1.of_free (fr_indexAddrR (sz := 2) 1 rfl rfl rfl rfl rfl rfl (by omega)) rfl rfl ⟨(List.Sublist.cons_cons _ (List.nil_sublist _)), ?_⟩)
                  refine ExD.op (i := 9) rfl (by kernel_rfl) rfl (Op1.of_free (fr_fieldAddrR 1 rfl (by omega) rfl rfl rfl rfl rfl rfl) rfl rfl ⟨(List.Sublist.cons_cons _ (List.nil_sublist _)), ?_⟩)
                  refine ExD.op (i := 10) rfl (by kernel_rfl) rfl (op_storeRowF (i := 1) rfl rfl rfl rfl rfl rfl rfl rfl (room_at encA_len (k := (shortL l k).length - 1) (q := 1) (by omega) (by first | omega | (simp; omega) | (simp; done)) rfl) (List.cons_ne_nil _ _) rfl (put_add hkl (fun h => by first | exact absurd h.2 (by assumption) | exact nP h.1 (by assumption) | exact nPk h.1 (by omega)) (by rintro (h | h | h) <;> first | omega | exact absurd h (by assumption)) (by first | assumption | exact isP_t (by omega)) (by first | omega | (simp; omega) | (simp; done))) ⟨(List.Sublist.cons_cons _ (List.nil_sublist _)), ?_⟩)
                  have hsame := sh_same hkl (fun h => by first | exact absurd h.2 (by assumption) | exact nP h.1 (by assumption) | exact nPk h.1 (by omega)) (by rintro (h | h | h) <;> first | omega | exact absurd h (by assumption))
                  refine ExD.done (by kernel_rfl) ?_
                  refine Ex.region (ExL.pures 0 rfl ?_)
                  refine ExL.free (by first | exact fr_add64 rfl rfl rfl (by omega) | exact fr_add rfl rfl rfl) rfl rfl rfl ?_
                  refine ExL.pures 1 rfl ?_
                  refine ExL.nil ?_
                  refine HandA.of (k + 1) (A) (c) 2 [1] ⟨(by first | (rw [hsame]; first | done | rfl) | (rw [shortL_succ hkl, st_skip (by first | assumption | exact isP_t (by omega)) (by assumption)]; first | done | rfl) | (rw [shortL_succ hkl, st_new (fun h => by first | exact absurd h.2 (by assumption) | exact nP h.1 (by assumption) | exact nPk h.1 (by omega)) (by first | exact .inl (by omega) | exact .inr (.inl (by assumption)) | exact .inr (.inr (by assumption))), List.length_append]; rfl)), rfl, trivial⟩ ⟨rfl, rfl, rfl, rfl, trivial⟩ (by first | (rw [hsame]; first | done | rfl) | (rw [shortL_succ hkl, st_skip (by first | assumption | exact isP_t (by omega)) (by assumption)]; first | done | rfl) | (rw [shortL_succ hkl, st_new (fun h => by first | exact absurd h.2 (by assumption) | exact nP h.1 (by assumption) | exact nPk h.1 (by omega)) (by first | exact .inl (by omega) | exact .inr (.inl (by assumption)) | exact .inr (.inr (by assumption))), List.length_append, List.flatMap_append]; rfl)) rfl (by omega) (by omega)
                · refine Ex.region (ExL.pures 2 rfl ?_)
                  refine ExL.free (fr_loadN rfl rfl rfl rfl rfl (SegO.whole (i := 0) rfl)) rfl rfl rfl ?_
                  refine ExL.free (fr_indexAddrR (sz := 2) 1 rfl rfl rfl rfl rfl rfl (by omega)) rfl rfl rfl ?_
                  refine ExL.op rfl (op_storeRowF (i := 1) rfl rfl rfl rfl rfl rfl rfl rfl (room encA_len (k := (shortL l k).length - 1) (by omega) (by omega) rfl) (List.cons_ne_nil _ _) rfl (put_put hkl (fun h => by first | exact absurd h.2 (by assumption) | exact nP h.1 (by assumption) | exact nPk h.1 (by omega)) (by rintro (h | h | h) <;> first | omega | exact absurd h (by assumption)) (by first | assumption | exact isP_f (by omega)) (by omega)) ?_)
                  have hsame := sh_same hkl (fun h => by first | exact absurd h.2 (by assumption) | exact nP h.1 (by assumption) | exact nPk h.1 (by omega)) (by rintro (h | h | h) <;> first | omega | exact absurd h (by assumption))
                  refine ExL.nil ?_
                  refine Ex.region (ExL.pures 0 rfl ?_)
                  refine ExL.free (by first | exact fr_add64 rfl rfl rfl (by omega) | exact fr_add rfl rfl rfl) rfl rfl rfl ?_
                  refine ExL.pures 1 rfl ?_
                  refine ExL.nil ?_
                  refine HandA.of (k + 1) (A) (c) 2 [1] ⟨(by first | (rw [hsame]; first | done | rfl) | (rw [shortL_succ hkl, st_skip (by first | assumption | exact isP_t (by omega)) (by assumption)]; first | done | rfl) | (rw [shortL_succ hkl, st_new (fun h => by first | exact absurd h.2 (by assumption) | exact nP h.1 (by assumption) | exact nPk h.1 (by omega)) (by first | exact .inl (by omega) | exact .inr (.inl (by assumption)) | exact .inr (.inr (by assumption))), List.length_append]; rfl)), rfl, trivial⟩ ⟨rfl, rfl, rfl, rfl, trivial⟩ (by first | (rw [hsame]; first | done | rfl) | (rw [shortL_succ hkl, st_skip (by first | assumption | exact isP_t (by omega)) (by assumption)]; first | done | rfl) | (rw [shortL_succ hkl, st_new (fun h => by first | exact absurd h.2 (by assumption) | exact nP h.1 (by assumption) | exact nPk h.1 (by omega)) (by first | exact .inl (by omega) | exact .inr (.inl (by assumption)) | exact .inr (.inr (by assumption))), List.length_append, List.flatMap_append]; rfl)) rfl (by omega) (by omega)
      · refine ExL.pures 5 rfl ?_
        refine ExL.nil ?_
        refine Ex.cond_f rfl ?_
        refine Ex.drawSeqM rfl ?_
        refine ExD.take (i := 0) rfl (by kernel_rfl) (pureVal_ok rfl) ((List.Sublist.refl _)) rfl rfl rfl ?_
        refine ExD.cmp_lss (i := 1) rfl (by kernel_rfl) rfl rfl rfl ((List.Sublist.refl _)) rfl rfl rfl (fun h23 => ?_) (fun h23 => ?_)
        · refine ExD.take (i := 2) rfl (by kernel_rfl) (pureVal_ok rfl) ((List.Sublist.refl _)) rfl rfl rfl ?_
          refine ExD.pass (i := 3) rfl (by kernel_rfl) ((List.Sublist.refl _)) rfl rfl rfl ?_
          refine ExD.pass (i := 4) rfl (by kernel_rfl) ((List.Sublist.refl _)) rfl rfl rfl ?_
          refine ExD.pass (i := 5) rfl (by kernel_rfl) ((List.Sublist.refl _)) rfl rfl rfl ?_
          refine ExD.pass (i := 6) rfl (by kernel_rfl) ((List.Sublist.refl _)) rfl rfl rfl ?_
          refine ExD.pass (i := 7) rfl (by kernel_rfl) ((List.Sublist.refl _)) rfl rfl rfl ?_
          refine ExD.pass (i := 8) rfl (by kernel_rfl) ((List.Sublist.refl _)) rfl rfl rfl ?_
          refine ExD.pass (i := 9) rfl (by kernel_rfl) ((List.Sublist.refl _)) rfl rfl rfl ?_
          refine ExD.pass (i := 10) rfl (by kernel_rfl) ((List.Sublist.refl _)) rfl rfl rfl ?_
          refine ExD.take (i := 11) rfl (by kernel_rfl) (pureVal_ok rfl) ((List.Sublist.refl _)) rfl rfl rfl ?_
          refine ExD.take (i := 12) rfl (by kernel_rfl) (pureVal_ok rfl) ((List.Sublist.refl _)) rfl rfl rfl ?_
          refine ExD.pass (i := 13) rfl (by kernel_rfl) ((List.Sublist.refl _)) rfl rfl rfl ?_
          refine ExD.pass (i := 14) rfl (by kernel_rfl) ((List.Sublist.refl _)) rfl rfl rfl ?_
          refine ExD.pass (i := 15) rfl (by kernel_rfl) ((List.Sublist.refl _)) rfl rfl rfl ?_
          refine ExD.take (i := 16) rfl (by kernel_rfl) (pureVal_ok rfl) ((List.Sublist.refl _)) rfl rfl rfl ?_
          refine ExD.take (i := 17) rfl (by kernel_rfl) (pureVal_ok rfl) ((List.Sublist.refl _)) rfl rfl rfl ?_
          refine ExD.done (by kernel_rfl) ?_
          refine Ex.cond_t rfl ?_
          refine Ex.region (ExL.pures 1 rfl ?_)
          refine ExL.free (fr_loadN rfl rfl rfl rfl rfl (SegO.whole (i := 0) rfl)) rfl rfl rfl ?_
          refine ExL.op rfl (op_buildSlice (sz := 2) rfl rfl rfl rfl rfl rfl rfl rfl (by decide) rfl rfl rfl (fun r24 => ?_))
          refine ExL.op rfl (op_append (sz := 2) (bytes := 16) (i := 2) rfl rfl rfl rfl (Reads.row (i := 0) rfl) rfl (fun e => nomatch e) rfl rfl rfl rfl (by constructor <;> first | omega | (unfold maxLen; omega)) rfl rfl (fun A25 cA25 => ?_))
          refine ExL.pures 1 rfl ?_
          refine ExL.nil ?_
          refine Ex.region (ExL.pures 0 rfl ?_)
          refine ExL.free (by first | exact fr_add64 rfl rfl rfl (by omega) | exact fr_add rfl rfl rfl) rfl rfl rfl ?_
          refine ExL.pures 1 rfl ?_
          refine ExL.nil ?_
          refine HandA.of (k + 1) (A25) (cA25) 3 [2] ⟨(by first | (rw [hsame]; first | done | rfl) | (rw [shortL_succ hkl, st_skip (by first | assumption | exact isP_t (by omega)) (by assumption)]; first | done | rfl) | (rw [shortL_succ hkl, st_new (fun h => by first | exact absurd h.2 (by assumption) | exact nP h.1 (by assumption) | exact nPk h.1 (by omega)) (by first | exact .inl (by omega) | exact .inr (.inl (by assumption)) | exact .inr (.inr (by assumption))), List.length_append]; rfl)), rfl, trivial⟩ ⟨rfl, rfl, rfl, rfl, trivial⟩ (by first | (rw [hsame]; first | done | rfl) | (rw [shortL_succ hkl, st_skip (by first | assumption | exact isP_t (by omega)) (by assumption)]; first | done | rfl) | (rw [shortL_succ hkl, st_new (fun h => by first | exact absurd h.2 (by assumption) | exact nP h.1 (by assumption) | exact nPk h.1 (by omega)) (by first | exact .inl (by omega) | exact .inr (.inl (by assumption)) | exact .inr (.inr (by assumption))), List.length_append, List.flatMap_append]; rfl)) rfl (by omega) (by omega)
        · refine ExD.take (i := 2) rfl (by kernel_rfl) (pureVal_ok rfl) ((List.Sublist.refl _)) rfl rfl rfl ?_
          refine ExD.take (i := 3) rfl (by kernel_rfl) (pureVal_ok rfl) ((List.Sublist.refl _)) rfl rfl rfl ?_
          refine ExD.take (i := 4) rfl (by kernel_rfl) (pureVal_ok rfl) ((List.Sublist.refl _)) rfl rfl rfl ?_
          refine ExD.take (i := 5) rfl (by kernel_rfl) (fr_indexAddrR (sz := 2) 1 rfl rfl rfl rfl rfl rfl (by omega)) ((List.Sublist.refl _)) rfl rfl rfl ?_
          refine ExD.take (i := 6) rfl (by kernel_rfl) (fr_fieldAddrR 1 rfl (by omega) rfl rfl rfl rfl rfl rfl) ((List.Sublist.refl _)) rfl rfl rfl ?_
          refine ExD.take (i := 7) rfl (by kernel_rfl) (fr_load rfl rfl rfl rfl (cellJ (((shortL l k).length - 1)) (Reads.row (i := 1) rfl) encA_len zA 0 rfl (by omega) (by omega) rfl)) ((List.Sublist.refl _)) rfl rfl rfl ?_
          refine ExD.take (i := 8) rfl (by kernel_rfl) (pureVal_ok rfl) ((List.Sublist.refl _)) rfl rfl rfl ?_
          refine ExD.take (i := 9) rfl (by kernel_rfl) (fr_load rfl rfl rfl rfl (CellO.blk (i := 0) rfl rfl)) ((List.Sublist.refl _)) rfl rfl rfl ?_
          refine ExD.cmp_neq (i := 10) rfl (by kernel_rfl) rfl rfl rfl ((List.Sublist.refl _)) rfl rfl rfl (fun h27 => ?_) (fun h27 => ?_)
          · refine ExD.take (i := 11) rfl (by kernel_rfl) (pureVal_ok rfl) ((List.Sublist.refl _)) rfl rfl rfl ?_
            refine ExD.take (i := 12) rfl (by kernel_rfl) (pureVal_ok rfl) ((List.Sublist.refl _)) rfl rfl rfl ?_
            refine ExD.pass (i := 13) rfl (by kernel_rfl) ((List.Sublist.refl _)) rfl rfl rfl ?_
            refine ExD.pass (i := 14) rfl (by kernel_rfl) ((List.Sublist.refl _)) rfl rfl rfl ?_
            refine ExD.pass (i := 15) rfl (by kernel_rfl) ((List.Sublist.refl _)) rfl rfl rfl ?_
            refine ExD.take (i := 16) rfl (by kernel_rfl) (pureVal_ok rfl) ((List.Sublist.refl _)) rfl rfl rfl ?_
            refine ExD.take (i := 17) rfl (by kernel_rfl) (pureVal_ok rfl) ((List.Sublist.refl _)) rfl rfl rfl ?_
            refine ExD.done (by kernel_rfl) ?_
            refine Ex.cond_t rfl ?_
            refine Ex.region (ExL.pures 1 rfl ?_)
            refine ExL.free (fr_loadN rfl rfl rfl rfl rfl (SegO.whole (i := 0) rfl)) rfl rfl rfl ?_
            refine ExL.op rfl (op_buildSlice (sz := 2) rfl rfl rfl rfl rfl rfl rfl rfl (by decide) rfl rfl rfl (fun r28 => ?_))
            refine ExL.op rfl (op_append (sz := 2) (bytes := 16) (i := 2) rfl rfl rfl rfl (Reads.row (i := 0) rfl) rfl (fun e => nomatch e) rfl rfl rfl rfl (by constructor <;> first | omega | (unfold maxLen; omega)) rfl rfl (fun A29 cA29 => ?_))
            refine ExL.pures 1 rfl ?_
            refine ExL.nil ?_
            refine Ex.region (ExL.pures 0 rfl ?_)
            refine ExL.free (by first | exact fr_add64 rfl rfl rfl (by omega) | exact fr_add rfl rfl rfl) rfl rfl rfl ?_
            refine ExL.pures 1 rfl ?_
            refine ExL.nil ?_
            refine HandA.of (k + 1) (A29) (cA29) 3 [2] ⟨(by first | (rw [hsame]; first | done | rfl) | (rw [shortL_succ hkl, st_skip (by first | assumption | exact isP_t (by omega)) (by assumption)]; first | done | rfl) | (rw [shortL_succ hkl, st_new (fun h => by first | exact absurd h.2 (by assumption) | exact nP h.1 (by assumption) | exact nPk h.1 (by omega)) (by first | exact .inl (by omega) | exact .inr (.inl (by assumption)) | exact .inr (.inr (by assumption))), List.length_append]; rfl)), rfl, trivial⟩ ⟨rfl, rfl, rfl, rfl, trivial⟩ (by first | (rw [hsame]; first | done | rfl) | (rw [shortL_succ hkl, st_skip (by first | assumption | exact isP_t (by omega)) (by assumption)]; first | done | rfl) | (rw [shortL_succ hkl, st_new (fun h => by first | exact absurd h.2 (by assumption) | exact nP h.1 (by assumption) | exact nPk h.1 (by omega)) (by first | exact .inl (by omega) | exact .inr (.inl (by assumption)) | exact .inr (.inr (by assumption))), List.length_append, List.flatMap_append]; rfl)) rfl (by omega) (by omega)
          · refine ExD.take (i := 11) rfl (by kernel_rfl) (pureVal_ok rfl) ((List.Sublist.refl _)) rfl rfl rfl ?_
            refine ExD.take (i := 12) rfl (by kernel_rfl) (pureVal_ok rfl) ((List.Sublist.refl _)) rfl rfl rfl ?_
            refine ExD.take (i := 13) rfl (by kernel_rfl) (pureVal_ok rfl) ((List.Sublist.refl _)) rfl rfl rfl ?_
            refine ExD.take (i := 14) rfl (by kernel_rfl) (fr_load rfl rfl rfl rfl (CellO.blk (i := 0) rfl rfl)) ((List.Sublist.refl _)) rfl rfl rfl ?_
            refine ExD.cmp_eql (i := 15) rfl (by kernel_rfl) rfl rfl rfl ((List.Sublist.refl _)) rfl rfl rfl (fun h31 => ?_) (fun h31 => ?_)
            · refine ExD.take (i := 16) rfl (by kernel_rfl) (pureVal_ok rfl) ((List.Sublist.refl _)) rfl rfl rfl ?_
              refine ExD.take (i := 17) rfl (by kernel_rfl) (pureVal_ok rfl) ((List.Sublist.refl _)) rfl rfl rfl ?_
              refine ExD.done (by kernel_rfl) ?_
              refine Ex.cond_t rfl ?_
              refine Ex.region (ExL.pures 1 rfl ?_)
              refine ExL.free (fr_loadN rfl rfl rfl rfl rfl (SegO.whole (i := 0) rfl)) rfl rfl rfl ?_
              refine ExL.op rfl (op_buildSlice (sz := 2) rfl rfl rfl rfl rfl rfl rfl rfl (by decide) rfl rfl rfl (fun r32 => ?_))
              refine ExL.op rfl (op_append (sz := 2) (bytes := 16) (i := 2) rfl rfl rfl rfl (Reads.row (i := 0) rfl) rfl (fun e => nomatch e) rfl rfl rfl rfl (by constructor <;> first | omega | (unfold maxLen; omega)) rfl rfl (fun A33 cA33 => ?_))
              refine ExL.pures 1 rfl ?_
              refine ExL.nil ?_
              refine Ex.region (ExL.pures 0 rfl ?_)
              refine ExL.free (by first | exact fr_add64 rfl rfl rfl (by omega) | exact fr_add rfl rfl rfl) rfl rfl rfl ?_
              refine ExL.pures 1 rfl ?_
              refine ExL.nil ?_
              refine HandA.of (k + 1) (A33) (cA33) 3 [2] ⟨(by first | (rw [hsame]; first | done | rfl) | (rw [shortL_succ hkl, st_skip (by first | assumption | exact isP_t (by omega)) (by assumption)]; first | done | rfl) | (rw [shortL_succ hkl, st_new (fun h => by first | exact absurd h.2 (by assumption) | exact nP h.1 (by assumption) | exact nPk h.1 (by omega)) (by first | exact .inl (by omega) | exact .inr (.inl (by assumption)) | exact .inr (.inr (by assumption))), List.length_append]; rfl)), rfl, trivial⟩ ⟨rfl, rfl, rfl, rfl, trivial⟩ (by first | (rw [hsame]; first | done | rfl) | (rw [shortL_succ hkl, st_skip (by first | assumption | exact isP_t (by omega)) (by assumption)]; first | done | rfl) | (rw [shortL_succ hkl, st_new (fun h => by first | exact absurd h.2 (by assumption) | exact nP h.1 (by assumption) | exact nPk h.1 (by omega)) (by first | exact .inl (by omega) | exact .inr (.inl (by assumption)) | exact .inr (.inr (by assumption))), List.length_append, List.flatMap_append]; rfl)) rfl (by omega) (by omega)
            · refine ExD.take (i := 16) rfl (by kernel_rfl) (pureVal_ok rfl) ((List.Sublist.refl _)) rfl rfl rfl ?_
              refine ExD.take (i := 17) rfl (by kernel_rfl) (pureVal_ok rfl) ((List.Sublist.refl _)) rfl rfl rfl ?_
              refine ExD.done (by kernel_rfl) ?_
              refine Ex.cond_f rfl ?_
              refine Ex.regSeq (ExL.pures 0 rfl ?_)
              refine ExL.free (fr_loadN rfl rfl rfl rfl rfl (SegO.whole (i := 0) rfl)) rfl rfl rfl ?_
              refine ExL.op rfl (op_ret rfl rfl rfl (c_isPulse (l.getD k zA)) (fun _ _ => trivial) rfl rfl (fun x35 hx35 => ?_))
              refine ExL.pures 1 rfl ?_
              refine ExL.nil ?_
              refine Ex.cond rfl (fun hb36 => ?_) (fun hb36 => ?_)
              · refine Ex.drawI [0] rfl rfl ?_
                refine ExD.take (i := 0) rfl (by kernel_rfl) (pureVal_ok rfl) ((List.Sublist.cons_cons _ (List.nil_sublist _))) rfl rfl rfl ?_
                refine ExD.take (i := 1) rfl (by kernel_rfl) (pureVal_ok rfl) ((List.Sublist.cons_cons _ (List.nil_sublist _))) rfl rfl rfl ?_
                refine ExD.take (i := 5) rfl (by kernel_rfl) (pureVal_ok rfl) ((List.Sublist.cons_cons _ (List.nil_sublist _))) rfl rfl rfl ?_
                refine ExD.take (i := 6) rfl (by kernel_rfl) (fr_load rfl rfl rfl rfl (CellO.blk (i := 0) rfl rfl)) ((List.Sublist.cons_cons _ (List.nil_sublist _))) rfl rfl rfl ?_
                refine ExD.op (i := 2) rfl (by kernel_rfl) rfl (Op1.of_free (fr_indexAddrR (sz := 2) 1 rfl rfl rfl rfl rfl rfl (by omega)) rfl rfl ⟨(List.Sublist.cons_cons _ (List.nil_sublist _)), ?_⟩)
                refine ExD.op (i := 3) rfl (by kernel_rfl) rfl (Op1.of_free (fr_fieldAddrR 1 rfl (by omega) rfl rfl rfl rfl rfl rfl) rfl rfl ⟨(List.Sublist.cons_cons _ (List.nil_sublist _)), ?_⟩)
                refine ExD.op (i := 4) rfl (by kernel_rfl) rfl (Op1.of_free (fr_load rfl rfl rfl rfl (cellJ (((shortL l k).length - 1)) (Reads.row (i := 1) rfl) encA_len zA 1 rfl (by omega) (by omega) rfl)) rfl rfl ⟨(List.Sublist.cons_cons _ (List.nil_sublist _)), ?_⟩)
                refine ExD.take (i := 7) rfl (by kernel_rfl) (by first | exact fr_add64 rfl rfl rfl (by omega) | exact fr_add rfl rfl rfl) ((List.Sublist.cons_cons _ (List.nil_sublist _))) rfl rfl rfl ?_
                refine ExD.op (i := 8) rfl (by kernel_rfl) rfl (Op1.of_free (fr_indexAddrR (sz := 2) 1 rfl rfl rfl rfl rfl rfl (by omega)) rfl rfl ⟨(List.Sublist.cons_cons _ (List.nil_sublist _)), ?_⟩)
                refine ExD.op (i := 9) rfl (by kernel_rfl) rfl (Op1.of_free (fr_fieldAddrR 1 rfl (by omega) rfl rfl rfl rfl rfl rfl) rfl rfl ⟨(List.Sublist.cons_cons _ (List.nil_sublist _)), ?_⟩)
                refine ExD.op (i := 10) rfl (by kernel_rfl) rfl (op_storeRowF (i := 1) rfl rfl rfl rfl rfl rfl rfl rfl (room_at encA_len (k := (shortL l k).length - 1) (q := 1) (by omega) (by first | omega | (simp; omega) | (simp; done)) rfl) (List.cons_ne_nil _ _) rfl (put_add hkl (fun h => by first | exact absurd h.2 (by assumption) | exact nP h.1 (by assumption) | exact nPk h.1 (by omega)) (by rintro (h | h | h) <;> first | omega | exact absurd h (by assumption)) (by first | assumption | exact isP_t (by omega)) (by first | omega | (simp; omega) | (simp; done))) ⟨(List.Sublist.cons_cons _ (List.nil_sublist _)), ?_⟩)
                have hsame := sh_same hkl (fun h => by first | exact absurd h.2 (by assumption) | exact nP h.1 (by assumption) | exact nPk h.1 (by omega)) (by rintro (h | h | h) <;> first | omega | exact absurd h (by assumption))
                refine ExD.done (by kernel_rfl) ?_
                refine Ex.region (ExL.pures 0 rfl ?_)
                refine ExL.free (by first | exact fr_add64 rfl rfl rfl (by omega) | exact fr_add rfl rfl rfl) rfl rfl rfl ?_
                refine ExL.pures 1 rfl ?_
                refine ExL.nil ?_
                refine HandA.of (k + 1) (A) (c) 2 [1] ⟨(by first | (rw [hsame]; first | done | rfl) | (rw [shortL_succ hkl, st_skip (by first | assumption | exact isP_t (by omega)) (by assumption)]; first | done | rfl) | (rw [shortL_succ hkl, st_new (fun h => by first | exact absurd h.2 (by assumption) | exact nP h.1 (by assumption) | exact nPk h.1 (by omega)) (by first | exact .inl (by omega) | exact .inr (.inl (by assumption)) | exact .inr (.inr (by assumption))), List.length_append]; rfl)), rfl, trivial⟩ ⟨rfl, rfl, rfl, rfl, trivial⟩ (by first | (rw [hsame]; first | done | rfl) | (rw [shortL_succ hkl, st_skip (by first | assumption | exact isP_t (by omega)) (by assumption)]; first | done | rfl) | (rw [shortL_succ hkl, st_new (fun h => by first | exact absurd h.2 (by assumption) | exact nP h.1 (by assumption) | exact nPk h.1 (by omega)) (by first | exact .inl (by omega) | exact .inr (.inl (by assumption)) | exact .inr (.inr (by assumption))), List.length_append, List.flatMap_append]; rfl)) rfl (by omega) (by omega)
              · refine Ex.region (ExL.pures 2 rfl ?_)
                refine ExL.free (fr_loadN rfl rfl rfl rfl rfl (SegO.whole (i := 0) rfl)) rfl rfl rfl ?_
                refine ExL.free (fr_indexAddrR (sz := 2) 1 rfl rfl rfl rfl rfl rfl (by omega)) rfl rfl rfl ?_
                refine ExL.op rfl (op_storeRowF (i := 1) rfl rfl rfl rfl rfl rfl rfl rfl (room encA_len (k := (shortL l k).length - 1) (by omega) (by omega) rfl) (List.cons_ne_nil _ _) rfl (put_put hkl (fun h => by first | exact absurd h.2 (by assumption) | exact nP h.1 (by assumption) | exact nPk h.1 (by omega)) (by rintro (h | h | h) <;> first | omega | exact absurd h (by assumption)) (by first | assumption | exact isP_f (by omega)) (by omega)) ?_)
                have hsame := sh_same hkl (fun h => by first | exact absurd h.2 (by assumption) | exact nP h.1 (by assumption) | exact nPk h.1 (by omega)) (by rintro (h | h | h) <;> first | omega | exact absurd h (by assumption))
                refine ExL.nil ?_
                refine Ex.region (ExL.pures 0 rfl ?_)
                refine ExL.free (by first | exact fr_add64 rfl rfl rfl (by omega) | exact fr_add rfl rfl rfl) rfl rfl rfl ?_
                refine ExL.pures 1 rfl ?_
                refine ExL.nil ?_
                refine HandA.of (k + 1) (A) (c) 2 [1] ⟨(by first | (rw [hsame]; first | done | rfl) | (rw [shortL_succ hkl, st_skip (by first | assumption | exact isP_t (by omega)) (by assumption)]; first | done | rfl) | (rw [shortL_succ hkl, st_new (fun h => by first | exact absurd h.2 (by assumption) | exact nP h.1 (by assumption) | exact nPk h.1 (by omega)) (by first | exact .inl (by omega) | exact .inr (.inl (by assumption)) | exact .inr (.inr (by assumption))), List.length_append]; rfl)), rfl, trivial⟩ ⟨rfl, rfl, rfl, rfl, trivial⟩ (by first | (rw [hsame]; first | done | rfl) | (rw [shortL_succ hkl, st_skip (by first | assumption | exact isP_t (by omega)) (by assumption)]; first | done | rfl) | (rw [shortL_succ hkl, st_new (fun h => by first | exact absurd h.2 (by assumption) | exact nP h.1 (by assumption) | exact nPk h.1 (by omega)) (by first | exact .inl (by omega) | exact .inr (.inl (by assumption)) | exact .inr (.inr (by assumption))), List.length_append, List.flatMap_append]; rfl)) rfl (by omega) (by omega)
    · refine ExL.nil ?_
      refine Ex.seq ?_
      refine Ex.cond_f rfl ?_
      refine Ex.exit ?_
      have hkn : k = l.length := (by omega)
      refine Ex.seq ?_
      refine Ex.regSeq (ExL.pures 1 rfl ?_)
      refine ExL.op rfl (op_ret rfl rfl rfl (c_slContainsFuncA (shortL l k) _ _ (by omega) 40 [] (fun _ => True) (fun _ _ _ _ => trivial) (big) (fun x => c_sh1 x)) (fun w' hw => ⟨Reads.get (Reads.row (i := 0) rfl) w' hw, trivial⟩) rfl rfl (fun x37 hx37 => ?_))
      refine ExL.nil ?_
      refine Ex.cond rfl (fun hb38 => ?_) (fun hb38 => ?_)
      · refine Ex.regSeq (ExL.pures 2 rfl ?_)
        refine ExL.nil ?_
        refine Ex.nilRow 44 2 ?_
        refine Ex.ret ?_
        refine RetQ.mk (none, 0) rfl (.tmp rfl (.tmp rfl .nil)) (t2 (by first | (rw [shk_bad (k := k) (by omega) (by assumption)]; first | done | rfl) | (rw [shk_long hbad (by assumption)]; first | done | rfl) | (rw [sh_bad (by assumption)]; first | done | rfl) | (rw [shk_big hkn haf (by assumption)]; first | done | rfl) | (rw [shk_ok hkn haf (by assumption)]; first | done | rfl) | (rw [shk_low hkn haf hI2]; first | done | rfl) | (rw [shk_over hkl haf (by rw [shortL_succ hkl]; exact over_chk (hva k hkl) (fun h => by first | exact absurd h.2 (by assumption) | exact nP h.1 (by assumption) | exact nPk h.1 (by omega)) (by rintro (h | h | h) <;> first | omega | exact absurd h (by assumption)) (by rw [← shortL_succ hkl]; assumption))]; first | done | rfl)) (by first | (rw [shk_bad (k := k) (by omega) (by assumption)]; first | done | rfl) | (rw [shk_long hbad (by assumption)]; first | done | rfl) | (rw [sh_bad (by assumption)]; first | done | rfl) | (rw [shk_big hkn haf (by assumption)]; first | done | rfl) | (rw [shk_ok hkn haf (by assumption)]; first | done | rfl) | (rw [shk_low hkn haf hI2]; first | done | rfl) | (rw [shk_over hkl haf (by rw [shortL_succ hkl]; exact over_chk (hva k hkl) (fun h => by first | exact absurd h.2 (by assumption) | exact nP h.1 (by assumption) | exact nPk h.1 (by omega)) (by rintro (h | h | h) <;> first | omega | exact absurd h (by assumption)) (by rw [← shortL_succ hkl]; assumption))]; first | done | rfl))) [0] (by first | (rw [shk_bad (k := k) (by omega) (by assumption)]; first | done | rfl) | (rw [shk_long hbad (by assumption)]; first | done | rfl) | (rw [sh_bad (by assumption)]; first | done | rfl) | (rw [shk_big hkn haf (by assumption)]; first | done | rfl) | (rw [shk_ok hkn haf (by assumption)]; first | done | rfl) | (rw [shk_low hkn haf hI2]; first | done | rfl) | (rw [shk_over hkl haf (by rw [shortL_succ hkl]; exact over_chk (hva k hkl) (fun h => by first | exact absurd h.2 (by assumption) | exact nP h.1 (by assumption) | exact nPk h.1 (by omega)) (by rintro (h | h | h) <;> first | omega | exact absurd h (by assumption)) (by rw [← shortL_succ hkl]; assumption))]; first | done | rfl)) rfl (trivial)
      · refine Ex.skip ?_
        refine Ex.regSeq (ExL.pures 3 rfl ?_)
        refine ExL.nil ?_
        refine Ex.ret ?_
        refine RetQ.mk (A, c) rfl (.tmp rfl (.tmp rfl .nil)) (t2 (by first | (rw [shk_bad (k := k) (by omega) (by assumption)]; first | done | rfl) | (rw [shk_long hbad (by assumption)]; first | done | rfl) | (rw [sh_bad (by assumption)]; first | done | rfl) | (rw [shk_big hkn haf (by assumption)]; first | done | rfl) | (rw [shk_ok hkn haf (by assumption)]; first | done | rfl) | (rw [shk_low hkn haf hI2]; first | done | rfl) | (rw [shk_over hkl haf (by rw [shortL_succ hkl]; exact over_chk (hva k hkl) (fun h => by first | exact absurd h.2 (by assumption) | exact nP h.1 (by assumption) | exact nPk h.1 (by omega)) (by rintro (h | h | h) <;> first | omega | exact absurd h (by assumption)) (by rw [← shortL_succ hkl]; assumption))]; first | done | rfl)) (by first | (rw [shk_bad (k := k) (by omega) (by assumption)]; first | done | rfl) | (rw [shk_long hbad (by assumption)]; first | done | rfl) | (rw [sh_bad (by assumption)]; first | done | rfl) | (rw [shk_big hkn haf (by assumption)]; first | done | rfl) | (rw [shk_ok hkn haf (by assumption)]; first | done | rfl) | (rw [shk_low hkn haf hI2]; first | done | rfl) | (rw [shk_over hkl haf (by rw [shortL_succ hkl]; exact over_chk (hva k hkl) (fun h => by first | exact absurd h.2 (by assumption) | exact nP h.1 (by assumption) | exact nPk h.1 (by omega)) (by rintro (h | h | h) <;> first | omega | exact absurd h (by assumption)) (by rw [← shortL_succ hkl]; assumption))]; first | done | rfl))) [0] (by first | (rw [shk_bad (k := k) (by omega) (by assumption)]; first | done | rfl) | (rw [shk_long hbad (by assumption)]; first | done | rfl) | (rw [sh_bad (by assumption)]; first | done | rfl) | (rw [shk_big hkn haf (by assumption)]; first | done | rfl) | (rw [shk_ok hkn haf (by assumption)]; first | done | rfl) | (rw [shk_low hkn haf hI2]; first | done | rfl) | (rw [shk_over hkl haf (by rw [shortL_succ hkl]; exact over_chk (hva k hkl) (fun h => by first | exact absurd h.2 (by assumption) | exact nP h.1 (by assumption) | exact nPk h.1 (by omega)) (by rintro (h | h | h) <;> first | omega | exact absurd h (by assumption)) (by rw [← shortL_succ hkl]; assumption))]; first | done | rfl)) rfl (trivial)
theorem e_12 : Enters Tryz.prog 12 := Enters.of Tryz.func12 rfl
theorem c_sShortActs (l : List VAct) (Al : Option Addr) (cl : Nat) (hll : l.length ≤ maxLen) : Ret Tryz.prog 12 [.slice Al l.length cl] (fun w => Rd w Al (l.flatMap encA)) (fun x : Option Addr × Nat => .tuple #[.slice x.1 (shortV l).1.length x.2, .int .i64 (shortV l).2]) (fun x => [.row (.slice x.1 ((shortV l).1).length x.2) 44 2 ((shortV l).1).length (((shortV l).1).flatMap encA)]) (fun x => True) := by
  refine Ret.of e_12 Tryz.func12 rfl Tryz.ntmps12 rfl rfl (fun w hpre => ?_)
  have hl := hpre.base
  have hm0 : maxLen = 9223372036854775807 := rfl
  refine Ex.regSeq (ExL.pures 2 rfl ?_)
  refine ExL.nil ?_
  refine Ex.seq ?_
  refine Ex.regSeq (ExL.pures 1 rfl ?_)
  refine ExL.nil ?_
  refine Ex.block ?_
  refine Ex.loopK (X := Nat) (fun k => [(4, .int .i64 k)]) (fun k => []) (fun k => k ≤ l.length ∧ ∀ i, i < k → validAct (l.getD i zA) = true) (fun k => l.length - k) 0 [(0, _)] [] 0 [] ⟨rfl, trivial⟩ ⟨rfl, trivial⟩ (rfl) rfl ⟨Nat.zero_le _, fun i hi => by omega⟩ (fun k hI => ?_)
  have hI : k ≤ l.length ∧ ∀ i, i < k → validAct (l.getD i zA) = true := hI
  obtain ⟨hI, hall⟩ := hI
  refine Ex.seq ?_
  refine Ex.regSeq (ExL.pures 3 rfl ?_)
  refine ExL.lss rfl rfl rfl rfl rfl rfl (fun h1 => ?_) (fun h1 => ?_)
  · refine ExL.nil ?_
    refine Ex.cond_t rfl ?_
    refine Ex.skip ?_
    refine Ex.seq ?_
    refine Ex.block ?_
    refine Ex.regSeq (ExL.pures 2 rfl ?_)
    refine ExL.free (fr_indexAddrF (Reads.old hl) encA_len rfl rfl rfl rfl rfl rfl (by omega)) rfl rfl rfl ?_
    refine ExL.free (fr_loadN rfl rfl rfl rfl rfl (by first | exact segN (Reads.old hl) encA_len rfl zA (by omega) | exact segF (Reads.old hl) encA_len rfl zA (by omega))) rfl rfl rfl ?_
    refine ExL.op rfl (op_ret rfl rfl rfl (c_l07Act _) (fun _ _ => trivial) rfl rfl (fun x2 hx2 => ?_))
    refine ExL.pures 1 rfl ?_
    refine ExL.nil ?_
    refine Ex.cond rfl (fun hb3 => ?_) (fun hb3 => ?_)
    · replace hb3 := nb_t hb3
      refine Ex.regSeq (ExL.pures 0 rfl ?_)
      refine ExL.op rfl (op_buildSlice (sz := 2) rfl rfl rfl rfl rfl rfl rfl rfl (by decide) rfl rfl rfl (fun r4 => ?_))
      refine ExL.pures 2 rfl ?_
      refine ExL.nil ?_
      refine Ex.ret ?_
      refine RetQ.mk ((some ⟨r4, 0, none⟩), 0) rfl (.tmp rfl (.tmp rfl .nil)) (t2 (by first | (rw [shk_bad (k := k) (by omega) (by assumption)]; first | done | rfl) | (rw [shk_long hbad (by assumption)]; first | done | rfl) | (rw [sh_bad (by assumption)]; first | done | rfl) | (rw [shk_big hkn haf (by assumption)]; first | done | rfl) | (rw [shk_ok hkn haf (by assumption)]; first | done | rfl) | (rw [shk_low hkn haf hI2]; first | done | rfl) | (rw [shk_over hkl haf (by rw [shortL_succ hkl]; exact over_chk (hva k hkl) (fun h => by first | exact absurd h.2 (by assumption) | exact nP h.1 (by assumption) | exact nPk h.1 (by omega)) (by rintro (h | h | h) <;> first | omega | exact absurd h (by assumption)) (by rw [← shortL_succ hkl]; assumption))]; first | done | rfl)) (by first | (rw [shk_bad (k := k) (by omega) (by assumption)]; first | done | rfl) | (rw [shk_long hbad (by assumption)]; first | done | rfl) | (rw [sh_bad (by assumption)]; first | done | rfl) | (rw [shk_big hkn haf (by assumption)]; first | done | rfl) | (rw [shk_ok hkn haf (by assumption)]; first | done | rfl) | (rw [shk_low hkn haf hI2]; first | done | rfl) | (rw [shk_over hkl haf (by rw [shortL_succ hkl]; exact over_chk (hva k hkl) (fun h => by first | exact absurd h.2 (by assumption) | exact nP h.1 (by assumption) | exact nPk h.1 (by omega)) (by rintro (h | h | h) <;> first | omega | exact absurd h (by assumption)) (by rw [← shortL_succ hkl]; assumption))]; first | done | rfl))) [0] (by first | (rw [shk_bad (k := k) (by omega) (by assumption)]; first | done | rfl) | (rw [shk_long hbad (by assumption)]; first | done | rfl) | (rw [sh_bad (by assumption)]; first | done | rfl) | (rw [shk_big hkn haf (by assumption)]; first | done | rfl) | (rw [shk_ok hkn haf (by assumption)]; first | done | rfl) | (rw [shk_low hkn haf hI2]; first | done | rfl) | (rw [shk_over hkl haf (by rw [shortL_succ hkl]; exact over_chk (hva k hkl) (fun h => by first | exact absurd h.2 (by assumption) | exact nP h.1 (by assumption) | exact nPk h.1 (by omega)) (by rintro (h | h | h) <;> first | omega | exact absurd h (by assumption)) (by rw [← shortL_succ hkl]; assumption))]; first | done | rfl)) rfl (trivial)
    · replace hb3 := nb_f hb3
      refine Ex.skip ?_
      refine Ex.region (ExL.pures 1 rfl ?_)
      refine ExL.free (by first | exact fr_add64 rfl rfl rfl (by omega) | exact fr_add rfl rfl rfl) rfl rfl rfl ?_
      refine ExL.pures 1 rfl ?_
      refine ExL.nil ?_
      refine Hand.mk (k + 1) 0 [] ⟨rfl, trivial⟩ ⟨rfl, trivial⟩ (rfl) rfl (⟨by omega, all_snoc hall (by assumption)⟩) (by omega)
  · refine ExL.nil ?_
    refine Ex.cond_f rfl ?_
    refine Ex.exit ?_
    have hbad := any_bad_f (by omega) hall
    clear hall hI
    refine Ex.seq ?_
    refine Ex.regSeq (ExL.pures 2 rfl ?_)
    refine ExL.gtr rfl rfl rfl rfl rfl rfl (fun h5 => ?_) (fun h5 => ?_)
    · refine ExL.nil ?_
      refine Ex.cond_t rfl ?_
      refine Ex.regSeq (ExL.pures 0 rfl ?_)
      refine ExL.op rfl (op_buildSlice (sz := 2) rfl rfl rfl rfl rfl rfl rfl rfl (by decide) rfl rfl rfl (fun r6 => ?_))
      refine ExL.pures 2 rfl ?_
      refine ExL.nil ?_
      refine Ex.ret ?_
      refine RetQ.mk ((some ⟨r6, 0, none⟩), 0) rfl (.tmp rfl (.tmp rfl .nil)) (t2 (by first | (rw [shk_bad (k := k) (by omega) (by assumption)]; first | done | rfl) | (rw [shk_long hbad (by assumption)]; first | done | rfl) | (rw [sh_bad (by assumption)]; first | done | rfl) | (rw [shk_big hkn haf (by assumption)]; first | done | rfl) | (rw [shk_ok hkn haf (by assumption)]; first | done | rfl) | (rw [shk_low hkn haf hI2]; first | done | rfl) | (rw [shk_over hkl haf (by rw [shortL_succ hkl]; exact over_chk (hva k hkl) (fun h => by first | exact absurd h.2 (by assumption) | exact nP h.1 (by assumption) | exact nPk h.1 (by omega)) (by rintro (h | h | h) <;> first | omega | exact absurd h (by assumption)) (by rw [← shortL_succ hkl]; assumption))]; first | done | rfl)) (by first | (rw [shk_bad (k := k) (by omega) (by assumption)]; first | done | rfl) | (rw [shk_long hbad (by assumption)]; first | done | rfl) | (rw [sh_bad (by assumption)]; first | done | rfl) | (rw [shk_big hkn haf (by assumption)]; first | done | rfl) | (rw [shk_ok hkn haf (by assumption)]; first | done | rfl) | (rw [shk_low hkn haf hI2]; first | done | rfl) | (rw [shk_over hkl haf (by rw [shortL_succ hkl]; exact over_chk (hva k hkl) (fun h => by first | exact absurd h.2 (by assumption) | exact nP h.1 (by assumption) | exact nPk h.1 (by omega)) (by rintro (h | h | h) <;> first | omega | exact absurd h (by assumption)) (by rw [← shortL_succ hkl]; assumption))]; first | done | rfl))) [0] (by first | (rw [shk_bad (k := k) (by omega) (by assumption)]; first | done | rfl) | (rw [shk_long hbad (by assumption)]; first | done | rfl) | (rw [sh_bad (by assumption)]; first | done | rfl) | (rw [shk_big hkn haf (by assumption)]; first | done | rfl) | (rw [shk_ok hkn haf (by assumption)]; first | done | rfl) | (rw [shk_low hkn haf hI2]; first | done | rfl) | (rw [shk_over hkl haf (by rw [shortL_succ hkl]; exact over_chk (hva k hkl) (fun h => by first | exact absurd h.2 (by assumption) | exact nP h.1 (by assumption) | exact nPk h.1 (by omega)) (by rintro (h | h | h) <;> first | omega | exact absurd h (by assumption)) (by rw [← shortL_succ hkl]; assumption))]; first | done | rfl)) rfl (trivial)
    · refine ExL.nil ?_
      refine Ex.cond_f rfl ?_
      refine Ex.skip ?_
      refine Ex.regSeq (ExL.pures 0 rfl ?_)
      refine ExL.op rfl (op_buildSlice (sz := 2) rfl rfl rfl rfl rfl rfl rfl rfl (by decide) rfl rfl rfl (fun r7 => ?_))
      refine ExL.pures 1 rfl ?_
      refine ExL.nil ?_
      refine Ex.seq ?_
      refine Ex.regSeq (ExL.pures 1 rfl ?_)
      refine ExL.nil ?_
      refine Ex.block ?_
      have haf : ¬ afault l ≠ 0 := af_zero' hbad (by assumption)
      obtain ⟨hva, h60⟩ := af_zero haf
      refine Ex.loopA (fun k A c => [(5, .slice A (shortL l k).length c), (6, .int .i64 k)]) (fun k A c => [.row (.slice A (shortL l k).length c) 44 2 (shortL l k).length ((shortL l k).flatMap encA)]) (fun k => k ≤ l.length ∧ Low 1000000000000 (shortL l k)) (fun k => l.length - k) 0 ((some ⟨r7, 0, none⟩)) (0) [(0, _)] [] 1 [0] ⟨rfl, rfl, trivial⟩ ⟨rfl, trivial⟩ (rfl) rfl ⟨Nat.zero_le _, fun x hx => by simp [shortL] at hx⟩ (fun k A c hI => ?_)
      have hI : k ≤ l.length ∧ Low 1000000000000 (shortL l k) := hI
      obtain ⟨hI, hI2⟩ := hI
      have hsl := shortL_len l k
      have hb1 := hI2.any (by omega) ((shortL l k).length - 1)
      refine Ex.seq ?_
      refine Ex.regSeq (ExL.pures 3 rfl ?_)
      refine ExL.lss rfl rfl rfl rfl rfl rfl (fun h8 => ?_) (fun h8 => ?_)
      · refine ExL.nil ?_
        refine Ex.cond_t rfl ?_
        refine Ex.skip ?_
        refine Ex.seq ?_
        refine Ex.block ?_
        have hkl : k < l.length := (by omega)
        obtain ⟨hv1, hv2, hv3⟩ := valid_n (hva k hkl)
        refine Ex.regSeq (ExL.pures 2 rfl ?_)
        refine ExL.free (fr_indexAddrF (Reads.old hl) encA_len rfl rfl rfl rfl rfl rfl (by omega)) rfl rfl rfl ?_
        refine ExL.free (fr_loadN rfl rfl rfl rfl rfl (by first | exact segN (Reads.old hl) encA_len rfl zA (by omega) | exact segF (Reads.old hl) encA_len rfl zA (by omega))) rfl rfl rfl ?_
        refine ExL.op rfl (op_alloc rfl rfl rfl rfl rfl (fun b9 => ?_))
        refine ExL.op rfl (op_storeC (i := 0) rfl rfl rfl rfl rfl rfl rfl rfl rfl rfl ?_)
        refine ExL.nil ?_
        refine Ex.regSeq (ExL.pures 1 rfl ?_)
        refine ExL.free (fr_load rfl rfl rfl rfl (CellO.blk (i := 0) rfl rfl)) rfl rfl rfl ?_
        refine ExL.eql rfl rfl rfl rfl rfl rfl (fun h10 => ?_) (fun h10 => ?_)
        · refine ExL.pures 6 rfl ?_
          refine ExL.nil ?_
          refine Ex.seq ?_
          refine Ex.regSeq (ExL.pures 3 rfl ?_)
          refine ExL.free (fr_load rfl rfl rfl rfl (CellO.blk (i := 0) rfl rfl)) rfl rfl rfl ?_
          refine ExL.eql rfl rfl rfl rfl rfl rfl (fun h11 => ?_) (fun h11 => ?_)
          · refine ExL.pures 1 rfl ?_
            refine ExL.nil ?_
            refine Ex.cond_t rfl ?_
            refine Ex.exit ?_
            refine Ex.region (ExL.pures 1 rfl ?_)
            refine ExL.free (by first | exact fr_add64 rfl rfl rfl (by omega) | exact fr_add rfl rfl rfl) rfl rfl rfl ?_
            refine ExL.pures 1 rfl ?_
            refine ExL.nil ?_
            refine HandA.of (k + 1) (A) (c) 2 [1] ⟨(by first | (rw [hsame]; first | done | rfl) | (rw [shortL_succ hkl, st_skip (by first | assumption | exact isP_t (by omega)) (by assumption)]; first | done | rfl) | (rw [shortL_succ hkl, st_new (fun h => by first | exact absurd h.2 (by assumption) | exact nP h.1 (by assumption) | exact nPk h.1 (by omega)) (by first | exact .inl (by omega) | exact .inr (.inl (by assumption)) | exact .inr (.inr (by assumption))), List.length_append]; rfl)), rfl, trivial⟩ ⟨rfl, trivial⟩ (by first | (rw [hsame]; first | done | rfl) | (rw [shortL_succ hkl, st_skip (by first | assumption | exact isP_t (by omega)) (by assumption)]; first | done | rfl) | (rw [shortL_succ hkl, st_new (fun h => by first | exact absurd h.2 (by assumption) | exact nP h.1 (by assumption) | exact nPk h.1 (by omega)) (by first | exact .inl (by omega) | exact .inr (.inl (by assumption)) | exact .inr (.inr (by assumption))), List.length_append, List.flatMap_append]; rfl)) rfl (⟨by omega, by rw [shortL_succ hkl]; exact low_next hI2 (hva k hkl) (by first | exact .inl ⟨(by first | assumption | exact isP_t (by omega)), by assumption⟩ | exact .inr (.inl (by first | exact .inl (by omega) | exact .inr (.inl (by assumption)) | exact .inr (.inr (by assumption)))) | exact .inr (.inr (by rw [← shortL_succ hkl]; assumption)))⟩) (by omega)
          · refine ExL.pures 1 rfl ?_
            refine ExL.nil ?_
            refine Ex.cond_f rfl ?_
            refine Ex.skip ?_
            refine Ex.regSeq (ExL.pures 2 rfl ?_)
            refine ExL.free (by first | exact fr_sub64 rfl rfl rfl (by omega) | exact fr_sub rfl rfl rfl) rfl rfl rfl ?_
            refine ExL.pures 1 rfl ?_
            refine ExL.nil ?_
            refine Ex.seq ?_
            refine Ex.drawSeqM rfl ?_
            refine ExD.take (i := 0) rfl (by kernel_rfl) (pureVal_ok rfl) ((List.Sublist.refl _)) rfl rfl rfl ?_
            refine ExD.cmp_lss (i := 1) rfl (by kernel_rfl) rfl rfl rfl ((List.Sublist.refl _)) rfl rfl rfl (fun h12 => ?_) (fun h12 => ?_)
            · refine ExD.take (i := 2) rfl (by kernel_rfl) (pureVal_ok rfl) ((List.Sublist.refl _)) rfl rfl rfl ?_
              refine ExD.pass (i := 3) rfl (by kernel_rfl) ((List.Sublist.refl _)) rfl rfl rfl ?_
              refine ExD.pass (i := 4) rfl (by kernel_rfl) ((List.Sublist.refl _)) rfl rfl rfl ?_
              refine ExD.pass (i := 5) rfl (by kernel_rfl) ((List.Sublist.refl _)) rfl rfl rfl ?_
              refine ExD.pass (i := 6) rfl (by kernel_rfl) ((List.Sublist.refl _)) rfl rfl rfl ?_
              refine ExD.pass (i := 7) rfl (by kernel_rfl) ((List.Sublist.refl _)) rfl rfl rfl ?_
              refine ExD.pass (i := 8) rfl (by kernel_rfl) ((List.Sublist.refl _)) rfl rfl rfl ?_
              refine ExD.pass (i := 9) rfl (by kernel_rfl) ((List.Sublist.refl _)) rfl rfl rfl ?_
              refine ExD.pass (i := 10) rfl (by kernel_rfl) ((List.Sublist.refl _)) rfl rfl rfl ?_
              refine ExD.take (i := 11) rfl (by kernel_rfl) (pureVal_ok rfl) ((List.Sublist.refl _)) rfl rfl rfl ?_
              refine ExD.take (i := 12) rfl (by kernel_rfl) (pureVal_ok rfl) ((List.Sublist.refl _)) rfl rfl rfl ?_
              refine ExD.pass (i := 13) rfl (by kernel_rfl) ((List.Sublist.refl _)) rfl rfl rfl ?_
              refine ExD.pass (i := 14) rfl (by kernel_rfl) ((List.Sublist.refl _)) rfl rfl rfl ?_
              refine ExD.pass (i := 15) rfl (by kernel_rfl) ((List.Sublist.refl _)) rfl rfl rfl ?_
              refine ExD.take (i := 16) rfl (by kernel_rfl) (pureVal_ok rfl) ((List.Sublist.refl _)) rfl rfl rfl ?_
              refine ExD.done (by kernel_rfl) ?_
              refine Ex.cond_t rfl ?_
              refine Ex.regSeq (ExL.pures 1 rfl ?_)
              refine ExL.free (fr_loadN rfl rfl rfl rfl rfl (SegO.whole (i := 0) rfl)) rfl rfl rfl ?_
              refine ExL.op rfl (op_buildSlice (sz := 2) rfl rfl rfl rfl rfl rfl rfl rfl (by decide) rfl rfl rfl (fun r13 => ?_))
              refine ExL.op rfl (op_append (sz := 2) (bytes := 16) (i := 2) rfl rfl rfl rfl (Reads.row (i := 0) rfl) rfl (fun e => nomatch e) rfl rfl rfl rfl (by constructor <;> first | omega | (unfold maxLen; omega)) rfl rfl (fun A14 cA14 => ?_))
              refine ExL.pures 1 rfl ?_
              refine ExL.nil ?_
              refine Ex.exit ?_
              refine Ex.region (ExL.pures 1 rfl ?_)
              refine ExL.free (by first | exact fr_add64 rfl rfl rfl (by omega) | exact fr_add rfl rfl rfl) rfl rfl rfl ?_
              refine ExL.pures 1 rfl ?_
              refine ExL.nil ?_
              refine HandA.of (k + 1) (A14) (cA14) 3 [2] ⟨(by first | (rw [hsame]; first | done | rfl) | (rw [shortL_succ hkl, st_skip (by first | assumption | exact isP_t (by omega)) (by assumption)]; first | done | rfl) | (rw [shortL_succ hkl, st_new (fun h => by first | exact absurd h.2 (by assumption) | exact nP h.1 (by assumption) | exact nPk h.1 (by omega)) (by first | exact .inl (by omega) | exact .inr (.inl (by assumption)) | exact .inr (.inr (by assumption))), List.length_append]; rfl)), rfl, trivial⟩ ⟨rfl, trivial⟩ (by first | (rw [hsame]; first | done | rfl) | (rw [shortL_succ hkl, st_skip (by first | assumption | exact isP_t (by omega)) (by assumption)]; first | done | rfl) | (rw [shortL_succ hkl, st_new (fun h => by first | exact absurd h.2 (by assumption) | exact nP h.1 (by assumption) | exact nPk h.1 (by omega)) (by first | exact .inl (by omega) | exact .inr (.inl (by assumption)) | exact .inr (.inr (by assumption))), List.length_append, List.flatMap_append]; rfl)) rfl (⟨by omega, by rw [shortL_succ hkl]; exact low_next hI2 (hva k hkl) (by first | exact .inl ⟨(by first | assumption | exact isP_t (by omega)), by assumption⟩ | exact .inr (.inl (by first | exact .inl (by omega) | exact .inr (.inl (by assumption)) | exact .inr (.inr (by assumption)))) | exact .inr (.inr (by rw [← shortL_succ hkl]; assumption)))⟩) (by omega)
            · refine ExD.take (i := 2) rfl (by kernel_rfl) (pureVal_ok rfl) ((List.Sublist.refl _)) rfl rfl rfl ?_
              refine ExD.take (i := 3) rfl (by kernel_rfl) (pureVal_ok rfl) ((List.Sublist.refl _)) rfl rfl rfl ?_
              refine ExD.take (i := 4) rfl (by kernel_rfl) (pureVal_ok rfl) ((List.Sublist.refl _)) rfl rfl rfl ?_
              refine ExD.take (i := 5) rfl (by kernel_rfl) (fr_indexAddrR (sz := 2) 1 rfl rfl rfl rfl rfl rfl (by omega)) ((List.Sublist.refl _)) rfl rfl rfl ?_
              refine ExD.take (i := 6) rfl (by kernel_rfl) (fr_fieldAddrR 1 rfl (by omega) rfl rfl rfl rfl rfl rfl) ((List.Sublist.refl _)) rfl rfl rfl ?_
              refine ExD.take (i := 7) rfl (by kernel_rfl) (fr_load rfl rfl rfl rfl (cellJ (((shortL l k).length - 1)) (Reads.row (i := 1) rfl) encA_len zA 0 rfl (by omega) (by omega) rfl)) ((List.Sublist.refl _)) rfl rfl rfl ?_
              refine ExD.take (i := 8) rfl (by kernel_rfl) (pureVal_ok rfl) ((List.Sublist.refl _)) rfl rfl rfl ?_
              refine ExD.take (i := 9) rfl (by kernel_rfl) (fr_load rfl rfl rfl rfl (CellO.blk (i := 0) rfl rfl)) ((List.Sublist.refl _)) rfl rfl rfl ?_
              refine ExD.cmp_neq (i := 10) rfl (by kernel_rfl) rfl rfl rfl ((List.Sublist.refl _)) rfl rfl rfl (fun h16 => ?_) (fun h16 => ?_)
              · refine ExD.take (i := 11) rfl (by kernel_rfl) (pureVal_ok rfl) ((List.Sublist.refl _)) rfl rfl rfl ?_
                refine ExD.take (i := 12) rfl (by kernel_rfl) (pureVal_ok rfl) ((List.Sublist.refl _)) rfl rfl rfl ?_
                refine ExD.pass (i := 13) rfl (by kernel_rfl) ((List.Sublist.refl _)) rfl rfl rfl ?_
                refine ExD.pass (i := 14) rfl (by kernel_rfl) ((List.Sublist.refl _)) rfl rfl rfl ?_
                refine ExD.pass (i := 15) rfl (by kernel_rfl) ((List.Sublist.refl _)) rfl rfl rfl ?_
                refine ExD.take (i := 16) rfl (by kernel_rfl) (pureVal_ok rfl) ((List.Sublist.refl _)) rfl rfl rfl ?_
                refine ExD.done (by kernel_rfl) ?_
                refine Ex.cond_t rfl ?_
                refine Ex.regSeq (ExL.pures 1 rfl ?_)
                refine ExL.free (fr_loadN rfl rfl rfl rfl rfl (SegO.whole (i := 0) rfl)) rfl rfl rfl ?_
                refine ExL.op rfl (op_buildSlice (sz := 2) rfl rfl rfl rfl rfl rfl rfl rfl (by decide) rfl rfl rfl (fun r17 => ?_))
                refine ExL.op rfl (op_append (sz := 2) (bytes := 16) (i := 2) rfl rfl rfl rfl (Reads.row (i := 0) rfl) rfl (fun e => nomatch e) rfl rfl rfl rfl (by constructor <;> first | omega | (unfold maxLen; omega)) rfl rfl (fun A18 cA18 => ?_))
                refine ExL.pures 1 rfl ?_
                refine ExL.nil ?_
                refine Ex.exit ?_
                refine Ex.region (ExL.pures 1 rfl ?_)
                refine ExL.free (by first | exact fr_add64 rfl rfl rfl (by omega) | exact fr_add rfl rfl rfl) rfl rfl rfl ?_
                refine ExL.pures 1 rfl ?_
                refine ExL.nil ?_
                refine HandA.of (k + 1) (A18) (cA18) 3 [2] ⟨(by first | (rw [hsame]; first | done | rfl) | (rw [shortL_succ hkl, st_skip (by first | assumption | exact isP_t (by omega)) (by assumption)]; first | done | rfl) | (rw [shortL_succ hkl, st_new (fun h => by first | exact absurd h.2 (by assumption) | exact nP h.1 (by assumption) | exact nPk h.1 (by omega)) (by first | exact .inl (by omega) | exact .inr (.inl (by assumption)) | exact .inr (.inr (by assumption))), List.length_append]; rfl)), rfl, trivial⟩ ⟨rfl, trivial⟩ (by first | (rw [hsame]; first | done | rfl) | (rw [shortL_succ hkl, st_skip (by first | assumption | exact isP_t (by omega)) (by assumption)]; first | done | rfl) | (rw [shortL_succ hkl, st_new (fun h => by first | exact absurd h.2 (by assumption) | exact nP h.1 (by assumption) | exact nPk h.1 (by omega)) (by first | exact .inl (by omega) | exact .inr (.inl (by assumption)) | exact .inr (.inr (by assumption))), List.length_append, List.flatMap_append]; rfl)) rfl (⟨by omega, by rw [shortL_succ hkl]; exact low_next hI2 (hva k hkl) (by first | exact .inl ⟨(by first | assumption | exact isP_t (by omega)), by assumption⟩ | exact .inr (.inl (by first | exact .inl (by omega) | exact .inr (.inl (by assumption)) | exact .inr (.inr (by assumption)))) | exact .inr (.inr (by rw [← shortL_succ hkl]; assumption)))⟩) (by omega)
              · refine ExD.take (i := 11) rfl (by kernel_rfl) (pureVal_ok rfl) ((List.Sublist.refl _)) rfl rfl rfl ?_
                refine ExD.take (i := 12) rfl (by kernel_rfl) (pureVal_ok rfl) ((List.Sublist.refl _)) rfl rfl rfl ?_
                refine ExD.take (i := 13) rfl (by kernel_rfl) (pureVal_ok rfl) ((List.Sublist.refl _)) rfl rfl rfl ?_
                refine ExD.take (i := 14) rfl (by kernel_rfl) (fr_load rfl rfl rfl rfl (CellO.blk (i := 0) rfl rfl)) ((List.Sublist.refl _)) rfl rfl rfl ?_
                refine ExD.cmp_eql (i := 15) rfl (by kernel_rfl) rfl rfl rfl ((List.Sublist.refl _)) rfl rfl rfl (fun h20 => ?_) (fun h20 => ?_)
                · refine ExD.take (i := 16) rfl (by kernel_rfl) (pureVal_ok rfl) ((List.Sublist.refl _)) rfl rfl rfl ?_
                  refine ExD.done (by kernel_rfl) ?_
                  refine Ex.cond_t rfl ?_
                  refine Ex.regSeq (ExL.pures 1 rfl ?_)
                  refine ExL.free (fr_loadN rfl rfl rfl rfl rfl (SegO.whole (i := 0) rfl)) rfl rfl rfl ?_
                  refine ExL.op rfl (op_buildSlice (sz := 2) rfl rfl rfl rfl rfl rfl rfl rfl (by decide) rfl rfl rfl (fun r21 => ?_))
                  refine ExL.op rfl (op_append (sz := 2) (bytes := 16) (i := 2) rfl rfl rfl rfl (Reads.row (i := 0) rfl) rfl (fun e => nomatch e) rfl rfl rfl rfl (by constructor <;> first | omega | (unfold maxLen; omega)) rfl rfl (fun A22 cA22 => ?_))
                  refine ExL.pures 1 rfl ?_
                  refine ExL.nil ?_
                  refine Ex.exit ?_
                  refine Ex.region (ExL.pures 1 rfl ?_)
                  refine ExL.free (by first | exact fr_add64 rfl rfl rfl (by omega) | exact fr_add rfl rfl rfl) rfl rfl rfl ?_
                  refine ExL.pures 1 rfl ?_
                  refine ExL.nil ?_
                  refine HandA.of (k + 1) (A22) (cA22) 3 [2] ⟨(by first | (rw [hsame]; first | done | rfl) | (rw [shortL_succ hkl, st_skip (by first | assumption | exact isP_t (by omega)) (by assumption)]; first | done | rfl) | (rw [shortL_succ hkl, st_new (fun h => by first | exact absurd h.2 (by assumption) | exact nP h.1 (by assumption) | exact nPk h.1 (by omega)) (by first | exact .inl (by omega) | exact .inr (.inl (by assumption)) | exact .inr (.inr (by assumption))), List.length_append]; rfl)), rfl, trivial⟩ ⟨rfl, trivial⟩ (by first | (rw [hsame]; first | done | rfl) | (rw [shortL_succ hkl, st_skip (by first | assumption | exact isP_t (by omega)) (by assumption)]; first | done | rfl) | (rw [shortL_succ hkl, st_new (fun h => by first | exact absurd h.2 (by assumption) | exact nP h.1 (by assumption) | exact nPk h.1 (by omega)) (by first | exact .inl (by omega) | exact .inr (.inl (by assumption)) | exact .inr (.inr (by assumption))), List.length_append, List.flatMap_append]; rfl)) rfl (⟨by omega, by rw [shortL_succ hkl]; exact low_next hI2 (hva k hkl) (by first | exact .inl ⟨(by first | assumption | exact isP_t (by omega)), by assumption⟩ | exact .inr (.inl (by first | exact .inl (by omega) | exact .inr (.inl (by assumption)) | exact .inr (.inr (by assumption)))) | exact .inr (.inr (by rw [← shortL_succ hkl]; assumption)))⟩) (by omega)
                · refine ExD.take (i := 16) rfl (by kernel_rfl) (pureVal_ok rfl) ((List.Sublist.refl _)) rfl rfl rfl ?_
                  refine ExD.done (by kernel_rfl) ?_
                  refine Ex.cond_f rfl ?_
                  refine Ex.skip ?_
                  refine Ex.seq ?_
                  refine Ex.regSeq (ExL.pures 1 rfl ?_)
                  refine ExL.nil ?_
                  refine Ex.cond_t rfl ?_
                  refine Ex.drawI [0] rfl rfl ?_
                  refine ExD.take (i := 0) rfl (by kernel_rfl) (pureVal_ok rfl) ((List.Sublist.cons_cons _ (List.nil_sublist _))) rfl rfl rfl ?_
                  refine ExD.take (i := 1) rfl (by kernel_rfl) (pureVal_ok rfl) ((List.Sublist.cons_cons _ (List.nil_sublist _))) rfl rfl rfl ?_
                  refine ExD.take (i := 5) rfl (by kernel_rfl) (pureVal_ok rfl) ((List.Sublist.cons_cons _ (List.nil_sublist _))) rfl rfl rfl ?_
                  refine ExD.take (i := 6) rfl (by kernel_rfl) (fr_load rfl rfl rfl rfl (CellO.blk (i := 0) rfl rfl)) ((List.Sublist.cons_cons _ (List.nil_sublist _))) rfl rfl rfl ?_
                  refine ExD.op (i := 2) rfl (by kernel_rfl) rfl (Op1.of_free (fr_indexAddrR (sz := 2) 1 rfl rfl rfl rfl rfl rfl (by omega)) rfl rfl ⟨(List.Sublist.cons_cons _ (List.nil_sublist _)), ?_⟩)
                  refine ExD.op (i := 3) rfl (by kernel_rfl) rfl (Op1.of_free (fr_fieldAddrR 1 rfl (by omega) rfl rfl rfl rfl rfl rfl) rfl rfl ⟨(List.Sublist.cons_cons _ (List.nil_sublist _)), ?_⟩)
                  refine ExD.op (i := 4) rfl (by kernel_rfl) rfl (Op1.of_free (fr_load rfl rfl rfl rfl (cellJ (((shortL l k).length - 1)) (Reads.row (i := 1) rfl) encA_len zA 1 rfl (by omega) (by omega) rfl)) rfl rfl ⟨(List.Sublist.cons_cons _ (List.nil_sublist _)), ?_⟩)
                  refine ExD.take (i := 7) rfl (by kernel_rfl) (by first | exact fr_add64 rfl rfl rfl (by omega) | exact fr_add rfl rfl rfl) ((List.Sublist.cons_cons _ (List.nil_sublist _))) rfl rfl rfl ?_
                  refine ExD.op (i := 8) rfl (by kernel_rfl) rfl (Op1.of_free (fr_indexAddrR (sz := 2) 1 rfl rfl rfl rfl rfl rfl (by omega)) rfl rfl ⟨(List.Sublist.cons_cons _ (List.nil_sublist _)), ?_⟩)
                  refine ExD.op (i := 9) rfl (by kernel_rfl) rfl (Op1.of_free (fr_fieldAddrR 1 rfl (by omega) rfl rfl rfl rfl rfl rfl) rfl rfl ⟨(List.Sublist.cons_cons _ (List.nil_sublist _)), ?_⟩)
                  refine ExD.op (i := 10) rfl (by kernel_rfl) rfl (op_storeRowF (i := 1) rfl rfl rfl rfl rfl rfl rfl rfl (room_at encA_len (k := (shortL l k).length - 1) (q := 1) (by omega) (by first | omega | (simp; omega) | (simp; done)) rfl) (List.cons_ne_nil _ _) rfl (put_add hkl (fun h => by first | exact absurd h.2 (by assumption) | exact nP h.1 (by assumption) | exact nPk h.1 (by omega)) (by rintro (h | h | h) <;> first | omega | exact absurd h (by assumption)) (by first | assumption | exact isP_t (by omega)) (by first | omega | (simp; omega) | (simp; done))) ⟨(List.Sublist.cons_cons _ (List.nil_sublist _)), ?_⟩)
                  have hsame := sh_same hkl (fun h => by first | exact absurd h.2 (by assumption) | exact nP h.1 (by assumption) | exact nPk h.1 (by omega)) (by rintro (h | h | h) <;> first | omega | exact absurd h (by assumption))
                  refine ExD.done (by kernel_rfl) ?_
                  refine Ex.regSeq (ExL.pures 2 rfl ?_)
                  refine ExL.free (fr_indexAddrR (sz := 2) 1 rfl rfl rfl rfl rfl rfl (by omega)) rfl rfl rfl ?_
                  refine ExL.free (fr_fieldAddrR 1 rfl (by omega) rfl rfl rfl rfl rfl rfl) rfl rfl rfl ?_
                  refine ExL.free (fr_load rfl rfl rfl rfl (cellJ (((shortL l k).length - 1)) (Reads.row (i := 1) rfl) encA_len zA 1 rfl (by omega) (by omega) rfl)) rfl rfl rfl ?_
                  refine ExL.gtr rfl rfl rfl rfl rfl rfl (fun h24 => ?_) (fun h24 => ?_)
                  · refine ExL.nil ?_
                    refine Ex.cond_t rfl ?_
                    refine Ex.regSeq (ExL.pures 0 rfl ?_)
                    refine ExL.op rfl (op_buildSlice (sz := 2) rfl rfl rfl rfl rfl rfl rfl rfl (by decide) rfl rfl rfl (fun r25 => ?_))
                    refine ExL.pures 2 rfl ?_
                    refine ExL.nil ?_
                    refine Ex.ret ?_
                    refine RetQ.mk ((some ⟨r25, 0, none⟩), 0) rfl (.tmp rfl (.tmp rfl .nil)) (t2 (by first | (rw [shk_bad (k := k) (by omega) (by assumption)]; first | done | rfl) | (rw [shk_long hbad (by assumption)]; first | done | rfl) | (rw [sh_bad (by assumption)]; first | done | rfl) | (rw [shk_big hkn haf (by assumption)]; first | done | rfl) | (rw [shk_ok hkn haf (by assumption)]; first | done | rfl) | (rw [shk_low hkn haf hI2]; first | done | rfl) | (rw [shk_over hkl haf (by rw [shortL_succ hkl]; exact over_chk (hva k hkl) (fun h => by first | exact absurd h.2 (by assumption) | exact nP h.1 (by assumption) | exact nPk h.1 (by omega)) (by rintro (h | h | h) <;> first | omega | exact absurd h (by assumption)) (by rw [← shortL_succ hkl]; assumption))]; first | done | rfl)) (by first | (rw [shk_bad (k := k) (by omega) (by assumption)]; first | done | rfl) | (rw [shk_long hbad (by assumption)]; first | done | rfl) | (rw [sh_bad (by assumption)]; first | done | rfl) | (rw [shk_big hkn haf (by assumption)]; first | done | rfl) | (rw [shk_ok hkn haf (by assumption)]; first | done | rfl) | (rw [shk_low hkn haf hI2]; first | done | rfl) | (rw [shk_over hkl haf (by rw [shortL_succ hkl]; exact over_chk (hva k hkl) (fun h => by first | exact absurd h.2 (by assumption) | exact nP h.1 (by assumption) | exact nPk h.1 (by omega)) (by rintro (h | h | h) <;> first | omega | exact absurd h (by assumption)) (by rw [← shortL_succ hkl]; assumption))]; first | done | rfl))) [0] (by first | (rw [shk_bad (k := k) (by omega) (by assumption)]; first | done | rfl) | (rw [shk_long hbad (by assumption)]; first | done | rfl) | (rw [sh_bad (by assumption)]; first | done | rfl) | (rw [shk_big hkn haf (by assumption)]; first | done | rfl) | (rw [shk_ok hkn haf (by assumption)]; first | done | rfl) | (rw [shk_low hkn haf hI2]; first | done | rfl) | (rw [shk_over hkl haf (by rw [shortL_succ hkl]; exact over_chk (hva k hkl) (fun h => by first | exact absurd h.2 (by assumption) | exact nP h.1 (by assumption) | exact nPk h.1 (by omega)) (by rintro (h | h | h) <;> first | omega | exact absurd h (by assumption)) (by rw [← shortL_succ hkl]; assumption))]; first | done | rfl)) rfl (trivial)
                  · refine ExL.nil ?_
                    refine Ex.cond_f rfl ?_
                    refine Ex.skip ?_
                    refine Ex.region (ExL.pures 1 rfl ?_)
                    refine ExL.free (by first | exact fr_add64 rfl rfl rfl (by omega) | exact fr_add rfl rfl rfl) rfl rfl rfl ?_
                    refine ExL.pures 1 rfl ?_
                    refine ExL.nil ?_
                    refine HandA.of (k + 1) (A) (c) 2 [1] ⟨(by first | (rw [hsame]; first | done | rfl) | (rw [shortL_succ hkl, st_skip (by first | assumption | exact isP_t (by omega)) (by assumption)]; first | done | rfl) | (rw [shortL_succ hkl, st_new (fun h => by first | exact absurd h.2 (by assumption) | exact nP h.1 (by assumption) | exact nPk h.1 (by omega)) (by first | exact .inl (by omega) | exact .inr (.inl (by assumption)) | exact .inr (.inr (by assumption))), List.length_append]; rfl)), rfl, trivial⟩ ⟨rfl, trivial⟩ (by first | (rw [hsame]; first | done | rfl) | (rw [shortL_succ hkl, st_skip (by first | assumption | exact isP_t (by omega)) (by assumption)]; first | done | rfl) | (rw [shortL_succ hkl, st_new (fun h => by first | exact absurd h.2 (by assumption) | exact nP h.1 (by assumption) | exact nPk h.1 (by omega)) (by first | exact .inl (by omega) | exact .inr (.inl (by assumption)) | exact .inr (.inr (by assumption))), List.length_append, List.flatMap_append]; rfl)) rfl (⟨by omega, by rw [shortL_succ hkl]; exact low_next hI2 (hva k hkl) (by first | exact .inl ⟨(by first | assumption | exact isP_t (by omega)), by assumption⟩ | exact .inr (.inl (by first | exact .inl (by omega) | exact .inr (.inl (by assumption)) | exact .inr (.inr (by assumption)))) | exact .inr (.inr (by rw [← shortL_succ hkl]; assumption)))⟩) (by omega)
        · refine ExL.pures 2 rfl ?_
          refine ExL.free (fr_load rfl rfl rfl rfl (CellO.blk (i := 0) rfl rfl)) rfl rfl rfl ?_
          refine ExL.eql rfl rfl rfl rfl rfl rfl (fun h26 => ?_) (fun h26 => ?_)
          · refine ExL.pures 2 rfl ?_
            refine ExL.nil ?_
            refine Ex.seq ?_
            refine Ex.regSeq (ExL.pures 3 rfl ?_)
            refine ExL.free (fr_load rfl rfl rfl rfl (CellO.blk (i := 0) rfl rfl)) rfl rfl rfl ?_
            refine ExL.eql rfl rfl rfl rfl rfl rfl (fun h27 => ?_) (fun h27 => ?_)
            · refine ExL.pures 1 rfl ?_
              refine ExL.nil ?_
              refine Ex.cond_t rfl ?_
              refine Ex.exit ?_
              refine Ex.region (ExL.pures 1 rfl ?_)
              refine ExL.free (by first | exact fr_add64 rfl rfl rfl (by omega) | exact fr_add rfl rfl rfl) rfl rfl rfl ?_
              refine ExL.pures 1 rfl ?_
              refine ExL.nil ?_
              refine HandA.of (k + 1) (A) (c) 2 [1] ⟨(by first | (rw [hsame]; first | done | rfl) | (rw [shortL_succ hkl, st_skip (by first | assumption | exact isP_t (by omega)) (by assumption)]; first | done | rfl) | (rw [shortL_succ hkl, st_new (fun h => by first | exact absurd h.2 (by assumption) | exact nP h.1 (by assumption) | exact nPk h.1 (by omega)) (by first | exact .inl (by omega) | exact .inr (.inl (by assumption)) | exact .inr (.inr (by assumption))), List.length_append]; rfl)), rfl, trivial⟩ ⟨rfl, trivial⟩ (by first | (rw [hsame]; first | done | rfl) | (rw [shortL_succ hkl, st_skip (by first | assumption | exact isP_t (by omega)) (by assumption)]; first | done | rfl) | (rw [shortL_succ hkl, st_new (fun h => by first | exact absurd h.2 (by assumption) | exact nP h.1 (by assumption) | exact nPk h.1 (by omega)) (by first | exact .inl (by omega) | exact .inr (.inl (by assumption)) | exact .inr (.inr (by assumption))), List.length_append, List.flatMap_append]; rfl)) rfl (⟨by omega, by rw [shortL_succ hkl]; exact low_next hI2 (hva k hkl) (by first | exact .inl ⟨(by first | assumption | exact isP_t (by omega)), by assumption⟩ | exact .inr (.inl (by first | exact .inl (by omega) | exact .inr (.inl (by assumption)) | exact .inr (.inr (by assumption)))) | exact .inr (.inr (by rw [← shortL_succ hkl]; assumption)))⟩) (by omega)
            · refine ExL.pures 1 rfl ?_
              refine ExL.nil ?_
              refine Ex.cond_f rfl ?_
              refine Ex.skip ?_
              refine Ex.regSeq (ExL.pures 2 rfl ?_)
              refine ExL.free (by first | exact fr_sub64 rfl rfl rfl (by omega) | exact fr_sub rfl rfl rfl) rfl rfl rfl ?_
              refine ExL.pures 1 rfl ?_
              refine ExL.nil ?_
              refine Ex.seq ?_
              refine Ex.drawSeqM rfl ?_
              refine ExD.take (i := 0) rfl (by kernel_rfl) (pureVal_ok rfl) ((List.Sublist.refl _)) rfl rfl rfl ?_
              refine ExD.cmp_lss (i := 1) rfl (by kernel_rfl) rfl rfl rfl ((List.Sublist.refl _)) rfl rfl rfl (fun h28 => ?_) (fun h28 => ?_)
              · refine ExD.take (i := 2) rfl (by kernel_rfl) (pureVal_ok rfl) ((List.Sublist.refl _)) rfl rfl rfl ?_
                refine ExD.pass (i := 3) rfl (by kernel_rfl) ((List.Sublist.refl _)) rfl rfl rfl ?_
                refine ExD.pass (i := 4) rfl (by kernel_rfl) ((List.Sublist.refl _)) rfl rfl rfl ?_
                refine ExD.pass (i := 5) rfl (by kernel_rfl) ((List.Sublist.refl _)) rfl rfl rfl ?_
                refine ExD.pass (i := 6) rfl (by kernel_rfl) ((List.Sublist.refl _)) rfl rfl rfl ?_
                refine ExD.pass (i := 7) rfl (by kernel_rfl) ((List.Sublist.refl _)) rfl rfl rfl ?_
                refine ExD.pass (i := 8) rfl (by kernel_rfl) ((List.Sublist.refl _)) rfl rfl rfl ?_
                refine ExD.pass (i := 9) rfl (by kernel_rfl) ((List.Sublist.refl _)) rfl rfl rfl ?_
                refine ExD.pass (i := 10) rfl (by kernel_rfl) ((List.Sublist.refl _)) rfl rfl rfl ?_
                refine ExD.take (i := 11) rfl (by kernel_rfl) (pureVal_ok rfl) ((List.Sublist.refl _)) rfl rfl rfl ?_
                refine ExD.take (i := 12) rfl (by kernel_rfl) (pureVal_ok rfl) ((List.Sublist.refl _)) rfl rfl rfl ?_
                refine ExD.pass (i := 13) rfl (by kernel_rfl) ((List.Sublist.refl _)) rfl rfl rfl ?_
                refine ExD.pass (i := 14) rfl (by kernel_rfl) ((List.Sublist.refl _)) rfl rfl rfl ?_
                refine ExD.pass (i := 15) rfl (by kernel_rfl) ((List.Sublist.refl _)) rfl rfl rfl ?_
                refine ExD.take (i := 16) rfl (by kernel_rfl) (pureVal_ok rfl) ((List.Sublist.refl _)) rfl rfl rfl ?_
                refine ExD.done (by kernel_rfl) ?_
                refine Ex.cond_t rfl ?_
                refine Ex.regSeq (ExL.pures 1 rfl ?_)
                refine ExL.free (fr_loadN rfl rfl rfl rfl rfl (SegO.whole (i := 0) rfl)) rfl rfl rfl ?_
                refine ExL.op rfl (op_buildSlice (sz := 2) rfl rfl rfl rfl rfl rfl rfl rfl (by decide) rfl rfl rfl (fun r29 => ?_))
                refine ExL.op rfl (op_append (sz := 2) (bytes := 16) (i := 2) rfl rfl rfl rfl (Reads.row (i := 0) rfl) rfl (fun e => nomatch e) rfl rfl rfl rfl (by constructor <;> first | omega | (unfold maxLen; omega)) rfl rfl (fun A30 cA30 => ?_))
                refine ExL.pures 1 rfl ?_
                refine ExL.nil ?_
                refine Ex.exit ?_
                refine Ex.region (ExL.pures 1 rfl ?_)
                refine ExL.free (by first | exact fr_add64 rfl rfl rfl (by omega) | exact fr_add rfl rfl rfl) rfl rfl rfl ?_
                refine ExL.pures 1 rfl ?_
                refine ExL.nil ?_
                refine HandA.of (k + 1) (A30) (cA30) 3 [2] ⟨(by first | (rw [hsame]; first | done | rfl) | (rw [shortL_succ hkl, st_skip (by first | assumption | exact isP_t (by omega)) (by assumption)]; first | done | rfl) | (rw [shortL_succ hkl, st_new (fun h => by first | exact absurd h.2 (by assumption) | exact nP h.1 (by assumption) | exact nPk h.1 (by omega)) (by first | exact .inl (by omega) | exact .inr (.inl (by assumption)) | exact .inr (.inr (by assumption))), List.length_append]; rfl)), rfl, trivial⟩ ⟨rfl, trivial⟩ (by first | (rw [hsame]; first | done | rfl) | (rw [shortL_succ hkl, st_skip (by first | assumption | exact isP_t (by omega)) (by assumption)]; first | done | rfl) | (rw [shortL_succ hkl, st_new (fun h => by first | exact absurd h.2 (by assumption) | exact nP h.1 (by assumption) | exact nPk h.1 (by omega)) (by first | exact .inl (by omega) | exact .inr (.inl (by assumption)) | exact .inr (.inr (by assumption))), List.length_append, List.flatMap_append]; rfl)) rfl (⟨by omega, by rw [shortL_succ hkl]; exact low_next hI2 (hva k hkl) (by first | exact .inl ⟨(by first | assumption | exact isP_t (by omega)), by assumption⟩ | exact .inr (.inl (by first | exact .inl (by omega) | exact .inr (.inl (by assumption)) | exact .inr (.inr (by assumption)))) | exact .inr (.inr (by rw [← shortL_succ hkl]; assumption)))⟩) (by omega)
              · refine ExD.take (i := 2) rfl (by kernel_rfl) (pureVal_ok rfl) ((List.Sublist.refl _)) rfl rfl rfl ?_
                refine ExD.take (i := 3) rfl (by kernel_rfl) (pureVal_ok rfl) ((List.Sublist.refl _)) rfl rfl rfl ?_
                refine ExD.take (i := 4) rfl (by kernel_rfl) (pureVal_ok rfl) ((List.Sublist.refl _)) rfl rfl rfl ?_
                refine ExD.take (i := 5) rfl (by kernel_rfl) (fr_indexAddrR (sz := 2) 1 rfl rfl rfl rfl rfl rfl (by omega)) ((List.Sublist.refl _)) rfl rfl rfl ?_
                refine ExD.take (i := 6) rfl (by kernel_rfl) (fr_fieldAddrR 1 rfl (by omega) rfl rfl rfl rfl rfl rfl) ((List.Sublist.refl _)) rfl rfl rfl ?_
                refine ExD.take (i := 7) rfl (by kernel_rfl) (fr_load rfl rfl rfl rfl (cellJ (((shortL l k).length - 1)) (Reads.row (i := 1) rfl) encA_len zA 0 rfl (by omega) (by omega) rfl)) ((List.Sublist.refl _)) rfl rfl rfl ?_
                refine ExD.take (i := 8) rfl (by kernel_rfl) (pureVal_ok rfl) ((List.Sublist.refl _)) rfl rfl rfl ?_
                refine ExD.take (i := 9) rfl (by kernel_rfl) (fr_load rfl rfl rfl rfl (CellO.blk (i := 0) rfl rfl)) ((List.Sublist.refl _)) rfl rfl rfl ?_
                refine ExD.cmp_neq (i := 10) rfl (by kernel_rfl) rfl rfl rfl ((List.Sublist.refl _)) rfl rfl rfl (fun h32 => ?_) (fun h32 => ?_)
                · refine ExD.take (i := 11) rfl (by kernel_rfl) (pureVal_ok rfl) ((List.Sublist.refl _)) rfl rfl rfl ?_
                  refine ExD.take (i := 12) rfl (by kernel_rfl) (pureVal_ok rfl) ((List.Sublist.refl _)) rfl rfl rfl ?_
                  refine ExD.pass (i := 13) rfl (by kernel_rfl) ((List.Sublist.refl _)) rfl rfl rfl ?_
                  refine ExD.pass (i := 14) rfl (by kernel_rfl) ((List.Sublist.refl _)) rfl rfl rfl ?_
                  refine ExD.pass (i := 15) rfl (by kernel_rfl) ((List.Sublist.refl _)) rfl rfl rfl ?_
                  refine ExD.take (i := 16) rfl (by kernel_rfl) (pureVal_ok rfl) ((List.Sublist.refl _)) rfl rfl rfl ?_
                  refine ExD.done (by kernel_rfl) ?_
                  refine Ex.cond_t rfl ?_
                  refine Ex.regSeq (ExL.pures 1 rfl ?_)
                  refine ExL.free (fr_loadN rfl rfl rfl rfl rfl (SegO.whole (i := 0) rfl)) rfl rfl rfl ?_
                  refine ExL.op rfl (op_buildSlice (sz := 2) rfl rfl rfl rfl rfl rfl rfl rfl (by decide) rfl rfl rfl (fun r33 => ?_))
                  refine ExL.op rfl (op_append (sz := 2) (bytes := 16) (i := 2) rfl rfl rfl rfl (Reads.row (i := 0) rfl) rfl (fun e => nomatch e) rfl rfl rfl rfl (by constructor <;> first | omega | (unfold maxLen; omega)) rfl rfl (fun A34 cA34 => ?_))
                  refine ExL.pures 1 rfl ?_
                  refine ExL.nil ?_
                  refine Ex.exit ?_
                  refine Ex.region (ExL.pures 1 rfl ?_)
                  refine ExL.free (by first | exact fr_add64 rfl rfl rfl (by omega) | exact fr_add rfl rfl rfl) rfl rfl rfl ?_
                  refine ExL.pures 1 rfl ?_
                  refine ExL.nil ?_
                  refine HandA.of (k + 1) (A34) (cA34) 3 [2] ⟨(by first | (rw [hsame]; first | done | rfl) | (rw [shortL_succ hkl, st_skip (by first | assumption | exact isP_t (by omega)) (by assumption)]; first | done | rfl) | (rw [shortL_succ hkl, st_new (fun h => by first | exact absurd h.2 (by assumption) | exact nP h.1 (by assumption) | exact nPk h.1 (by omega)) (by first | exact .inl (by omega) | exact .inr (.inl (by assumption)) | exact .inr (.inr (by assumption))), List.length_append]; rfl)), rfl, trivial⟩ ⟨rfl, trivial⟩ (by first | (rw [hsame]; first | done | rfl) | (rw [shortL_succ hkl, st_skip (by first | assumption | exact isP_t (by omega)) (by assumption)]; first | done | rfl) | (rw [shortL_succ hkl, st_new (fun h => by first | exact absurd h.2 (by assumption) | exact nP h.1 (by assumption) | exact nPk h.1 (by omega)) (by first | exact .inl (by omega) | exact .inr (.inl (by assumption)) | exact .inr (.inr (by assumption))), List.length_append, List.flatMap_append]; rfl)) rfl (⟨by omega, by rw [shortL_succ hkl]; exact low_next hI2 (hva k hkl) (by first | exact .inl ⟨(by first | assumption | exact isP_t (by omega)), by assumption⟩ | exact .inr (.inl (by first | exact .inl (by omega) | exact .inr (.inl (by assumption)) | exact .inr (.inr (by assumption)))) | exact .inr (.inr (by rw [← shortL_succ hkl]; assumption)))⟩) (by omega)
                · refine ExD.take (i := 11) rfl (by kernel_rfl) (pureVal_ok rfl) ((List.Sublist.refl _)) rfl rfl rfl ?_
                  refine ExD.take (i := 12) rfl (by kernel_rfl) (pureVal_ok rfl) ((List.Sublist.refl _)) rfl rfl rfl ?_
                  refine ExD.take (i := 13) rfl (by kernel_rfl) (pureVal_ok rfl) ((List.Sublist.refl _)) rfl rfl rfl ?_
                  refine ExD.take (i := 14) rfl (by kernel_rfl) (fr_load rfl rfl rfl rfl (CellO.blk (i := 0) rfl rfl)) ((List.Sublist.refl _)) rfl rfl rfl ?_
                  refine ExD.cmp_eql (i := 15) rfl (by kernel_rfl) rfl rfl rfl ((List.Sublist.refl _)) rfl rfl rfl (fun h36 => ?_) (fun h36 => ?_)
                  · refine ExD.take (i := 16) rfl (by kernel_rfl) (pureVal_ok rfl) ((List.Sublist.refl _)) rfl rfl rfl ?_
                    refine ExD.done (by kernel_rfl) ?_
                    refine Ex.cond_t rfl ?_
                    refine Ex.regSeq (ExL.pures 1 rfl ?_)
                    refine ExL.free (fr_loadN rfl rfl rfl rfl rfl (SegO.whole (i := 0) rfl)) rfl rfl rfl ?_
                    refine ExL.op rfl (op_buildSlice (sz := 2) rfl rfl rfl rfl rfl rfl rfl rfl (by decide) rfl rfl rfl (fun r37 => ?_))
                    refine ExL.op rfl (op_append (sz := 2) (bytes := 16) (i := 2) rfl rfl rfl rfl (Reads.row (i := 0) rfl) rfl (fun e => nomatch e) rfl rfl rfl rfl (by constructor <;> first | omega | (unfold maxLen; omega)) rfl rfl (fun A38 cA38 => ?_))
                    refine ExL.pures 1 rfl ?_
                    refine ExL.nil ?_
                    refine Ex.exit ?_
                    refine Ex.region (ExL.pures 1 rfl ?_)
                    refine ExL.free (by first | exact fr_add64 rfl rfl rfl (by omega) | exact fr_add rfl rfl rfl) rfl rfl rfl ?_
                    refine ExL.pures 1 rfl ?_
                    refine ExL.nil ?_
                    refine HandA.of (k + 1) (A38) (cA38) 3 [2] ⟨(by first | (rw [hsame]; first | done | rfl) | (rw [shortL_succ hkl, st_skip (by first | assumption | exact isP_t (by omega)) (by assumption)]; first | done | rfl) | (rw [shortL_succ hkl, st_new (fun h => by first | exact absurd h.2 (by assumption) | exact nP h.1 (by assumption) | exact nPk h.1 (by omega)) (by first | exact .inl (by omega) | exact .inr (.inl (by assumption)) | exact .inr (.inr (by assumption))), List.length_append]; rfl)), rfl, trivial⟩ ⟨rfl, trivial⟩ (by first | (rw [hsame]; first | done | rfl) | (rw [shortL_succ hkl, st_skip (by first | assumption | exact isP_t (by omega)) (by assumption)]; first | done | rfl) | (rw [shortL_succ hkl, st_new (fun h => by first | exact absurd h.2 (by assumption) | exact nP h.1 (by assumption) | exact nPk h.1 (by omega)) (by first | exact .inl (by omega) | exact .inr (.inl (by assumption)) | exact .inr (.inr (by assumption))), List.length_append, List.flatMap_append]; rfl)) rfl (⟨by omega, by rw [shortL_succ hkl]; exact low_next hI2 (hva k hkl) (by first | exact .inl ⟨(by first | assumption | exact isP_t (by omega)), by assumption⟩ | exact .inr (.inl (by first | exact .inl (by omega) | exact .inr (.inl (by assumption)) | exact .inr (.inr (by assumption)))) | exact .inr (.inr (by rw [← shortL_succ hkl]; assumption)))⟩) (by omega)
                  · refine ExD.take (i := 16) rfl (by kernel_rfl) (pureVal_ok rfl) ((List.Sublist.refl _)) rfl rfl rfl ?_
                    refine ExD.done (by kernel_rfl) ?_
                    refine Ex.cond_f rfl ?_
                    refine Ex.skip ?_
                    refine Ex.seq ?_
                    refine Ex.regSeq (ExL.pures 1 rfl ?_)
                    refine ExL.nil ?_
                    refine Ex.cond_t rfl ?_
                    refine Ex.drawI [0] rfl rfl ?_
                    refine ExD.take (i := 0) rfl (by kernel_rfl) (pureVal_ok rfl) ((List.Sublist.cons_cons _ (List.nil_sublist _))) rfl rfl rfl ?_
                    refine ExD.take (i := 1) rfl (by kernel_rfl) (pureVal_ok rfl) ((List.Sublist.cons_cons _ (List.nil_sublist _))) rfl rfl rfl ?_
                    refine ExD.take (i := 5) rfl (by kernel_rfl) (pureVal_ok rfl) ((List.Sublist.cons_cons _ (List.nil_sublist _))) rfl rfl rfl ?_
                    refine ExD.take (i := 6) rfl (by kernel_rfl) (fr_load rfl rfl rfl rfl (CellO.blk (i := 0) rfl rfl)) ((List.Sublist.cons_cons _ (List.nil_sublist _))) rfl rfl rfl ?_
                    refine ExD.op (i := 2) rfl (by kernel_rfl) rfl (Op1.of_free (fr_indexAddrR (sz := 2) 1 rfl rfl rfl rfl rfl rfl (by omega)) rfl rfl ⟨(List.Sublist.cons_cons _ (List.nil_sublist _)), ?_⟩)
                    refine ExD.op (i := 3) rfl (by kernel_rfl) rfl (Op1.of_free (fr_fieldAddrR 1 rfl (by omega) rfl rfl rfl rfl rfl rfl) rfl rfl ⟨(List.Sublist.cons_cons _ (List.nil_sublist _)), ?_⟩)
                    refine ExD.op (i := 4) rfl (by kernel_rfl) rfl (Op1.of_free (fr_load rfl rfl rfl rfl (cellJ (((shortL l k).length - 1)) (Reads.row (i := 1) rfl) encA_len zA 1 rfl (by omega) (by omega) rfl)) rfl rfl ⟨(List.Sublist.cons_cons _ (List.nil_sublist _)), ?_⟩)
                    refine ExD.take (i := 7) rfl (by kernel_rfl) (by first | exact fr_add64 rfl rfl rfl (by omega) | exact fr_add rfl rfl rfl) ((List.Sublist.cons_cons _ (List.nil_sublist _))) rfl rfl rfl ?_
                    refine ExD.op (i := 8) rfl (by kernel_rfl) rfl (Op1.of_free (fr_indexAddrR (sz := 2) 1 rfl rfl rfl rfl rfl rfl (by omega)) rfl rfl ⟨(List.Sublist.cons_cons _ (List.nil_sublist _)), ?_⟩)
                    refine ExD.op (i := 9) rfl (by kernel_rfl) rfl (Op1.of_free (fr_fieldAddrR 1 rfl (by omega) rfl rfl rfl rfl rfl rfl) rfl rfl ⟨(List.Sublist.cons_cons _ (List.nil_sublist _)), ?_⟩)
                    refine ExD.op (i := 10) rfl (by kernel_rfl) rfl (op_storeRowF (i := 1) rfl rfl rfl rfl rfl rfl rfl rfl (room_at encA_len (k := (shortL l k).length - 1) (q := 1) (by omega) (by first | omega | (simp; omega) | (simp; done)) rfl) (List.cons_ne_nil _ _) rfl (put_add hkl (fun h => by first | exact absurd h.2 (by assumption) | exact nP h.1 (by assumption) | exact nPk h.1 (by omega)) (by rintro (h | h | h) <;> first | omega | exact absurd h (by assumption)) (by first | assumption | exact isP_t (by omega)) (by first | omega | (simp; omega) | (simp; done))) ⟨(List.Sublist.cons_cons _ (List.nil_sublist _)), ?_⟩)
                    have hsame := sh_same hkl (fun h => by first | exact absurd h.2 (by assumption) | exact nP h.1 (by assumption) | exact nPk h.1 (by omega)) (by rintro (h | h | h) <;> first | omega | exact absurd h (by assumption))
                    refine ExD.done (by kernel_rfl) ?_
                    refine Ex.regSeq (ExL.pures 2 rfl ?_)
                    refine ExL.free (fr_indexAddrR (sz := 2) 1 rfl rfl rfl rfl rfl rfl (by omega)) rfl rfl rfl ?_
                    refine ExL.free (fr_fieldAddrR 1 rfl (by omega) rfl rfl rfl rfl rfl rfl) rfl rfl rfl ?_
                    refine ExL.free (fr_load rfl rfl rfl rfl (cellJ (((shortL l k).length - 1)) (Reads.row (i := 1) rfl) encA_len zA 1 rfl (by omega) (by omega) rfl)) rfl rfl rfl ?_
                    refine ExL.gtr rfl rfl rfl rfl rfl rfl (fun h40 => ?_) (fun h40 => ?_)
                    · refine ExL.nil ?_
                      refine Ex.cond_t rfl ?_
                      refine Ex.regSeq (ExL.pures 0 rfl ?_)
                      refine ExL.op rfl (op_buildSlice (sz := 2) rfl rfl rfl rfl rfl rfl rfl rfl (by decide) rfl rfl rfl (fun r41 => ?_))
                      refine ExL.pures 2 rfl ?_
                      refine ExL.nil ?_
                      refine Ex.ret ?_
                      refine RetQ.mk ((some ⟨r41, 0, none⟩), 0) rfl (.tmp rfl (.tmp rfl .nil)) (t2 (by first | (rw [shk_bad (k := k) (by omega) (by assumption)]; first | done | rfl) | (rw [shk_long hbad (by assumption)]; first | done | rfl) | (rw [sh_bad (by assumption)]; first | done | rfl) | (rw [shk_big hkn haf (by assumption)]; first | done | rfl) | (rw [shk_ok hkn haf (by assumption)]; first | done | rfl) | (rw [shk_low hkn haf hI2]; first | done | rfl) | (rw [shk_over hkl haf (by rw [shortL_succ hkl]; exact over_chk (hva k hkl) (fun h => by first | exact absurd h.2 (by assumption) | exact nP h.1 (by assumption) | exact nPk h.1 (by omega)) (by rintro (h | h | h) <;> first | omega | exact absurd h (by assumption)) (by rw [← shortL_succ hkl]; assumption))]; first | done | rfl)) (by first | (rw [shk_bad (k := k) (by omega) (by assumption)]; first | done | rfl) | (rw [shk_long hbad (by assumption)]; first | done | rfl) | (rw [sh_bad (by assumption)]; first | done | rfl) | (rw [shk_big hkn haf (by assumption)]; first | done | rfl) | (rw [shk_ok hkn haf (by assumption)]; first | done | rfl) | (rw [shk_low hkn haf hI2]; first | done | rfl) | (rw [shk_over hkl haf (by rw [shortL_succ hkl]; exact over_chk (hva k hkl) (fun h => by first | exact absurd h.2 (by assumption) | exact nP h.1 (by assumption) | exact nPk h.1 (by omega)) (by rintro (h | h | h) <;> first | omega | exact absurd h (by assumption)) (by rw [← shortL_succ hkl]; assumption))]; first | done | rfl))) [0] (by first | (rw [shk_bad (k := k) (by omega) (by assumption)]; first | done | rfl) | (rw [shk_long hbad (by assumption)]; first | done | rfl) | (rw [sh_bad (by assumption)]; first | done | rfl) | (rw [shk_big hkn haf (by assumption)]; first | done | rfl) | (rw [shk_ok hkn haf (by assumption)]; first | done | rfl) | (rw [shk_low hkn haf hI2]; first | done | rfl) | (rw [shk_over hkl haf (by rw [shortL_succ hkl]; exact over_chk (hva k hkl) (fun h => by first | exact absurd h.2 (by assumption) | exact nP h.1 (by assumption) | exact nPk h.1 (by omega)) (by rintro (h | h | h) <;> first | omega | exact absurd h (by assumption)) (by rw [← shortL_succ hkl]; assumption))]; first | done | rfl)) rfl (trivial)
                    · refine ExL.nil ?_
                      refine Ex.cond_f rfl ?_
                      refine Ex.skip ?_
                      refine Ex.region (ExL.pures 1 rfl ?_)
                      refine ExL.free (by first | exact fr_add64 rfl rfl rfl (by omega) | exact fr_add rfl rfl rfl) rfl rfl rfl ?_
                      refine ExL.pures 1 rfl ?_
                      refine ExL.nil ?_
                      refine HandA.of (k + 1) (A) (c) 2 [1] ⟨(by first | (rw [hsame]; first | done | rfl) | (rw [shortL_succ hkl, st_skip (by first | assumption | exact isP_t (by omega)) (by assumption)]; first | done | rfl) | (rw [shortL_succ hkl, st_new (fun h => by first | exact absurd h.2 (by assumption) | exact nP h.1 (by assumption) | exact nPk h.1 (by omega)) (by first | exact .inl (by omega) | exact .inr (.inl (by assumption)) | exact .inr (.inr (by assumption))), List.length_append]; rfl)), rfl, trivial⟩ ⟨rfl, trivial⟩ (by first | (rw [hsame]; first | done | rfl) | (rw [shortL_succ hkl, st_skip (by first | assumption | exact isP_t (by omega)) (by assumption)]; first | done | rfl) | (rw [shortL_succ hkl, st_new (fun h => by first | exact absurd h.2 (by assumption) | exact nP h.1 (by assumption) | exact nPk h.1 (by omega)) (by first | exact .inl (by omega) | exact .inr (.inl (by assumption)) | exact .inr (.inr (by assumption))), List.length_append, List.flatMap_append]; rfl)) rfl (⟨by omega, by rw [shortL_succ hkl]; exact low_next hI2 (hva k hkl) (by first | exact .inl ⟨(by first | assumption | exact isP_t (by omega)), by assumption⟩ | exact .inr (.inl (by first | exact .inl (by omega) | exact .inr (.inl (by assumption)) | exact .inr (.inr (by assumption)))) | exact .inr (.inr (by rw [← shortL_succ hkl]; assumption)))⟩) (by omega)
          · refine ExL.pures 2 rfl ?_
            refine ExL.nil ?_
            refine Ex.seq ?_
            refine Ex.regSeq (ExL.pures 6 rfl ?_)
            refine ExL.nil ?_
            refine Ex.cond_f rfl ?_
            refine Ex.skip ?_
            refine Ex.regSeq (ExL.pures 2 rfl ?_)
            refine ExL.free (by first | exact fr_sub64 rfl rfl rfl (by omega) | exact fr_sub rfl rfl rfl) rfl rfl rfl ?_
            refine ExL.pures 1 rfl ?_
            refine ExL.nil ?_
            refine Ex.seq ?_
            refine Ex.drawSeqM rfl ?_
            refine ExD.take (i := 0) rfl (by kernel_rfl) (pureVal_ok rfl) ((List.Sublist.refl _)) rfl rfl rfl ?_
            refine ExD.cmp_lss (i := 1) rfl (by kernel_rfl) rfl rfl rfl ((List.Sublist.refl _)) rfl rfl rfl (fun h42 => ?_) (fun h42 => ?_)
            · refine ExD.take (i := 2) rfl (by kernel_rfl) (pureVal_ok rfl) ((List.Sublist.refl _)) rfl rfl rfl ?_
              refine ExD.pass (i := 3) rfl (by kernel_rfl) ((List.Sublist.refl _)) rfl rfl rfl ?_
              refine ExD.pass (i := 4) rfl (by kernel_rfl) ((List.Sublist.refl _)) rfl rfl rfl ?_
              refine ExD.pass (i := 5) rfl (by kernel_rfl) ((List.Sublist.refl _)) rfl rfl rfl ?_
              refine ExD.pass (i := 6) rfl (by kernel_rfl) ((List.Sublist.refl _)) rfl rfl rfl ?_
              refine ExD.pass (i := 7) rfl (by kernel_rfl) ((List.Sublist.refl _)) rfl rfl rfl ?_
              refine ExD.pass (i := 8) rfl (by kernel_rfl) ((List.Sublist.refl _)) rfl rfl rfl ?_
              refine ExD.pass (i := 9) rfl (by kernel_rfl) ((List.Sublist.refl _)) rfl rfl rfl ?_
              refine ExD.pass (i := 10) rfl (by kernel_rfl) ((List.Sublist.refl _)) rfl rfl rfl ?_
              refine ExD.take (i := 11) rfl (by kernel_rfl) (pureVal_ok rfl) ((List.Sublist.refl _)) rfl rfl rfl ?_
              refine ExD.take (i := 12) rfl (by kernel_rfl) (pureVal_ok rfl) ((List.Sublist.refl _)) rfl rfl rfl ?_
              refine ExD.pass (i := 13) rfl (by kernel_rfl) ((List.Sublist.refl _)) rfl rfl rfl ?_
              refine ExD.pass (i := 14) rfl (by kernel_rfl) ((List.Sublist.refl _)) rfl rfl rfl ?_
              refine ExD.pass (i := 15) rfl (by kernel_rfl) ((List.Sublist.refl _)) rfl rfl rfl ?_
              refine ExD.take (i := 16) rfl (by kernel_rfl) (pureVal_ok rfl) ((List.Sublist.refl _)) rfl rfl rfl ?_
              refine ExD.done (by kernel_rfl) ?_
              refine Ex.cond_t rfl ?_
              refine Ex.regSeq (ExL.pures 1 rfl ?_)
              refine ExL.free (fr_loadN rfl rfl rfl rfl rfl (SegO.whole (i := 0) rfl)) rfl rfl rfl ?_
              refine ExL.op rfl (op_buildSlice (sz := 2) rfl rfl rfl rfl rfl rfl rfl rfl (by decide) rfl rfl rfl (fun r43 => ?_))
              refine ExL.op rfl (op_append (sz := 2) (bytes := 16) (i := 2) rfl rfl rfl rfl (Reads.row (i := 0) rfl) rfl (fun e => nomatch e) rfl rfl rfl rfl (by constructor <;> first | omega | (unfold maxLen; omega)) rfl rfl (fun A44 cA44 => ?_))
              refine ExL.pures 1 rfl ?_
              refine ExL.nil ?_
              refine Ex.exit ?_
              refine Ex.region (ExL.pures 1 rfl ?_)
              refine ExL.free (by first | exact fr_add64 rfl rfl rfl (by omega) | exact fr_add rfl rfl rfl) rfl rfl rfl ?_
              refine ExL.pures 1 rfl ?_
              refine ExL.nil ?_
              refine HandA.of (k + 1) (A44) (cA44) 3 [2] ⟨(by first | (rw [hsame]; first | done | rfl) | (rw [shortL_succ hkl, st_skip (by first | assumption | exact isP_t (by omega)) (by assumption)]; first | done | rfl) | (rw [shortL_succ hkl, st_new (fun h => by first | exact absurd h.2 (by assumption) | exact nP h.1 (by assumption) | exact nPk h.1 (by omega)) (by first | exact .inl (by omega) | exact .inr (.inl (by assumption)) | exact .inr (.inr (by assumption))), List.length_append]; rfl)), rfl, trivial⟩ ⟨rfl, trivial⟩ (by first | (rw [hsame]; first | done | rfl) | (rw [shortL_succ hkl, st_skip (by first | assumption | exact isP_t (by omega)) (by assumption)]; first | done | rfl) | (rw [shortL_succ hkl, st_new (fun h => by first | exact absurd h.2 (by assumption) | exact nP h.1 (by assumption) | exact nPk h.1 (by omega)) (by first | exact .inl (by omega) | exact .inr (.inl (by assumption)) | exact .inr (.inr (by assumption))), List.length_append, List.flatMap_append]; rfl)) rfl (⟨by omega, by rw [shortL_succ hkl]; exact low_next hI2 (hva k hkl) (by first | exact .inl ⟨(by first | assumption | exact isP_t (by omega)), by assumption⟩ | exact .inr (.inl (by first | exact .inl (by omega) | exact .inr (.inl (by assumption)) | exact .inr (.inr (by assumption)))) | exact .inr (.inr (by rw [← shortL_succ hkl]; assumption)))⟩) (by omega)
            · refine ExD.take (i := 2) rfl (by kernel_rfl) (pureVal_ok rfl) ((List.Sublist.refl _)) rfl rfl rfl ?_
              refine ExD.take (i := 3) rfl (by kernel_rfl) (pureVal_ok rfl) ((List.Sublist.refl _)) rfl rfl rfl ?_
              refine ExD.take (i := 4) rfl (by kernel_rfl) (pureVal_ok rfl) ((List.Sublist.refl _)) rfl rfl rfl ?_
              refine ExD.take (i := 5) rfl (by kernel_rfl) (fr_indexAddrR (sz := 2) 1 rfl rfl rfl rfl rfl rfl (by omega)) ((List.Sublist.refl _)) rfl rfl rfl ?_
              refine ExD.take (i := 6) rfl (by kernel_rfl) (fr_fieldAddrR 1 rfl (by omega) rfl rfl rfl rfl rfl rfl) ((List.Sublist.refl _)) rfl rfl rfl ?_
              refine ExD.take (i := 7) rfl (by kernel_rfl) (fr_load rfl rfl rfl rfl (cellJ (((shortL l k).length - 1)) (Reads.row (i := 1) rfl) encA_len zA 0 rfl (by omega) (by omega) rfl)) ((List.Sublist.refl _)) rfl rfl rfl ?_
              refine ExD.take (i := 8) rfl (by kernel_rfl) (pureVal_ok rfl) ((List.Sublist.refl _)) rfl rfl rfl ?_
              refine ExD.take (i := 9) rfl (by kernel_rfl) (fr_load rfl rfl rfl rfl (CellO.blk (i := 0) rfl rfl)) ((List.Sublist.refl _)) rfl rfl rfl ?_
              refine ExD.cmp_neq (i := 10) rfl (by kernel_rfl) rfl rfl rfl ((List.Sublist.refl _)) rfl rfl rfl (fun h46 => ?_) (fun h46 => ?_)
              · refine ExD.take (i := 11) rfl (by kernel_rfl) (pureVal_ok rfl) ((List.Sublist.refl _)) rfl rfl rfl ?_
                refine ExD.take (i := 12) rfl (by kernel_rfl) (pureVal_ok rfl) ((List.Sublist.refl _)) rfl rfl rfl ?_
                refine ExD.pass (i := 13) rfl (by kernel_rfl) ((List.Sublist.refl _)) rfl rfl rfl ?_
                refine ExD.pass (i := 14) rfl (by kernel_rfl) ((List.Sublist.refl _)) rfl rfl rfl ?_
                refine ExD.pass (i := 15) rfl (by kernel_rfl) ((List.Sublist.refl _)) rfl rfl rfl ?_
                refine ExD.take (i := 16) rfl (by kernel_rfl) (pureVal_ok rfl) ((List.Sublist.refl _)) rfl rfl rfl ?_
                refine ExD.done (by kernel_rfl) ?_
                refine Ex.cond_t rfl ?_
                refine Ex.regSeq (ExL.pures 1 rfl ?_)
                refine ExL.free (fr_loadN rfl rfl rfl rfl rfl (SegO.whole (i := 0) rfl)) rfl rfl rfl ?_
                refine ExL.op rfl (op_buildSlice (sz := 2) rfl rfl rfl rfl rfl rfl rfl rfl (by decide) rfl rfl rfl (fun r47 => ?_))
                refine ExL.op rfl (op_append (sz := 2) (bytes := 16) (i := 2) rfl rfl rfl rfl (Reads.row (i := 0) rfl) rfl (fun e => nomatch e) rfl rfl rfl rfl (by constructor <;> first | omega | (unfold maxLen; omega)) rfl rfl (fun A48 cA48 => ?_))
                refine ExL.pures 1 rfl ?_
                refine ExL.nil ?_
                refine Ex.exit ?_
                refine Ex.region (ExL.pures 1 rfl ?_)
                refine ExL.free (by first | exact fr_add64 rfl rfl rfl (by omega) | exact fr_add rfl rfl rfl) rfl rfl rfl ?_
                refine ExL.pures 1 rfl ?_
                refine ExL.nil ?_
                refine HandA.of (k + 1) (A48) (cA48) 3 [2] ⟨(by first | (rw [hsame]; first | done | rfl) | (rw [shortL_succ hkl, st_skip (by first | assumption | exact isP_t (by omega)) (by assumption)]; first | done | rfl) | (rw [shortL_succ hkl, st_new (fun h => by first | exact absurd h.2 (by assumption) | exact nP h.1 (by assumption) | exact nPk h.1 (by omega)) (by first | exact .inl (by omega) | exact .inr (.inl (by assumption)) | exact .inr (.inr (by assumption))), List.length_append]; rfl)), rfl, trivial⟩ ⟨rfl, trivial⟩ (by first | (rw [hsame]; first | done | rfl) | (rw [shortL_succ hkl, st_skip (by first | assumption | exact isP_t (by omega)) (by assumption)]; first | done | rfl) | (rw [shortL_succ hkl, st_new (fun h => by first | exact absurd h.2 (by assumption) | exact nP h.1 (by assumption) | exact nPk h.1 (by omega)) (by first | exact .inl (by omega) | exact .inr (.inl (by assumption)) | exact .inr (.inr (by assumption))), List.length_append, List.flatMap_append]; rfl)) rfl (⟨by omega, by rw [shortL_succ hkl]; exact low_next hI2 (hva k hkl) (by first | exact .inl ⟨(by first | assumption | exact isP_t (by omega)), by assumption⟩ | exact .inr (.inl (by first | exact .inl (by omega) | exact .inr (.inl (by assumption)) | exact .inr (.inr (by assumption)))) | exact .inr (.inr (by rw [← shortL_succ hkl]; assumption)))⟩) (by omega)
              · refine ExD.take (i := 11) rfl (by kernel_rfl) (pureVal_ok rfl) ((List.Sublist.refl _)) rfl rfl rfl ?_
                refine ExD.take (i := 12) rfl (by kernel_rfl) (pureVal_ok rfl) ((List.Sublist.refl _)) rfl rfl rfl ?_
                refine ExD.take (i := 13) rfl (by kernel_rfl) (pureVal_ok rfl) ((List.Sublist.refl _)) rfl rfl rfl ?_
                refine ExD.take (i := 14) rfl (by kernel_rfl) (fr_load rfl rfl rfl rfl (CellO.blk (i := 0) rfl rfl)) ((List.Sublist.refl _)) rfl rfl rfl ?_
                refine ExD.cmp_eql (i := 15) rfl (by kernel_rfl) rfl rfl rfl ((List.Sublist.refl _)) rfl rfl rfl (fun h50 => ?_) (fun h50 => ?_)
                · refine ExD.take (i := 16) rfl (by kernel_rfl) (pureVal_ok rfl) ((List.Sublist.refl _)) rfl rfl rfl ?_
                  refine ExD.done (by kernel_rfl) ?_
                  refine Ex.cond_t rfl ?_
                  refine Ex.regSeq (ExL.pures 1 rfl ?_)
                  refine ExL.free (fr_loadN rfl rfl rfl rfl rfl (SegO.whole (i := 0) rfl)) rfl rfl rfl ?_
                  refine ExL.op rfl (op_buildSlice (sz := 2) rfl rfl rfl rfl rfl rfl rfl rfl (by decide) rfl rfl rfl (fun r51 => ?_))
                  refine ExL.op rfl (op_append (sz := 2) (bytes := 16) (i := 2) rfl rfl rfl rfl (Reads.row (i := 0) rfl) rfl (fun e => nomatch e) rfl rfl rfl rfl (by constructor <;> first | omega | (unfold maxLen; omega)) rfl rfl (fun A52 cA52 => ?_))
                  refine ExL.pures 1 rfl ?_
                  refine ExL.nil ?_
                  refine Ex.exit ?_
                  refine Ex.region (ExL.pures 1 rfl ?_)
                  refine ExL.free (by first | exact fr_add64 rfl rfl rfl (by omega) | exact fr_add rfl rfl rfl) rfl rfl rfl ?_
                  refine ExL.pures 1 rfl ?_
                  refine ExL.nil ?_
                  refine HandA.of (k + 1) (A52) (cA52) 3 [2] ⟨(by first | (rw [hsame]; first | done | rfl) | (rw [shortL_succ hkl, st_skip (by first | assumption | exact isP_t (by omega)) (by assumption)]; first | done | rfl) | (rw [shortL_succ hkl, st_new (fun h => by first | exact absurd h.2 (by assumption) | exact nP h.1 (by assumption) | exact nPk h.1 (by omega)) (by first | exact .inl (by omega) | exact .inr (.inl (by assumption)) | exact .inr (.inr (by assumption))), List.length_append]; rfl)), rfl, trivial⟩ ⟨rfl, trivial⟩ (by first | (rw [hsame]; first | done | rfl) | (rw [shortL_succ hkl, st_skip (by first | assumption | exact isP_t (by omega)) (by assumption)]; first | done | rfl) | (rw [shortL_succ hkl, st_new (fun h => by first | exact absurd h.2 (by assumption) | exact nP h.1 (by assumption) | exact nPk h.1 (by omega)) (by first | exact .inl (by omega) | exact .inr (.inl (by assumption)) | exact .inr (.inr (by assumption))), List.length_append, List.flatMap_append]; rfl)) rfl (⟨by omega, by rw [shortL_succ hkl]; exact low_next hI2 (hva k hkl) (by first | exact .inl ⟨(by first | assumption | exact isP_t (by omega)), by assumption⟩ | exact .inr (.inl (by first | exact .inl (by omega) | exact .inr (.inl (by assumption)) | exact .inr (.inr (by assumption)))) | exact .inr (.inr (by rw [← shortL_succ hkl]; assumption)))⟩) (by omega)
                · refine ExD.take (i := 16) rfl (by kernel_rfl) (pureVal_ok rfl) ((List.Sublist.refl _)) rfl rfl rfl ?_
                  refine ExD.done (by kernel_rfl) ?_
                  refine Ex.cond_f rfl ?_
                  refine Ex.skip ?_
                  refine Ex.seq ?_
                  refine Ex.regSeq (ExL.pures 1 rfl ?_)
                  refine ExL.nil ?_
                  refine Ex.cond_f rfl ?_
                  refine Ex.region (ExL.pures 2 rfl ?_)
                  refine ExL.free (fr_loadN rfl rfl rfl rfl rfl (SegO.whole (i := 0) rfl)) rfl rfl rfl ?_
                  refine ExL.free (fr_indexAddrR (sz := 2) 1 rfl rfl rfl rfl rfl rfl (by omega)) rfl rfl rfl ?_
                  refine ExL.op rfl (op_storeRowF (i := 1) rfl rfl rfl rfl rfl rfl rfl rfl (room encA_len (k := (shortL l k).length - 1) (by omega) (by omega) rfl) (List.cons_ne_nil _ _) rfl (put_put hkl (fun h => by first | exact absurd h.2 (by assumption) | exact nP h.1 (by assumption) | exact nPk h.1 (by omega)) (by rintro (h | h | h) <;> first | omega | exact absurd h (by assumption)) (by first | assumption | exact isP_f (by omega)) (by omega)) ?_)
                  have hsame := sh_same hkl (fun h => by first | exact absurd h.2 (by assumption) | exact nP h.1 (by assumption) | exact nPk h.1 (by omega)) (by rintro (h | h | h) <;> first | omega | exact absurd h (by assumption))
                  refine ExL.nil ?_
                  refine Ex.regSeq (ExL.pures 2 rfl ?_)
                  refine ExL.free (fr_indexAddrR (sz := 2) 1 rfl rfl rfl rfl rfl rfl (by omega)) rfl rfl rfl ?_
                  refine ExL.free (fr_fieldAddrR 1 rfl (by omega) rfl rfl rfl rfl rfl rfl) rfl rfl rfl ?_
                  refine ExL.free (fr_load rfl rfl rfl rfl (cellJ (((shortL l k).length - 1)) (Reads.row (i := 1) rfl) encA_len zA 1 rfl (by omega) (by omega) rfl)) rfl rfl rfl ?_
                  refine ExL.gtr rfl rfl rfl rfl rfl rfl (fun h54 => ?_) (fun h54 => ?_)
                  · refine ExL.nil ?_
                    refine Ex.cond_t rfl ?_
                    refine Ex.regSeq (ExL.pures 0 rfl ?_)
                    refine ExL.op rfl (op_buildSlice (sz := 2) rfl rfl rfl rfl rfl rfl rfl rfl (by decide) rfl rfl rfl (fun r55 => ?_))
                    refine ExL.pures 2 rfl ?_
                    refine ExL.nil ?_
                    refine Ex.ret ?_
                    refine RetQ.mk ((some ⟨r55, 0, none⟩), 0) rfl (.tmp rfl (.tmp rfl .nil)) (t2 (by first | (rw [shk_bad (k := k) (by omega) (by assumption)]; first | done | rfl) | (rw [shk_long hbad (by assumption)]; first | done | rfl) | (rw [sh_bad (by assumption)]; first | done | rfl) | (rw [shk_big hkn haf (by assumption)]; first | done | rfl) | (rw [shk_ok hkn haf (by assumption)]; first | done | rfl) | (rw [shk_low hkn haf hI2]; first | done | rfl) | (rw [shk_over hkl haf (by rw [shortL_succ hkl]; exact over_chk (hva k hkl) (fun h => by first | exact absurd h.2 (by assumption) | exact nP h.1 (by assumption) | exact nPk h.1 (by omega)) (by rintro (h | h | h) <;> first | omega | exact absurd h (by assumption)) (by rw [← shortL_succ hkl]; assumption))]; first | done | rfl)) (by first | (rw [shk_bad (k := k) (by omega) (by assumption)]; first | done | rfl) | (rw [shk_long hbad (by assumption)]; first | done | rfl) | (rw [sh_bad (by assumption)]; first | done | rfl) | (rw [shk_big hkn haf (by assumption)]; first | done | rfl) | (rw [shk_ok hkn haf (by assumption)]; first | done | rfl) | (rw [shk_low hkn haf hI2]; first | done | rfl) | (rw [shk_over hkl haf (by rw [shortL_succ hkl]; exact over_chk (hva k hkl) (fun h => by first | exact absurd h.2 (by assumption) | exact nP h.1 (by assumption) | exact nPk h.1 (by omega)) (by rintro (h | h | h) <;> first | omega | exact absurd h (by assumption)) (by rw [← shortL_succ hkl]; assumption))]; first | done | rfl))) [0] (by first | (rw [shk_bad (k := k) (by omega) (by assumption)]; first | done | rfl) | (rw [shk_long hbad (by assumption)]; first | done | rfl) | (rw [sh_bad (by assumption)]; first | done | rfl) | (rw [shk_big hkn haf (by assumption)]; first | done | rfl) | (rw [shk_ok hkn haf (by assumption)]; first | done | rfl) | (rw [shk_low hkn haf hI2]; first | done | rfl) | (rw [shk_over hkl haf (by rw [shortL_succ hkl]; exact over_chk (hva k hkl) (fun h => by first | exact absurd h.2 (by assumption) | exact nP h.1 (by assumption) | exact nPk h.1 (by omega)) (by rintro (h | h | h) <;> first | omega | exact absurd h (by assumption)) (by rw [← shortL_succ hkl]; assumption))]; first | done | rfl)) rfl (trivial)
                  · refine ExL.nil ?_
                    refine Ex.cond_f rfl ?_
                    refine Ex.skip ?_
                    refine Ex.region (ExL.pures 1 rfl ?_)
                    refine ExL.free (by first | exact fr_add64 rfl rfl rfl (by omega) | exact fr_add rfl rfl rfl) rfl rfl rfl ?_
                    refine ExL.pures 1 rfl ?_
                    refine ExL.nil ?_
                    refine HandA.of (k + 1) (A) (c) 2 [1] ⟨(by first | (rw [hsame]; first | done | rfl) | (rw [shortL_succ hkl, st_skip (by first | assumption | exact isP_t (by omega)) (by assumption)]; first | done | rfl) | (rw [shortL_succ hkl, st_new (fun h => by first | exact absurd h.2 (by assumption) | exact nP h.1 (by assumption) | exact nPk h.1 (by omega)) (by first | exact .inl (by omega) | exact .inr (.inl (by assumption)) | exact .inr (.inr (by assumption))), List.length_append]; rfl)), rfl, trivial⟩ ⟨rfl, trivial⟩ (by first | (rw [hsame]; first | done | rfl) | (rw [shortL_succ hkl, st_skip (by first | assumption | exact isP_t (by omega)) (by assumption)]; first | done | rfl) | (rw [shortL_succ hkl, st_new (fun h => by first | exact absurd h.2 (by assumption) | exact nP h.1 (by assumption) | exact nPk h.1 (by omega)) (by first | exact .inl (by omega) | exact .inr (.inl (by assumption)) | exact .inr (.inr (by assumption))), List.length_append, List.flatMap_append]; rfl)) rfl (⟨by omega, by rw [shortL_succ hkl]; exact low_next hI2 (hva k hkl) (by first | exact .inl ⟨(by first | assumption | exact isP_t (by omega)), by assumption⟩ | exact .inr (.inl (by first | exact .inl (by omega) | exact .inr (.inl (by assumption)) | exact .inr (.inr (by assumption)))) | exact .inr (.inr (by rw [← shortL_succ hkl]; assumption)))⟩) (by omega)
      · refine ExL.nil ?_
        refine Ex.cond_f rfl ?_
        refine Ex.exit ?_
        have hkn : k = l.length := (by omega)
        refine Ex.regSeq (ExL.pures 3 rfl ?_)
        refine ExL.nil ?_
        refine Ex.ret ?_
        refine RetQ.mk (A, c) rfl (.tmp rfl (.tmp rfl .nil)) (t2 (by first | (rw [shk_bad (k := k) (by omega) (by assumption)]; first | done | rfl) | (rw [shk_long hbad (by assumption)]; first | done | rfl) | (rw [sh_bad (by assumption)]; first | done | rfl) | (rw [shk_big hkn haf (by assumption)]; first | done | rfl) | (rw [shk_ok hkn haf (by assumption)]; first | done | rfl) | (rw [shk_low hkn haf hI2]; first | done | rfl) | (rw [shk_over hkl haf (by rw [shortL_succ hkl]; exact over_chk (hva k hkl) (fun h => by first | exact absurd h.2 (by assumption) | exact nP h.1 (by assumption) | exact nPk h.1 (by omega)) (by rintro (h | h | h) <;> first | omega | exact absurd h (by assumption)) (by rw [← shortL_succ hkl]; assumption))]; first | done | rfl)) (by first | (rw [shk_bad (k := k) (by omega) (by assumption)]; first | done | rfl) | (rw [shk_long hbad (by assumption)]; first | done | rfl) | (rw [sh_bad (by assumption)]; first | done | rfl) | (rw [shk_big hkn haf (by assumption)]; first | done | rfl) | (rw [shk_ok hkn haf (by assumption)]; first | done | rfl) | (rw [shk_low hkn haf hI2]; first | done | rfl) | (rw [shk_over hkl haf (by rw [shortL_succ hkl]; exact over_chk (hva k hkl) (fun h => by first | exact absurd h.2 (by assumption) | exact nP h.1 (by assumption) | exact nPk h.1 (by omega)) (by rintro (h | h | h) <;> first | omega | exact absurd h (by assumption)) (by rw [← shortL_succ hkl]; assumption))]; first | done | rfl))) [0] (by first | (rw [shk_bad (k := k) (by omega) (by assumption)]; first | done | rfl) | (rw [shk_long hbad (by assumption)]; first | done | rfl) | (rw [sh_bad (by assumption)]; first | done | rfl) | (rw [shk_big hkn haf (by assumption)]; first | done | rfl) | (rw [shk_ok hkn haf (by assumption)]; first | done | rfl) | (rw [shk_low hkn haf hI2]; first | done | rfl) | (rw [shk_over hkl haf (by rw [shortL_succ hkl]; exact over_chk (hva k hkl) (fun h => by first | exact absurd h.2 (by assumption) | exact nP h.1 (by assumption) | exact nPk h.1 (by omega)) (by rintro (h | h | h) <;> first | omega | exact absurd h (by assumption)) (by rw [← shortL_succ hkl]; assumption))]; first | done | rfl)) rfl (trivial)
end Go.Proofs.YthabjnhfhmbamaaGreatDoor

/- What these functions of the program hand back, each proved by walking its operations. -/
set_option linter.unusedVariables false
set_option linter.unusedSimpArgs false
set_option maxRecDepth 4000
namespace Go.Proofs.YthabjnhfhmbamaaGreatDoor
open Go Go.Sx Go.RowKit Go.W Go.Proofs
attribute [local irreducible] Ex ExL ExD Op1 Free RetQ MutQ Reads CellO SegO LoadsAs
theorem e_63 : Enters Tryz.prog 63 := Enters.of Tryz.func63 rfl
theorem c_l07Asked (d : VDev) (hk : OkDev d) (Ad : Option Addr) (cd : Nat) (b : Nat) (l : List VAct) (Al : Option Addr) (cl : Nat) (hll : l.length ≤ maxLen) : Ret Tryz.prog 63 [.pointer (some ⟨b, 0, none⟩), .slice Al l.length cl] (fun w => Rd w (some ⟨b, 0, none⟩) (encV Ad cd d) ∧ Rd w Ad (d.stack.flatMap (eI .u8)) ∧ Rd w Al (l.flatMap encA)) (fun x : Unit => .int .i64 (askV d l)) (fun x => []) (fun x => True) := by
  refine Ret.of e_63 Tryz.func63 rfl Tryz.ntmps63 rfl rfl (fun w hpre => ?_)
  have hp := hpre.1.base
  have hd := hpre.2.1.base
  have hl := hpre.2.2.base
  have hm0 : maxLen = 9223372036854775807 := rfl
  refine Ex.regSeq (ExL.pures 1 rfl ?_)
  refine ExL.nil ?_
  refine Ex.regSeq (ExL.pures 1 rfl ?_)
  refine ExL.op rfl (op_ret rfl rfl rfl (c_l07Ok d (by assumption) _ _ _) (fun w hw => ⟨Reads.get (Reads.old hp) w hw, Reads.get (Reads.old hd) w hw⟩) rfl rfl (fun x1 hx1 => ?_))
  refine ExL.pures 1 rfl ?_
  refine ExL.nil ?_
  refine Ex.seq ?_
  refine Ex.regSeq (ExL.pures 1 rfl ?_)
  refine ExL.nil ?_
  refine Ex.block ?_
  refine Ex.loopK (X := Nat) (fun k => [(5, .bool (okB d l k)), (6, .int .i64 k)]) (fun k => []) (fun k => k ≤ l.length ∧ ∀ i, i < k → okB d l i = true) (fun k => l.length - k) 0 [(1, _), (4, _)] [] 0 [] ⟨rfl, rfl, trivial⟩ ⟨rfl, rfl, trivial⟩ (rfl) rfl ⟨Nat.zero_le _, fun i hi => by omega⟩ (fun k hI => ?_)
  have hI : k ≤ l.length ∧ ∀ i, i < k → okB d l i = true := hI
  obtain ⟨hkl, hall⟩ := hI
  refine Ex.seq ?_
  refine Ex.regSeq (ExL.pures 3 rfl ?_)
  refine ExL.lss rfl rfl rfl rfl rfl rfl (fun h2 => ?_) (fun h2 => ?_)
  · refine ExL.pures 3 rfl ?_
    refine ExL.nil ?_
    refine Ex.cond rfl (fun hb3 => ?_) (fun hb3 => ?_)
    · refine Ex.skip ?_
      refine Ex.seq ?_
      refine Ex.block ?_
      refine Ex.region (ExL.pures 2 rfl ?_)
      refine ExL.free (fr_indexAddrF (Reads.old hl) encA_len rfl rfl rfl rfl rfl rfl (by omega)) rfl rfl rfl ?_
      refine ExL.free (fr_loadN rfl rfl rfl rfl rfl (by first | exact segN (Reads.old hl) encA_len rfl zA (by omega) | exact segF (Reads.old hl) encA_len rfl zA (by omega))) rfl rfl rfl ?_
      refine ExL.op rfl (op_ret rfl rfl rfl (c_l07Act _) (fun _ _ => trivial) rfl rfl (fun x4 hx4 => ?_))
      refine ExL.pures 1 rfl ?_
      refine ExL.nil ?_
      refine Ex.region (ExL.pures 1 rfl ?_)
      refine ExL.free (by first | exact fr_add64 rfl rfl rfl (by omega) | exact fr_add rfl rfl rfl) rfl rfl rfl ?_
      refine ExL.pures 1 rfl ?_
      refine ExL.nil ?_
      refine Hand.mk (k + 1) 0 [] ⟨rfl, rfl, trivial⟩ ⟨rfl, rfl, trivial⟩ (rfl) rfl (⟨by omega, all_snoc hall (by assumption)⟩) (by omega)
    · refine Ex.exit ?_
      refine Ex.seq ?_
      refine Ex.regSeq (ExL.pures 2 rfl ?_)
      refine ExL.nil ?_
      refine Ex.cond rfl (fun hb5 => ?_) (fun hb5 => ?_)
      · replace hb5 := nb_t hb5
        refine Ex.regSeq (ExL.pures 1 rfl ?_)
        refine ExL.nil ?_
        refine Ex.ret ?_
        refine RetQ.mk () rfl (.tmp rfl .nil) (tI (by first | exact ask_f (k := k) (by omega) hall (by assumption) | exact ask_3 (k := k) (by omega) (by omega) hall (by assumption) (by omega) | exact ask_0 (k := k) (by omega) (by omega) hall (by assumption) (by omega) | (exfalso; simp_all; done))) [] (rfl) rfl (trivial)
      · replace hb5 := nb_f hb5
        refine Ex.skip ?_
        refine Ex.seq ?_
        refine Ex.regSeq (ExL.pures 2 rfl ?_)
        refine ExL.gtr rfl rfl rfl rfl rfl rfl (fun h6 => ?_) (fun h6 => ?_)
        · refine ExL.nil ?_
          refine Ex.cond_t rfl ?_
          refine Ex.regSeq (ExL.pures 1 rfl ?_)
          refine ExL.nil ?_
          refine Ex.ret ?_
          refine RetQ.mk () rfl (.tmp rfl .nil) (tI (by first | exact ask_f (k := k) (by omega) hall (by assumption) | exact ask_3 (k := k) (by omega) (by omega) hall (by assumption) (by omega) | exact ask_0 (k := k) (by omega) (by omega) hall (by assumption) (by omega) | (exfalso; simp_all; done))) [] (rfl) rfl (trivial)
        · refine ExL.nil ?_
          refine Ex.cond_f rfl ?_
          refine Ex.skip ?_
          refine Ex.regSeq (ExL.pures 1 rfl ?_)
          refine ExL.nil ?_
          refine Ex.ret ?_
          refine RetQ.mk () rfl (.tmp rfl .nil) (tI (by first | exact ask_f (k := k) (by omega) hall (by assumption) | exact ask_3 (k := k) (by omega) (by omega) hall (by assumption) (by omega) | exact ask_0 (k := k) (by omega) (by omega) hall (by assumption) (by omega) | (exfalso; simp_all; done))) [] (rfl) rfl (trivial)
  · refine ExL.pures 3 rfl ?_
    refine ExL.nil ?_
    refine Ex.cond_f rfl ?_
    refine Ex.exit ?_
    refine Ex.seq ?_
    refine Ex.regSeq (ExL.pures 2 rfl ?_)
    refine ExL.nil ?_
    refine Ex.cond rfl (fun hb7 => ?_) (fun hb7 => ?_)
    · replace hb7 := nb_t hb7
      refine Ex.regSeq (ExL.pures 1 rfl ?_)
      refine ExL.nil ?_
      refine Ex.ret ?_
      refine RetQ.mk () rfl (.tmp rfl .nil) (tI (by first | exact ask_f (k := k) (by omega) hall (by assumption) | exact ask_3 (k := k) (by omega) (by omega) hall (by assumption) (by omega) | exact ask_0 (k := k) (by omega) (by omega) hall (by assumption) (by omega) | (exfalso; simp_all; done))) [] (rfl) rfl (trivial)
    · replace hb7 := nb_f hb7
      refine Ex.skip ?_
      refine Ex.seq ?_
      refine Ex.regSeq (ExL.pures 2 rfl ?_)
      refine ExL.gtr rfl rfl rfl rfl rfl rfl (fun h8 => ?_) (fun h8 => ?_)
      · refine ExL.nil ?_
        refine Ex.cond_t rfl ?_
        refine Ex.regSeq (ExL.pures 1 rfl ?_)
        refine ExL.nil ?_
        refine Ex.ret ?_
        refine RetQ.mk () rfl (.tmp rfl .nil) (tI (by first | exact ask_f (k := k) (by omega) hall (by assumption) | exact ask_3 (k := k) (by omega) (by omega) hall (by assumption) (by omega) | exact ask_0 (k := k) (by omega) (by omega) hall (by assumption) (by omega) | (exfalso; simp_all; done))) [] (rfl) rfl (trivial)
      · refine ExL.nil ?_
        refine Ex.cond_f rfl ?_
        refine Ex.skip ?_
        refine Ex.regSeq (ExL.pures 1 rfl ?_)
        refine ExL.nil ?_
        refine Ex.ret ?_
        refine RetQ.mk () rfl (.tmp rfl .nil) (tI (by first | exact ask_f (k := k) (by omega) hall (by assumption) | exact ask_3 (k := k) (by omega) (by omega) hall (by assumption) (by omega) | exact ask_0 (k := k) (by omega) (by omega) hall (by assumption) (by omega) | (exfalso; simp_all; done))) [] (rfl) rfl (trivial)
theorem e_88 : Enters Tryz.prog 88 := Enters.of Tryz.func88 rfl
theorem c_ticket (d : VDev) (hk : OkDev d) (hv : validDev d = true) (Ad : Option Addr) (cd : Nat) (b : Nat) : Ret Tryz.prog 88 [.pointer (some ⟨b, 0, none⟩)] (fun w => Rd w (some ⟨b, 0, none⟩) (encV Ad cd d)) (fun x : Unit => .agg (encT (ticV d)).toArray) (fun x => []) (fun x => True) := by
  refine Ret.of e_88 Tryz.func88 rfl Tryz.ntmps88 rfl rfl (fun w hpre => ?_)
  have hp := hpre.base
  obtain ⟨hl, hu, ha, hpp, htt⟩ := hk
  have hO := devOk ha hv
  have hvs : validStack d.stack = true := by unfold validDev at hv; rw [decide_eq_true_iff] at hv; exact hv.1
  have hvd := hO.vd
  have hm0 : maxLen = 9223372036854775807 := rfl
  have hz := sizeS hO
  have hle := hO.stk.le
  have hps := hO.stk.pos
  have hlt : 0 ≤ val d.stack d.shows.l ∧ val d.stack d.shows.l < prod d.stack := hO.v_lt
  have hpr := hO.preset
  have htk := hO.tick
  have htk := hO.tick
  refine Ex.regSeq (ExL.pures 0 rfl ?_)
  refine ExL.op rfl (op_alloc rfl rfl rfl rfl rfl (fun b1 => ?_))
  refine ExL.nil ?_
  refine Ex.drawSeqM rfl ?_
  refine ExD.take (i := 0) rfl (by kernel_rfl) (pureVal_ok rfl) ((List.Sublist.refl _)) rfl rfl rfl ?_
  refine ExD.take (i := 1) rfl (by kernel_rfl) (pureVal_ok rfl) ((List.Sublist.refl _)) rfl rfl rfl ?_
  refine ExD.take (i := 2) rfl (by kernel_rfl) (pureVal_ok rfl) ((List.Sublist.refl _)) rfl rfl rfl ?_
  refine ExD.take (i := 3) rfl (by kernel_rfl) (fr_load rfl rfl rfl rfl (CellO.at 11 (Reads.old hp) rfl)) ((List.Sublist.refl _)) rfl rfl rfl ?_
  refine ExD.take (i := 4) rfl (by kernel_rfl) (pureVal_ok rfl) ((List.Sublist.refl _)) rfl rfl rfl ?_
  refine ExD.take (i := 5) rfl (by kernel_rfl) (pureVal_ok rfl) ((List.Sublist.refl _)) rfl rfl rfl ?_
  refine ExD.take (i := 6) rfl (by kernel_rfl) (pureVal_ok rfl) ((List.Sublist.refl _)) rfl rfl rfl ?_
  refine ExD.take (i := 7) rfl (by kernel_rfl) (fr_loadN rfl rfl rfl rfl rfl (SegO.at 1 8 (Reads.old hp) rfl)) ((List.Sublist.refl _)) rfl rfl rfl ?_
  refine ExD.take (i := 8) rfl (by kernel_rfl) (pureVal_ok rfl) ((List.Sublist.refl _)) rfl rfl rfl ?_
  refine ExD.take (i := 9) rfl (by kernel_rfl) (pureVal_ok rfl) ((List.Sublist.refl _)) rfl rfl rfl ?_
  refine ExD.take (i := 10) rfl (by kernel_rfl) (pureVal_ok rfl) ((List.Sublist.refl _)) rfl rfl rfl ?_
  refine ExD.take (i := 11) rfl (by kernel_rfl) (fr_load rfl rfl rfl rfl (CellO.at 11 (Reads.old hp) rfl)) ((List.Sublist.refl _)) rfl rfl rfl ?_
  refine ExD.take (i := 12) rfl (by kernel_rfl) (pureVal_ok rfl) ((List.Sublist.refl _)) rfl rfl rfl ?_
  refine ExD.take (i := 13) rfl (by kernel_rfl) (pureVal_ok rfl) ((List.Sublist.refl _)) rfl rfl rfl ?_
  refine ExD.take (i := 14) rfl (by kernel_rfl) (pureVal_ok rfl) ((List.Sublist.refl _)) rfl rfl rfl ?_
  refine ExD.take (i := 15) rfl (by kernel_rfl) (fr_loadN rfl rfl rfl rfl rfl (SegO.at 1 8 (Reads.old hp) rfl)) ((List.Sublist.refl _)) rfl rfl rfl ?_
  refine ExD.op (i := 16) rfl (by kernel_rfl) rfl (op_ret rfl rfl rfl (c_check _ (by omega) d.shows (by assumption)) (fun _ _ => trivial) rfl rfl (fun x2 hx2 => ⟨(List.Sublist.refl _), ?_⟩))
  refine ExD.take (i := 17) rfl (by kernel_rfl) (fr_build (cells := encT (ticV d)) rfl rfl rfl (by kernel_rfl)) ((List.Sublist.refl _)) rfl rfl rfl ?_
  refine ExD.last (i := 18) rfl (by kernel_rfl) (by kernel_rfl) rfl (op_storeC (i := 0) rfl rfl rfl rfl rfl rfl rfl rfl rfl rfl ?_)
  refine ExD.done (by kernel_rfl) ?_
  refine Ex.ret ?_
  refine RetQ.mk () rfl (.cell rfl (.many rfl rfl rfl (SegO.whole (i := 0) rfl)) .nil) (rfl) [] (rfl) rfl (trivial)
end Go.Proofs.YthabjnhfhmbamaaGreatDoor

/- What these functions of the program hand back, each proved by walking its operations. -/
set_option linter.unusedVariables false
set_option linter.unusedSimpArgs false
set_option maxRecDepth 4000
namespace Go.Proofs.YthabjnhfhmbamaaGreatDoor
open Go Go.Sx Go.RowKit Go.W Go.Proofs
attribute [local irreducible] Ex ExL ExD Op1 Free RetQ MutQ Reads CellO SegO LoadsAs
theorem e_31 : Enters Tryz.prog 31 := Enters.of Tryz.func31 rfl
theorem c_l07Run (d : VDev) (hk : OkDev d) (Ad : Option Addr) (cd : Nat) (b : Nat) (hAd : Ad = none → cd = 0) (hdl : d.stack.length ≤ 1048576) (l : List VAct) (Al : Option Addr) (cl : Nat) (hll : l.length ≤ maxLen) : Ret Tryz.prog 31 [.pointer (some ⟨b, 0, none⟩), .slice Al l.length cl] (fun w => Rd w (some ⟨b, 0, none⟩) (encV Ad cd d) ∧ Rd w Ad (d.stack.flatMap (eI .u8)) ∧ Rd w Al (l.flatMap encA)) (fun x : (Option Addr × Nat) × (Option Addr × Nat) × (Option Addr × Nat) => .tuple #[.agg (encV x.1.1 x.1.2 (runV d l).1).toArray, .slice x.2.1.1 (runV d l).2.1.length x.2.1.2, .slice x.2.2.1 (runV d l).2.2.1.length x.2.2.2, .int .i64 (runV d l).2.2.2.2]) (fun x => [.row (.slice x.1.1 (runV d l).1.stack.length x.1.2) 5 1 (runV d l).1.stack.length ((runV d l).1.stack.flatMap (eI .u8)), .row (.slice x.2.1.1 (runV d l).2.1.length x.2.1.2) 69 11 (runV d l).2.1.length ((runV d l).2.1.flatMap encN), .row (.slice x.2.2.1 (runV d l).2.2.1.length x.2.2.2) 107 10 (runV d l).2.2.1.length ((runV d l).2.2.1.flatMap encT)]) (fun x => True) := by
  refine Ret.of e_31 Tryz.func31 rfl Tryz.ntmps31 rfl rfl (fun w hpre => ?_)
  have hp := hpre.1.base
  have hd := hpre.2.1.base
  have hl := hpre.2.2.base
  have hm0 : maxLen = 9223372036854775807 := rfl
  refine Ex.regSeq (ExL.pures 0 rfl ?_)
  refine ExL.op rfl (op_alloc rfl rfl rfl rfl rfl (fun b1 => ?_))
  refine ExL.pures 3 rfl ?_
  refine ExL.nil ?_
  refine Ex.regSeq (ExL.pures 1 rfl ?_)
  refine ExL.op rfl (op_ret rfl rfl rfl (c_l07Copy d _ _ _ (by first | assumption | exact (fun e => nomatch e) | (intro e; simp_all)) (by omega)) (fun w hw => ⟨Reads.get (Reads.old hp) w hw, Reads.get (Reads.old hd) w hw⟩) rfl rfl (fun x2 hx2 => ?_))
  refine ExL.op rfl (op_alloc rfl rfl rfl rfl rfl (fun b3 => ?_))
  refine ExL.op rfl (op_storeC (i := 0) rfl rfl rfl rfl rfl rfl rfl rfl rfl rfl ?_)
  refine ExL.nil ?_
  refine Ex.regSeq (ExL.pures 0 rfl ?_)
  refine ExL.op rfl (op_buildSlice (sz := 11) rfl rfl rfl rfl rfl rfl rfl rfl (by decide) rfl rfl rfl (fun r4 => ?_))
  refine ExL.pures 1 rfl ?_
  refine ExL.nil ?_
  refine Ex.regSeq (ExL.pures 0 rfl ?_)
  refine ExL.op rfl (op_buildSlice (sz := 10) rfl rfl rfl rfl rfl rfl rfl rfl (by decide) rfl rfl rfl (fun r5 => ?_))
  refine ExL.pures 1 rfl ?_
  refine ExL.nil ?_
  refine Ex.regSeq (ExL.pures 1 rfl ?_)
  refine ExL.nil ?_
  refine Ex.regSeq (ExL.pures 2 rfl ?_)
  refine ExL.op rfl (op_ret rfl rfl rfl (c_l07Asked d (by assumption) _ _ _ l _ _ (by omega)) (fun w hw => ⟨Reads.get (Reads.old hp) w hw, Reads.get (Reads.old hd) w hw, Reads.get (Reads.old hl) w hw⟩) rfl rfl (fun x6 hx6 => ?_))
  refine ExL.pures 1 rfl ?_
  refine ExL.nil ?_
  refine Ex.seq ?_
  refine Ex.regSeq (ExL.pures 1 rfl ?_)
  refine ExL.nil ?_
  refine Ex.block ?_
  refine Ex.loopB (fun k A c A2 c2 => [(9, .slice A (notesL d l k).length c), (10, .slice A2 (ticsL d l k).length c2), (11, .int .i64 (lostD d l k)), (12, .int .i64 (cdV d l k)), (13, .int .i64 k)]) (fun k A c A2 c2 => [.blk b3 (encV x2.1 x2.2 (runD d l k)) 28, .row (.slice x2.1 (runD d l k).stack.length x2.2) 5 1 (runD d l k).stack.length ((runD d l k).stack.flatMap (eI .u8)), .row (.slice A (notesL d l k).length c) 69 11 (notesL d l k).length ((notesL d l k).flatMap encN), .row (.slice A2 (ticsL d l k).length c2) 107 10 (ticsL d l k).length ((ticsL d l k).flatMap encT)]) (fun k => k ≤ l.length) (fun k => l.length - k) 0 ((some ⟨r4, 0, none⟩)) (0) ((some ⟨r5, 0, none⟩)) (0) [(1, _), (4, _), (5, _), (6, _), (7, _), (8, _)] [_] 5 [2, 3, 1, 0, 4] ⟨rfl, rfl, rfl, agI (by rw [cd_0]), rfl, trivial⟩ ⟨rfl, rfl, rfl, rfl, rfl, rfl, trivial⟩ (rfl) rfl (Nat.zero_le _) (fun k A c A2 c2 hI => ?_)
  have hI : k ≤ l.length := hI
  refine Ex.seq ?_
  refine Ex.regSeq (ExL.pures 3 rfl ?_)
  refine ExL.lss rfl rfl rfl rfl rfl rfl (fun h7 => ?_) (fun h7 => ?_)
  · refine ExL.pures 2 rfl ?_
    refine ExL.eql rfl rfl rfl rfl rfl rfl (fun h8 => ?_) (fun h8 => ?_)
    · refine ExL.pures 1 rfl ?_
      refine ExL.nil ?_
      refine Ex.cond_t rfl ?_
      refine Ex.skip ?_
      refine Ex.seq ?_
      refine Ex.block ?_
      have hkl : k < l.length := (by omega)
      obtain ⟨hask, hrc⟩ := cd_zero (d := d) (l := l) (k := k) (by assumption)
      obtain ⟨hdv, hva, h60⟩ := ask_zero hask
      have hak := hva k hkl
      obtain ⟨hrk, hrv⟩ := run_ok hk hdv hva k (by omega)
      have hlo := lost_bd hk hdv hva k (by omega)
      have hdl := do_lost hrk hrv hak
      have hrs := runD_stack d l k
      have htl := ticsL_len d l k
      have hnl := notesL_len d l k
      obtain ⟨ho1, ho2⟩ := do_ok hrk hrv hak
      have htk := (devOk ho1.2.2.1 ho2).tick
      have hnu := ho1.2.2.1
      refine Ex.regSeq (ExL.pures 2 rfl ?_)
      refine ExL.free (fr_indexAddrF (Reads.old hl) encA_len rfl rfl rfl rfl rfl rfl (by omega)) rfl rfl rfl ?_
      refine ExL.free (fr_loadN rfl rfl rfl rfl rfl (by first | exact segN (Reads.old hl) encA_len rfl zA (by omega) | exact segF (Reads.old hl) encA_len rfl zA (by omega))) rfl rfl rfl ?_
      refine ExL.op rfl (op_mut rfl rfl rfl (c_l07Do (runD d l k) (by assumption) (by assumption) _ _ _ (l.getD k zA) (by first | assumption | simp_all)) (perm_lt (i := 0) (j := 1) rfl rfl rfl) (trivial) rfl rfl (fun x9 hx9 => ?_))
      refine ExL.pures 5 rfl ?_
      refine ExL.nil ?_
      refine Ex.regSeq (ExL.pures 2 rfl ?_)
      refine ExL.nil ?_
      refine Ex.regSeq (ExL.pures 2 rfl ?_)
      refine ExL.free (by first | exact fr_add64 rfl rfl rfl (by omega) | exact fr_add rfl rfl rfl) rfl rfl rfl ?_
      refine ExL.pures 1 rfl ?_
      refine ExL.nil ?_
      refine Ex.drawSeqI [0, 1, 3, 4] rfl rfl ?_
      refine ExD.take (i := 0) rfl (by kernel_rfl) (pureVal_ok rfl) ((List.Sublist.cons_cons _ (List.Sublist.cons_cons _ (List.Sublist.cons _ (List.Sublist.refl _))))) rfl rfl rfl ?_
      refine ExD.take (i := 1) rfl (by kernel_rfl) (pureVal_ok rfl) ((List.Sublist.cons_cons _ (List.Sublist.cons_cons _ (List.Sublist.cons _ (List.Sublist.refl _))))) rfl rfl rfl ?_
      refine ExD.take (i := 2) rfl (by kernel_rfl) (pureVal_ok rfl) ((List.Sublist.cons_cons _ (List.Sublist.cons_cons _ (List.Sublist.cons _ (List.Sublist.refl _))))) rfl rfl rfl ?_
      refine ExD.take (i := 3) rfl (by kernel_rfl) (fr_indexAddrF (Reads.old hl) encA_len rfl rfl rfl rfl rfl rfl (by omega)) ((List.Sublist.cons_cons _ (List.Sublist.cons_cons _ (List.Sublist.cons _ (List.Sublist.refl _))))) rfl rfl rfl ?_
      refine ExD.take (i := 4) rfl (by kernel_rfl) (fr_loadN rfl rfl rfl rfl rfl (by first | exact segN (Reads.old hl) encA_len rfl zA (by omega) | exact segF (Reads.old hl) encA_len rfl zA (by omega))) ((List.Sublist.cons_cons _ (List.Sublist.cons_cons _ (List.Sublist.cons _ (List.Sublist.refl _))))) rfl rfl rfl ?_
      refine ExD.take (i := 5) rfl (by kernel_rfl) (pureVal_ok rfl) ((List.Sublist.cons_cons _ (List.Sublist.cons_cons _ (List.Sublist.cons _ (List.Sublist.refl _))))) rfl rfl rfl ?_
      refine ExD.take (i := 6) rfl (by kernel_rfl) (fr_loadN rfl rfl rfl rfl rfl (SegO.part (i := 0) 8 rfl)) ((List.Sublist.cons_cons _ (List.Sublist.cons_cons _ (List.Sublist.cons _ (List.Sublist.refl _))))) rfl rfl rfl ?_
      refine ExD.take (i := 7) rfl (by kernel_rfl) (pureVal_ok rfl) ((List.Sublist.cons_cons _ (List.Sublist.cons_cons _ (List.Sublist.cons _ (List.Sublist.refl _))))) rfl rfl rfl ?_
      refine ExD.take (i := 8) rfl (by kernel_rfl) (fr_build (cells := encN ⟨l.getD k zA, (doV (runD d l k) (l.getD k zA)).1.shows, (doV (runD d l k) (l.getD k zA)).2.1⟩) rfl rfl rfl (by kernel_rfl)) ((List.Sublist.cons_cons _ (List.Sublist.cons_cons _ (List.Sublist.cons _ (List.Sublist.refl _))))) rfl rfl rfl ?_
      refine ExD.op (i := 9) rfl (by kernel_rfl) rfl (op_buildSlice (sz := 11) rfl rfl rfl rfl rfl rfl rfl rfl (by decide) rfl rfl rfl (fun r10 => ⟨(List.Sublist.cons _ (List.Sublist.cons_cons _ (List.Sublist.cons_cons _ (List.Sublist.cons _ (List.Sublist.refl _))))), ?_⟩))
      refine ExD.op (i := 10) rfl (by kernel_rfl) rfl (op_append (sz := 11) (bytes := 32) (i := 3) rfl rfl rfl rfl (Reads.row (i := 0) rfl) rfl (fun e => nomatch e) rfl rfl rfl rfl (by constructor <;> first | omega | (unfold maxLen; omega)) rfl rfl (fun A11 cA11 => ⟨(List.Sublist.cons _ (List.Sublist.cons_cons _ (List.Sublist.cons_cons _ (List.Sublist.cons _ (List.Sublist.refl _))))), ?_⟩))
      refine ExD.take (i := 11) rfl (by kernel_rfl) (pureVal_ok rfl) ((List.Sublist.cons _ (List.Sublist.cons_cons _ (List.Sublist.cons_cons _ (List.Sublist.cons _ (List.Sublist.refl _)))))) rfl rfl rfl ?_
      refine ExD.done (by kernel_rfl) ?_
      refine Ex.regSeq (ExL.pures 2 rfl ?_)
      refine ExL.free (fr_indexAddrF (Reads.old hl) encA_len rfl rfl rfl rfl rfl rfl (by omega)) rfl rfl rfl ?_
      refine ExL.free (fr_fieldAddrF (i := (↑k : Int).toNat) (Reads.old hl) encA_len rfl rfl rfl (by omega) rfl rfl rfl rfl) rfl rfl rfl ?_
      refine ExL.free (fr_load rfl rfl rfl rfl (by first | exact cellN (Reads.old hl) encA_len zA 0 rfl (by omega) rfl | exact cellF (Reads.old hl) encA_len zA 0 rfl (by omega) rfl)) rfl rfl rfl ?_
      refine ExL.eql rfl rfl rfl rfl rfl rfl (fun h13 => ?_) (fun h13 => ?_)
      · refine ExL.nil ?_
        refine Ex.cond_t rfl ?_
        refine Ex.drawI [0, 1, 2, 3, 5] rfl rfl ?_
        refine ExD.take (i := 0) rfl (by kernel_rfl) (pureVal_ok rfl) ((List.Sublist.cons_cons _ (List.Sublist.cons_cons _ (List.Sublist.cons_cons _ (List.Sublist.cons_cons _ (List.Sublist.cons _ (List.Sublist.refl _))))))) rfl rfl rfl ?_
        refine ExD.take (i := 1) rfl (by kernel_rfl) (pureVal_ok rfl) ((List.Sublist.cons_cons _ (List.Sublist.cons_cons _ (List.Sublist.cons_cons _ (List.Sublist.cons_cons _ (List.Sublist.cons _ (List.Sublist.refl _))))))) rfl rfl rfl ?_
        refine ExD.take (i := 2) rfl (by kernel_rfl) (fr_load rfl rfl rfl rfl (CellO.blk (i := 1) rfl rfl)) ((List.Sublist.cons_cons _ (List.Sublist.cons_cons _ (List.Sublist.cons_cons _ (List.Sublist.cons_cons _ (List.Sublist.cons _ (List.Sublist.refl _))))))) rfl rfl rfl ?_
        refine ExD.take (i := 3) rfl (by kernel_rfl) (pureVal_ok rfl) ((List.Sublist.cons_cons _ (List.Sublist.cons_cons _ (List.Sublist.cons_cons _ (List.Sublist.cons_cons _ (List.Sublist.cons _ (List.Sublist.refl _))))))) rfl rfl rfl ?_
        refine ExD.take (i := 4) rfl (by kernel_rfl) (fr_loadN rfl rfl rfl rfl rfl (SegO.part (i := 1) 8 rfl)) ((List.Sublist.cons_cons _ (List.Sublist.cons_cons _ (List.Sublist.cons_cons _ (List.Sublist.cons_cons _ (List.Sublist.cons _ (List.Sublist.refl _))))))) rfl rfl rfl ?_
        refine ExD.take (i := 5) rfl (by kernel_rfl) (pureVal_ok rfl) ((List.Sublist.cons_cons _ (List.Sublist.cons_cons _ (List.Sublist.cons_cons _ (List.Sublist.cons_cons _ (List.Sublist.cons _ (List.Sublist.refl _))))))) rfl rfl rfl ?_
        refine ExD.take (i := 6) rfl (by kernel_rfl) (fr_load rfl rfl rfl rfl (CellO.blk (i := 1) rfl rfl)) ((List.Sublist.cons_cons _ (List.Sublist.cons_cons _ (List.Sublist.cons_cons _ (List.Sublist.cons_cons _ (List.Sublist.cons _ (List.Sublist.refl _))))))) rfl rfl rfl ?_
        refine ExD.take (i := 7) rfl (by kernel_rfl) (pureVal_ok rfl) ((List.Sublist.cons_cons _ (List.Sublist.cons_cons _ (List.Sublist.cons_cons _ (List.Sublist.cons_cons _ (List.Sublist.cons _ (List.Sublist.refl _))))))) rfl rfl rfl ?_
        refine ExD.take (i := 8) rfl (by kernel_rfl) (fr_loadN rfl rfl rfl rfl rfl (SegO.part (i := 1) 8 rfl)) ((List.Sublist.cons_cons _ (List.Sublist.cons_cons _ (List.Sublist.cons_cons _ (List.Sublist.cons_cons _ (List.Sublist.cons _ (List.Sublist.refl _))))))) rfl rfl rfl ?_
        refine ExD.op (i := 9) rfl (by kernel_rfl) rfl (op_ret rfl rfl rfl (c_l07Check _ (by omega) ((doV (runD d l k) (l.getD k zA)).1).shows (by assumption)) (fun _ _ => trivial) rfl rfl (fun x14 hx14 => ⟨(List.Sublist.cons_cons _ (List.Sublist.cons_cons _ (List.Sublist.cons_cons _ (List.Sublist.cons_cons _ (List.Sublist.cons _ (List.Sublist.refl _)))))), ?_⟩))
        refine ExD.take (i := 10) rfl (by kernel_rfl) (fr_build (cells := encT (ticV (doV (runD d l k) (l.getD k zA)).1)) rfl rfl rfl (by kernel_rfl)) ((List.Sublist.cons_cons _ (List.Sublist.cons_cons _ (List.Sublist.cons_cons _ (List.Sublist.cons_cons _ (List.Sublist.cons _ (List.Sublist.refl _))))))) rfl rfl rfl ?_
        refine ExD.op (i := 11) rfl (by kernel_rfl) rfl (op_buildSlice (sz := 10) rfl rfl rfl rfl rfl rfl rfl rfl (by decide) rfl rfl rfl (fun r15 => ⟨(List.Sublist.cons _ (List.Sublist.cons_cons _ (List.Sublist.cons_cons _ (List.Sublist.cons_cons _ (List.Sublist.cons_cons _ (List.Sublist.cons _ (List.Sublist.refl _))))))), ?_⟩))
        refine ExD.op (i := 12) rfl (by kernel_rfl) rfl (op_append (sz := 10) (bytes := 24) (i := 5) rfl rfl rfl rfl (Reads.row (i := 0) rfl) rfl (fun e => nomatch e) rfl rfl rfl rfl (by constructor <;> first | omega | (unfold maxLen; omega)) rfl rfl (fun A16 cA16 => ⟨(List.Sublist.cons _ (List.Sublist.cons_cons _ (List.Sublist.cons_cons _ (List.Sublist.cons_cons _ (List.Sublist.cons_cons _ (List.Sublist.cons _ (List.Sublist.refl _))))))), ?_⟩))
        refine ExD.take (i := 13) rfl (by kernel_rfl) (pureVal_ok rfl) ((List.Sublist.cons _ (List.Sublist.cons_cons _ (List.Sublist.cons_cons _ (List.Sublist.cons_cons _ (List.Sublist.cons_cons _ (List.Sublist.cons _ (List.Sublist.refl _)))))))) rfl rfl rfl ?_
        refine ExD.done (by kernel_rfl) ?_
        refine Ex.region (ExL.pures 1 rfl ?_)
        refine ExL.free (by first | exact fr_add64 rfl rfl rfl (by omega) | exact fr_add rfl rfl rfl) rfl rfl rfl ?_
        refine ExL.pures 1 rfl ?_
        refine ExL.nil ?_
        refine HandB.of (k + 1) (A11) (cA11) (A16) (cA16) 7 [2, 3, 4, 5, 6] ⟨(by rw [notesL, List.length_append]; rfl), (by first | (rw [tl_5 (by assumption), List.length_append]; rfl) | (rw [tl_n (by assumption)]; first | done | rfl)), rfl, agI (by rw [cd_go (by assumption)]), rfl, trivial⟩ ⟨rfl, rfl, rfl, rfl, rfl, rfl, trivial⟩ (by first | (rw [show runD d l (k + 1) = (doV (runD d l k) (l.getD k zA)).1 from rfl, do_stack, notesL, List.length_append, List.flatMap_append, tl_5 (by assumption), List.length_append, List.flatMap_append]; rfl) | (rw [show runD d l (k + 1) = (doV (runD d l k) (l.getD k zA)).1 from rfl, do_stack, notesL, List.length_append, List.flatMap_append, tl_n (by assumption)]; rfl)) rfl (by omega) (by omega)
      · refine ExL.nil ?_
        refine Ex.cond_f rfl ?_
        refine Ex.skip ?_
        refine Ex.region (ExL.pures 1 rfl ?_)
        refine ExL.free (by first | exact fr_add64 rfl rfl rfl (by omega) | exact fr_add rfl rfl rfl) rfl rfl rfl ?_
        refine ExL.pures 1 rfl ?_
        refine ExL.nil ?_
        refine HandB.of (k + 1) (A11) (cA11) (A2) (c2) 6 [1, 2, 3, 4, 5] ⟨(by rw [notesL, List.length_append]; rfl), (by first | (rw [tl_5 (by assumption), List.length_append]; rfl) | (rw [tl_n (by assumption)]; first | done | rfl)), rfl, agI (by rw [cd_go (by assumption)]), rfl, trivial⟩ ⟨rfl, rfl, rfl, rfl, rfl, rfl, trivial⟩ (by first | (rw [show runD d l (k + 1) = (doV (runD d l k) (l.getD k zA)).1 from rfl, do_stack, notesL, List.length_append, List.flatMap_append, tl_5 (by assumption), List.length_append, List.flatMap_append]; rfl) | (rw [show runD d l (k + 1) = (doV (runD d l k) (l.getD k zA)).1 from rfl, do_stack, notesL, List.length_append, List.flatMap_append, tl_n (by assumption)]; rfl)) rfl (by omega) (by omega)
    · refine ExL.pures 1 rfl ?_
      refine ExL.nil ?_
      refine Ex.cond_f rfl ?_
      refine Ex.exit ?_
      refine Ex.seq ?_
      refine Ex.regSeq (ExL.pures 1 rfl ?_)
      refine ExL.eql rfl rfl rfl rfl rfl rfl (fun h18 => ?_) (fun h18 => ?_)
      · refine ExL.pures 2 rfl ?_
        refine ExL.gtr rfl rfl rfl rfl rfl rfl (fun h19 => ?_) (fun h19 => ?_)
        · refine ExL.pures 1 rfl ?_
          refine ExL.nil ?_
          refine Ex.cond_t rfl ?_
          refine Ex.region (ExL.pures 1 rfl ?_)
          refine ExL.nil ?_
          refine Ex.seq ?_
          refine Ex.regSeq (ExL.pures 1 rfl ?_)
          refine ExL.neq rfl rfl rfl rfl rfl rfl (fun h20 => ?_) (fun h20 => ?_)
          · refine ExL.nil ?_
            refine Ex.cond_t rfl ?_
            refine Ex.regSeq (ExL.pures 0 rfl ?_)
            refine ExL.free (fr_build rfl rfl rfl rfl) rfl rfl rfl ?_
            refine ExL.op rfl (op_buildSlice (sz := 11) rfl rfl rfl rfl rfl rfl rfl rfl (by decide) rfl rfl rfl (fun r21 => ?_))
            refine ExL.op rfl (op_buildSlice (sz := 10) rfl rfl rfl rfl rfl rfl rfl rfl (by decide) rfl rfl rfl (fun r22 => ?_))
            refine ExL.pures 1 rfl ?_
            refine ExL.op rfl (op_storeC (i := 6) rfl rfl rfl rfl rfl rfl rfl rfl rfl rfl ?_)
            refine ExL.pures 3 rfl ?_
            refine ExL.nil ?_
            refine Ex.nilRow 5 1 ?_
            refine Ex.ret ?_
            refine RetQ.mk ((none, 0), ((some ⟨r21, 0, none⟩), 0), ((some ⟨r22, 0, none⟩), 0)) rfl (.cell rfl (.many rfl rfl rfl (SegO.whole (i := 7) rfl)) (.tmp rfl (.tmp rfl (.tmp rfl .nil)))) (t4 (by first | (exfalso; omega) | (rw [rv_cd (k := k) (by omega) (by assumption)]; first | done | rfl | (rw [runD_stack]; rfl)) | (rw [rv_cover (k := k) (by omega) (by omega) (by assumption) (by assumption)]; first | done | rfl | (rw [runD_stack]; rfl)) | (rw [rv_cok (k := k) (by omega) (by omega) (by assumption) (by assumption)]; first | done | rfl | (rw [runD_stack]; rfl))) (by first | (exfalso; omega) | (rw [rv_cd (k := k) (by omega) (by assumption)]; first | done | rfl) | (rw [rv_cover (k := k) (by omega) (by omega) (by assumption) (by assumption)]; first | done | rfl) | (rw [rv_cok (k := k) (by omega) (by omega) (by assumption) (by assumption)]; first | done | rfl)) (by first | (exfalso; omega) | (rw [rv_cd (k := k) (by omega) (by assumption)]; first | done | rfl) | (rw [rv_cover (k := k) (by omega) (by omega) (by assumption) (by assumption)]; first | done | rfl) | (rw [rv_cok (k := k) (by omega) (by omega) (by assumption) (by assumption)]; first | done | rfl)) (by first | (exfalso; omega) | (rw [rv_cd (k := k) (by omega) (by assumption)]; first | done | rfl) | (rw [rv_cover (k := k) (by omega) (by omega) (by assumption) (by assumption)]; first | done | rfl) | (rw [rv_cok (k := k) (by omega) (by omega) (by assumption) (by assumption)]; first | done | rfl))) [0, 2, 1] (by first | (exfalso; omega) | (rw [rv_cd (k := k) (by omega) (by assumption)]; first | done | rfl | (rw [runD_stack]; rfl)) | (rw [rv_cover (k := k) (by omega) (by omega) (by assumption) (by assumption)]; first | done | rfl | (rw [runD_stack]; rfl)) | (rw [rv_cok (k := k) (by omega) (by omega) (by assumption) (by assumption)]; first | done | rfl | (rw [runD_stack]; rfl))) rfl (trivial)
          · refine ExL.nil ?_
            refine Ex.cond_f rfl ?_
            refine Ex.skip ?_
            refine Ex.regSeq (ExL.pures 0 rfl ?_)
            refine ExL.free (fr_loadN rfl rfl rfl rfl rfl (SegO.whole (i := 0) rfl)) rfl rfl rfl ?_
            refine ExL.pures 2 rfl ?_
            refine ExL.op rfl (op_storeC (i := 4) rfl rfl rfl rfl rfl rfl rfl rfl rfl rfl ?_)
            refine ExL.pures 3 rfl ?_
            refine ExL.nil ?_
            refine Ex.ret ?_
            refine RetQ.mk ((x2.1, x2.2), (A, c), (A2, c2)) rfl (.cell rfl (.many rfl rfl rfl (SegO.whole (i := 4) rfl)) (.tmp rfl (.tmp rfl (.tmp rfl .nil)))) (t4 (by first | (exfalso; omega) | (rw [rv_cd (k := k) (by omega) (by assumption)]; first | done | rfl | (rw [runD_stack]; rfl)) | (rw [rv_cover (k := k) (by omega) (by omega) (by assumption) (by assumption)]; first | done | rfl | (rw [runD_stack]; rfl)) | (rw [rv_cok (k := k) (by omega) (by omega) (by assumption) (by assumption)]; first | done | rfl | (rw [runD_stack]; rfl))) (by first | (exfalso; omega) | (rw [rv_cd (k := k) (by omega) (by assumption)]; first | done | rfl) | (rw [rv_cover (k := k) (by omega) (by omega) (by assumption) (by assumption)]; first | done | rfl) | (rw [rv_cok (k := k) (by omega) (by omega) (by assumption) (by assumption)]; first | done | rfl)) (by first | (exfalso; omega) | (rw [rv_cd (k := k) (by omega) (by assumption)]; first | done | rfl) | (rw [rv_cover (k := k) (by omega) (by omega) (by assumption) (by assumption)]; first | done | rfl) | (rw [rv_cok (k := k) (by omega) (by omega) (by assumption) (by assumption)]; first | done | rfl)) (by first | (exfalso; omega) | (rw [rv_cd (k := k) (by omega) (by assumption)]; first | done | rfl) | (rw [rv_cover (k := k) (by omega) (by omega) (by assumption) (by assumption)]; first | done | rfl) | (rw [rv_cok (k := k) (by omega) (by omega) (by assumption) (by assumption)]; first | done | rfl))) [1, 2, 3] (by first | (exfalso; omega) | (rw [rv_cd (k := k) (by omega) (by assumption)]; first | done | rfl | (rw [runD_stack]; rfl)) | (rw [rv_cover (k := k) (by omega) (by omega) (by assumption) (by assumption)]; first | done | rfl | (rw [runD_stack]; rfl)) | (rw [rv_cok (k := k) (by omega) (by omega) (by assumption) (by assumption)]; first | done | rfl | (rw [runD_stack]; rfl))) rfl (trivial)
        · refine ExL.pures 1 rfl ?_
          refine ExL.nil ?_
          refine Ex.cond_f rfl ?_
          refine Ex.skip ?_
          refine Ex.seq ?_
          refine Ex.regSeq (ExL.pures 1 rfl ?_)
          refine ExL.neq rfl rfl rfl rfl rfl rfl (fun h23 => ?_) (fun h23 => ?_)
          · refine ExL.nil ?_
            refine Ex.cond_t rfl ?_
            refine Ex.regSeq (ExL.pures 0 rfl ?_)
            refine ExL.free (fr_build rfl rfl rfl rfl) rfl rfl rfl ?_
            refine ExL.op rfl (op_buildSlice (sz := 11) rfl rfl rfl rfl rfl rfl rfl rfl (by decide) rfl rfl rfl (fun r24 => ?_))
            refine ExL.op rfl (op_buildSlice (sz := 10) rfl rfl rfl rfl rfl rfl rfl rfl (by decide) rfl rfl rfl (fun r25 => ?_))
            refine ExL.pures 1 rfl ?_
            refine ExL.op rfl (op_storeC (i := 6) rfl rfl rfl rfl rfl rfl rfl rfl rfl rfl ?_)
            refine ExL.pures 3 rfl ?_
            refine ExL.nil ?_
            refine Ex.nilRow 5 1 ?_
            refine Ex.ret ?_
            refine RetQ.mk ((none, 0), ((some ⟨r24, 0, none⟩), 0), ((some ⟨r25, 0, none⟩), 0)) rfl (.cell rfl (.many rfl rfl rfl (SegO.whole (i := 7) rfl)) (.tmp rfl (.tmp rfl (.tmp rfl .nil)))) (t4 (by first | (exfalso; omega) | (rw [rv_cd (k := k) (by omega) (by assumption)]; first | done | rfl | (rw [runD_stack]; rfl)) | (rw [rv_cover (k := k) (by omega) (by omega) (by assumption) (by assumption)]; first | done | rfl | (rw [runD_stack]; rfl)) | (rw [rv_cok (k := k) (by omega) (by omega) (by assumption) (by assumption)]; first | done | rfl | (rw [runD_stack]; rfl))) (by first | (exfalso; omega) | (rw [rv_cd (k := k) (by omega) (by assumption)]; first | done | rfl) | (rw [rv_cover (k := k) (by omega) (by omega) (by assumption) (by assumption)]; first | done | rfl) | (rw [rv_cok (k := k) (by omega) (by omega) (by assumption) (by assumption)]; first | done | rfl)) (by first | (exfalso; omega) | (rw [rv_cd (k := k) (by omega) (by assumption)]; first | done | rfl) | (rw [rv_cover (k := k) (by omega) (by omega) (by assumption) (by assumption)]; first | done | rfl) | (rw [rv_cok (k := k) (by omega) (by omega) (by assumption) (by assumption)]; first | done | rfl)) (by first | (exfalso; omega) | (rw [rv_cd (k := k) (by omega) (by assumption)]; first | done | rfl) | (rw [rv_cover (k := k) (by omega) (by omega) (by assumption) (by assumption)]; first | done | rfl) | (rw [rv_cok (k := k) (by omega) (by omega) (by assumption) (by assumption)]; first | done | rfl))) [0, 2, 1] (by first | (exfalso; omega) | (rw [rv_cd (k := k) (by omega) (by assumption)]; first | done | rfl | (rw [runD_stack]; rfl)) | (rw [rv_cover (k := k) (by omega) (by omega) (by assumption) (by assumption)]; first | done | rfl | (rw [runD_stack]; rfl)) | (rw [rv_cok (k := k) (by omega) (by omega) (by assumption) (by assumption)]; first | done | rfl | (rw [runD_stack]; rfl))) rfl (trivial)
          · refine ExL.nil ?_
            refine Ex.cond_f rfl ?_
            refine Ex.skip ?_
            refine Ex.regSeq (ExL.pures 0 rfl ?_)
            refine ExL.free (fr_loadN rfl rfl rfl rfl rfl (SegO.whole (i := 0) rfl)) rfl rfl rfl ?_
            refine ExL.pures 2 rfl ?_
            refine ExL.op rfl (op_storeC (i := 4) rfl rfl rfl rfl rfl rfl rfl rfl rfl rfl ?_)
            refine ExL.pures 3 rfl ?_
            refine ExL.nil ?_
            refine Ex.ret ?_
            refine RetQ.mk ((x2.1, x2.2), (A, c), (A2, c2)) rfl (.cell rfl (.many rfl rfl rfl (SegO.whole (i := 4) rfl)) (.tmp rfl (.tmp rfl (.tmp rfl .nil)))) (t4 (by first | (exfalso; omega) | (rw [rv_cd (k := k) (by omega) (by assumption)]; first | done | rfl | (rw [runD_stack]; rfl)) | (rw [rv_cover (k := k) (by omega) (by omega) (by assumption) (by assumption)]; first | done | rfl | (rw [runD_stack]; rfl)) | (rw [rv_cok (k := k) (by omega) (by omega) (by assumption) (by assumption)]; first | done | rfl | (rw [runD_stack]; rfl))) (by first | (exfalso; omega) | (rw [rv_cd (k := k) (by omega) (by assumption)]; first | done | rfl) | (rw [rv_cover (k := k) (by omega) (by omega) (by assumption) (by assumption)]; first | done | rfl) | (rw [rv_cok (k := k) (by omega) (by omega) (by assumption) (by assumption)]; first | done | rfl)) (by first | (exfalso; omega) | (rw [rv_cd (k := k) (by omega) (by assumption)]; first | done | rfl) | (rw [rv_cover (k := k) (by omega) (by omega) (by assumption) (by assumption)]; first | done | rfl) | (rw [rv_cok (k := k) (by omega) (by omega) (by assumption) (by assumption)]; first | done | rfl)) (by first | (exfalso; omega) | (rw [rv_cd (k := k) (by omega) (by assumption)]; first | done | rfl) | (rw [rv_cover (k := k) (by omega) (by omega) (by assumption) (by assumption)]; first | done | rfl) | (rw [rv_cok (k := k) (by omega) (by omega) (by assumption) (by assumption)]; first | done | rfl))) [1, 2, 3] (by first | (exfalso; omega) | (rw [rv_cd (k := k) (by omega) (by assumption)]; first | done | rfl | (rw [runD_stack]; rfl)) | (rw [rv_cover (k := k) (by omega) (by omega) (by assumption) (by assumption)]; first | done | rfl | (rw [runD_stack]; rfl)) | (rw [rv_cok (k := k) (by omega) (by omega) (by assumption) (by assumption)]; first | done | rfl | (rw [runD_stack]; rfl))) rfl (trivial)
      · refine ExL.pures 4 rfl ?_
        refine ExL.nil ?_
        refine Ex.cond_f rfl ?_
        refine Ex.skip ?_
        refine Ex.seq ?_
        refine Ex.regSeq (ExL.pures 1 rfl ?_)
        refine ExL.neq rfl rfl rfl rfl rfl rfl (fun h26 => ?_) (fun h26 => ?_)
        · refine ExL.nil ?_
          refine Ex.cond_t rfl ?_
          refine Ex.regSeq (ExL.pures 0 rfl ?_)
          refine ExL.free (fr_build rfl rfl rfl rfl) rfl rfl rfl ?_
          refine ExL.op rfl (op_buildSlice (sz := 11) rfl rfl rfl rfl rfl rfl rfl rfl (by decide) rfl rfl rfl (fun r27 => ?_))
          refine ExL.op rfl (op_buildSlice (sz := 10) rfl rfl rfl rfl rfl rfl rfl rfl (by decide) rfl rfl rfl (fun r28 => ?_))
          refine ExL.pures 1 rfl ?_
          refine ExL.op rfl (op_storeC (i := 6) rfl rfl rfl rfl rfl rfl rfl rfl rfl rfl ?_)
          refine ExL.pures 3 rfl ?_
          refine ExL.nil ?_
          refine Ex.nilRow 5 1 ?_
          refine Ex.ret ?_
          refine RetQ.mk ((none, 0), ((some ⟨r27, 0, none⟩), 0), ((some ⟨r28, 0, none⟩), 0)) rfl (.cell rfl (.many rfl rfl rfl (SegO.whole (i := 7) rfl)) (.tmp rfl (.tmp rfl (.tmp rfl .nil)))) (t4 (by first | (exfalso; omega) | (rw [rv_cd (k := k) (by omega) (by assumption)]; first | done | rfl | (rw [runD_stack]; rfl)) | (rw [rv_cover (k := k) (by omega) (by omega) (by assumption) (by assumption)]; first | done | rfl | (rw [runD_stack]; rfl)) | (rw [rv_cok (k := k) (by omega) (by omega) (by assumption) (by assumption)]; first | done | rfl | (rw [runD_stack]; rfl))) (by first | (exfalso; omega) | (rw [rv_cd (k := k) (by omega) (by assumption)]; first | done | rfl) | (rw [rv_cover (k := k) (by omega) (by omega) (by assumption) (by assumption)]; first | done | rfl) | (rw [rv_cok (k := k) (by omega) (by omega) (by assumption) (by assumption)]; first | done | rfl)) (by first | (exfalso; omega) | (rw [rv_cd (k := k) (by omega) (by assumption)]; first | done | rfl) | (rw [rv_cover (k := k) (by omega) (by omega) (by assumption) (by assumption)]; first | done | rfl) | (rw [rv_cok (k := k) (by omega) (by omega) (by assumption) (by assumption)]; first | done | rfl)) (by first | (exfalso; omega) | (rw [rv_cd (k := k) (by omega) (by assumption)]; first | done | rfl) | (rw [rv_cover (k := k) (by omega) (by omega) (by assumption) (by assumption)]; first | done | rfl) | (rw [rv_cok (k := k) (by omega) (by omega) (by assumption) (by assumption)]; first | done | rfl))) [0, 2, 1] (by first | (exfalso; omega) | (rw [rv_cd (k := k) (by omega) (by assumption)]; first | done | rfl | (rw [runD_stack]; rfl)) | (rw [rv_cover (k := k) (by omega) (by omega) (by assumption) (by assumption)]; first | done | rfl | (rw [runD_stack]; rfl)) | (rw [rv_cok (k := k) (by omega) (by omega) (by assumption) (by assumption)]; first | done | rfl | (rw [runD_stack]; rfl))) rfl (trivial)
        · refine ExL.nil ?_
          refine Ex.cond_f rfl ?_
          refine Ex.skip ?_
          refine Ex.regSeq (ExL.pures 0 rfl ?_)
          refine ExL.free (fr_loadN rfl rfl rfl rfl rfl (SegO.whole (i := 0) rfl)) rfl rfl rfl ?_
          refine ExL.pures 2 rfl ?_
          refine ExL.op rfl (op_storeC (i := 4) rfl rfl rfl rfl rfl rfl rfl rfl rfl rfl ?_)
          refine ExL.pures 3 rfl ?_
          refine ExL.nil ?_
          refine Ex.ret ?_
          refine RetQ.mk ((x2.1, x2.2), (A, c), (A2, c2)) rfl (.cell rfl (.many rfl rfl rfl (SegO.whole (i := 4) rfl)) (.tmp rfl (.tmp rfl (.tmp rfl .nil)))) (t4 (by first | (exfalso; omega) | (rw [rv_cd (k := k) (by omega) (by assumption)]; first | done | rfl | (rw [runD_stack]; rfl)) | (rw [rv_cover (k := k) (by omega) (by omega) (by assumption) (by assumption)]; first | done | rfl | (rw [runD_stack]; rfl)) | (rw [rv_cok (k := k) (by omega) (by omega) (by assumption) (by assumption)]; first | done | rfl | (rw [runD_stack]; rfl))) (by first | (exfalso; omega) | (rw [rv_cd (k := k) (by omega) (by assumption)]; first | done | rfl) | (rw [rv_cover (k := k) (by omega) (by omega) (by assumption) (by assumption)]; first | done | rfl) | (rw [rv_cok (k := k) (by omega) (by omega) (by assumption) (by assumption)]; first | done | rfl)) (by first | (exfalso; omega) | (rw [rv_cd (k := k) (by omega) (by assumption)]; first | done | rfl) | (rw [rv_cover (k := k) (by omega) (by omega) (by assumption) (by assumption)]; first | done | rfl) | (rw [rv_cok (k := k) (by omega) (by omega) (by assumption) (by assumption)]; first | done | rfl)) (by first | (exfalso; omega) | (rw [rv_cd (k := k) (by omega) (by assumption)]; first | done | rfl) | (rw [rv_cover (k := k) (by omega) (by omega) (by assumption) (by assumption)]; first | done | rfl) | (rw [rv_cok (k := k) (by omega) (by omega) (by assumption) (by assumption)]; first | done | rfl))) [1, 2, 3] (by first | (exfalso; omega) | (rw [rv_cd (k := k) (by omega) (by assumption)]; first | done | rfl | (rw [runD_stack]; rfl)) | (rw [rv_cover (k := k) (by omega) (by omega) (by assumption) (by assumption)]; first | done | rfl | (rw [runD_stack]; rfl)) | (rw [rv_cok (k := k) (by omega) (by omega) (by assumption) (by assumption)]; first | done | rfl | (rw [runD_stack]; rfl))) rfl (trivial)
  · refine ExL.pures 4 rfl ?_
    refine ExL.nil ?_
    refine Ex.cond_f rfl ?_
    refine Ex.exit ?_
    refine Ex.seq ?_
    refine Ex.regSeq (ExL.pures 1 rfl ?_)
    refine ExL.eql rfl rfl rfl rfl rfl rfl (fun h29 => ?_) (fun h29 => ?_)
    · refine ExL.pures 2 rfl ?_
      refine ExL.gtr rfl rfl rfl rfl rfl rfl (fun h30 => ?_) (fun h30 => ?_)
      · refine ExL.pures 1 rfl ?_
        refine ExL.nil ?_
        refine Ex.cond_t rfl ?_
        refine Ex.region (ExL.pures 1 rfl ?_)
        refine ExL.nil ?_
        refine Ex.seq ?_
        refine Ex.regSeq (ExL.pures 1 rfl ?_)
        refine ExL.neq rfl rfl rfl rfl rfl rfl (fun h31 => ?_) (fun h31 => ?_)
        · refine ExL.nil ?_
          refine Ex.cond_t rfl ?_
          refine Ex.regSeq (ExL.pures 0 rfl ?_)
          refine ExL.free (fr_build rfl rfl rfl rfl) rfl rfl rfl ?_
          refine ExL.op rfl (op_buildSlice (sz := 11) rfl rfl rfl rfl rfl rfl rfl rfl (by decide) rfl rfl rfl (fun r32 => ?_))
          refine ExL.op rfl (op_buildSlice (sz := 10) rfl rfl rfl rfl rfl rfl rfl rfl (by decide) rfl rfl rfl (fun r33 => ?_))
          refine ExL.pures 1 rfl ?_
          refine ExL.op rfl (op_storeC (i := 6) rfl rfl rfl rfl rfl rfl rfl rfl rfl rfl ?_)
          refine ExL.pures 3 rfl ?_
          refine ExL.nil ?_
          refine Ex.nilRow 5 1 ?_
          refine Ex.ret ?_
          refine RetQ.mk ((none, 0), ((some ⟨r32, 0, none⟩), 0), ((some ⟨r33, 0, none⟩), 0)) rfl (.cell rfl (.many rfl rfl rfl (SegO.whole (i := 7) rfl)) (.tmp rfl (.tmp rfl (.tmp rfl .nil)))) (t4 (by first | (exfalso; omega) | (rw [rv_cd (k := k) (by omega) (by assumption)]; first | done | rfl | (rw [runD_stack]; rfl)) | (rw [rv_cover (k := k) (by omega) (by omega) (by assumption) (by assumption)]; first | done | rfl | (rw [runD_stack]; rfl)) | (rw [rv_cok (k := k) (by omega) (by omega) (by assumption) (by assumption)]; first | done | rfl | (rw [runD_stack]; rfl))) (by first | (exfalso; omega) | (rw [rv_cd (k := k) (by omega) (by assumption)]; first | done | rfl) | (rw [rv_cover (k := k) (by omega) (by omega) (by assumption) (by assumption)]; first | done | rfl) | (rw [rv_cok (k := k) (by omega) (by omega) (by assumption) (by assumption)]; first | done | rfl)) (by first | (exfalso; omega) | (rw [rv_cd (k := k) (by omega) (by assumption)]; first | done | rfl) | (rw [rv_cover (k := k) (by omega) (by omega) (by assumption) (by assumption)]; first | done | rfl) | (rw [rv_cok (k := k) (by omega) (by omega) (by assumption) (by assumption)]; first | done | rfl)) (by first | (exfalso; omega) | (rw [rv_cd (k := k) (by omega) (by assumption)]; first | done | rfl) | (rw [rv_cover (k := k) (by omega) (by omega) (by assumption) (by assumption)]; first | done | rfl) | (rw [rv_cok (k := k) (by omega) (by omega) (by assumption) (by assumption)]; first | done | rfl))) [0, 2, 1] (by first | (exfalso; omega) | (rw [rv_cd (k := k) (by omega) (by assumption)]; first | done | rfl | (rw [runD_stack]; rfl)) | (rw [rv_cover (k := k) (by omega) (by omega) (by assumption) (by assumption)]; first | done | rfl | (rw [runD_stack]; rfl)) | (rw [rv_cok (k := k) (by omega) (by omega) (by assumption) (by assumption)]; first | done | rfl | (rw [runD_stack]; rfl))) rfl (trivial)
        · refine ExL.nil ?_
          refine Ex.cond_f rfl ?_
          refine Ex.skip ?_
          refine Ex.regSeq (ExL.pures 0 rfl ?_)
          refine ExL.free (fr_loadN rfl rfl rfl rfl rfl (SegO.whole (i := 0) rfl)) rfl rfl rfl ?_
          refine ExL.pures 2 rfl ?_
          refine ExL.op rfl (op_storeC (i := 4) rfl rfl rfl rfl rfl rfl rfl rfl rfl rfl ?_)
          refine ExL.pures 3 rfl ?_
          refine ExL.nil ?_
          refine Ex.ret ?_
          refine RetQ.mk ((x2.1, x2.2), (A, c), (A2, c2)) rfl (.cell rfl (.many rfl rfl rfl (SegO.whole (i := 4) rfl)) (.tmp rfl (.tmp rfl (.tmp rfl .nil)))) (t4 (by first | (exfalso; omega) | (rw [rv_cd (k := k) (by omega) (by assumption)]; first | done | rfl | (rw [runD_stack]; rfl)) | (rw [rv_cover (k := k) (by omega) (by omega) (by assumption) (by assumption)]; first | done | rfl | (rw [runD_stack]; rfl)) | (rw [rv_cok (k := k) (by omega) (by omega) (by assumption) (by assumption)]; first | done | rfl | (rw [runD_stack]; rfl))) (by first | (exfalso; omega) | (rw [rv_cd (k := k) (by omega) (by assumption)]; first | done | rfl) | (rw [rv_cover (k := k) (by omega) (by omega) (by assumption) (by assumption)]; first | done | rfl) | (rw [rv_cok (k := k) (by omega) (by omega) (by assumption) (by assumption)]; first | done | rfl)) (by first | (exfalso; omega) | (rw [rv_cd (k := k) (by omega) (by assumption)]; first | done | rfl) | (rw [rv_cover (k := k) (by omega) (by omega) (by assumption) (by assumption)]; first | done | rfl) | (rw [rv_cok (k := k) (by omega) (by omega) (by assumption) (by assumption)]; first | done | rfl)) (by first | (exfalso; omega) | (rw [rv_cd (k := k) (by omega) (by assumption)]; first | done | rfl) | (rw [rv_cover (k := k) (by omega) (by omega) (by assumption) (by assumption)]; first | done | rfl) | (rw [rv_cok (k := k) (by omega) (by omega) (by assumption) (by assumption)]; first | done | rfl))) [1, 2, 3] (by first | (exfalso; omega) | (rw [rv_cd (k := k) (by omega) (by assumption)]; first | done | rfl | (rw [runD_stack]; rfl)) | (rw [rv_cover (k := k) (by omega) (by omega) (by assumption) (by assumption)]; first | done | rfl | (rw [runD_stack]; rfl)) | (rw [rv_cok (k := k) (by omega) (by omega) (by assumption) (by assumption)]; first | done | rfl | (rw [runD_stack]; rfl))) rfl (trivial)
      · refine ExL.pures 1 rfl ?_
        refine ExL.nil ?_
        refine Ex.cond_f rfl ?_
        refine Ex.skip ?_
        refine Ex.seq ?_
        refine Ex.regSeq (ExL.pures 1 rfl ?_)
        refine ExL.neq rfl rfl rfl rfl rfl rfl (fun h34 => ?_) (fun h34 => ?_)
        · refine ExL.nil ?_
          refine Ex.cond_t rfl ?_
          refine Ex.regSeq (ExL.pures 0 rfl ?_)
          refine ExL.free (fr_build rfl rfl rfl rfl) rfl rfl rfl ?_
          refine ExL.op rfl (op_buildSlice (sz := 11) rfl rfl rfl rfl rfl rfl rfl rfl (by decide) rfl rfl rfl (fun r35 => ?_))
          refine ExL.op rfl (op_buildSlice (sz := 10) rfl rfl rfl rfl rfl rfl rfl rfl (by decide) rfl rfl rfl (fun r36 => ?_))
          refine ExL.pures 1 rfl ?_
          refine ExL.op rfl (op_storeC (i := 6) rfl rfl rfl rfl rfl rfl rfl rfl rfl rfl ?_)
          refine ExL.pures 3 rfl ?_
          refine ExL.nil ?_
          refine Ex.nilRow 5 1 ?_
          refine Ex.ret ?_
          refine RetQ.mk ((none, 0), ((some ⟨r35, 0, none⟩), 0), ((some ⟨r36, 0, none⟩), 0)) rfl (.cell rfl (.many rfl rfl rfl (SegO.whole (i := 7) rfl)) (.tmp rfl (.tmp rfl (.tmp rfl .nil)))) (t4 (by first | (exfalso; omega) | (rw [rv_cd (k := k) (by omega) (by assumption)]; first | done | rfl | (rw [runD_stack]; rfl)) | (rw [rv_cover (k := k) (by omega) (by omega) (by assumption) (by assumption)]; first | done | rfl | (rw [runD_stack]; rfl)) | (rw [rv_cok (k := k) (by omega) (by omega) (by assumption) (by assumption)]; first | done | rfl | (rw [runD_stack]; rfl))) (by first | (exfalso; omega) | (rw [rv_cd (k := k) (by omega) (by assumption)]; first | done | rfl) | (rw [rv_cover (k := k) (by omega) (by omega) (by assumption) (by assumption)]; first | done | rfl) | (rw [rv_cok (k := k) (by omega) (by omega) (by assumption) (by assumption)]; first | done | rfl)) (by first | (exfalso; omega) | (rw [rv_cd (k := k) (by omega) (by assumption)]; first | done | rfl) | (rw [rv_cover (k := k) (by omega) (by omega) (by assumption) (by assumption)]; first | done | rfl) | (rw [rv_cok (k := k) (by omega) (by omega) (by assumption) (by assumption)]; first | done | rfl)) (by first | (exfalso; omega) | (rw [rv_cd (k := k) (by omega) (by assumption)]; first | done | rfl) | (rw [rv_cover (k := k) (by omega) (by omega) (by assumption) (by assumption)]; first | done | rfl) | (rw [rv_cok (k := k) (by omega) (by omega) (by assumption) (by assumption)]; first | done | rfl))) [0, 2, 1] (by first | (exfalso; omega) | (rw [rv_cd (k := k) (by omega) (by assumption)]; first | done | rfl | (rw [runD_stack]; rfl)) | (rw [rv_cover (k := k) (by omega) (by omega) (by assumption) (by assumption)]; first | done | rfl | (rw [runD_stack]; rfl)) | (rw [rv_cok (k := k) (by omega) (by omega) (by assumption) (by assumption)]; first | done | rfl | (rw [runD_stack]; rfl))) rfl (trivial)
        · refine ExL.nil ?_
          refine Ex.cond_f rfl ?_
          refine Ex.skip ?_
          refine Ex.regSeq (ExL.pures 0 rfl ?_)
          refine ExL.free (fr_loadN rfl rfl rfl rfl rfl (SegO.whole (i := 0) rfl)) rfl rfl rfl ?_
          refine ExL.pures 2 rfl ?_
          refine ExL.op rfl (op_storeC (i := 4) rfl rfl rfl rfl rfl rfl rfl rfl rfl rfl ?_)
          refine ExL.pures 3 rfl ?_
          refine ExL.nil ?_
          refine Ex.ret ?_
          refine RetQ.mk ((x2.1, x2.2), (A, c), (A2, c2)) rfl (.cell rfl (.many rfl rfl rfl (SegO.whole (i := 4) rfl)) (.tmp rfl (.tmp rfl (.tmp rfl .nil)))) (t4 (by first | (exfalso; omega) | (rw [rv_cd (k := k) (by omega) (by assumption)]; first | done | rfl | (rw [runD_stack]; rfl)) | (rw [rv_cover (k := k) (by omega) (by omega) (by assumption) (by assumption)]; first | done | rfl | (rw [runD_stack]; rfl)) | (rw [rv_cok (k := k) (by omega) (by omega) (by assumption) (by assumption)]; first | done | rfl | (rw [runD_stack]; rfl))) (by first | (exfalso; omega) | (rw [rv_cd (k := k) (by omega) (by assumption)]; first | done | rfl) | (rw [rv_cover (k := k) (by omega) (by omega) (by assumption) (by assumption)]; first | done | rfl) | (rw [rv_cok (k := k) (by omega) (by omega) (by assumption) (by assumption)]; first | done | rfl)) (by first | (exfalso; omega) | (rw [rv_cd (k := k) (by omega) (by assumption)]; first | done | rfl) | (rw [rv_cover (k := k) (by omega) (by omega) (by assumption) (by assumption)]; first | done | rfl) | (rw [rv_cok (k := k) (by omega) (by omega) (by assumption) (by assumption)]; first | done | rfl)) (by first | (exfalso; omega) | (rw [rv_cd (k := k) (by omega) (by assumption)]; first | done | rfl) | (rw [rv_cover (k := k) (by omega) (by omega) (by assumption) (by assumption)]; first | done | rfl) | (rw [rv_cok (k := k) (by omega) (by omega) (by assumption) (by assumption)]; first | done | rfl))) [1, 2, 3] (by first | (exfalso; omega) | (rw [rv_cd (k := k) (by omega) (by assumption)]; first | done | rfl | (rw [runD_stack]; rfl)) | (rw [rv_cover (k := k) (by omega) (by omega) (by assumption) (by assumption)]; first | done | rfl | (rw [runD_stack]; rfl)) | (rw [rv_cok (k := k) (by omega) (by omega) (by assumption) (by assumption)]; first | done | rfl | (rw [runD_stack]; rfl))) rfl (trivial)
    · refine ExL.pures 4 rfl ?_
      refine ExL.nil ?_
      refine Ex.cond_f rfl ?_
      refine Ex.skip ?_
      refine Ex.seq ?_
      refine Ex.regSeq (ExL.pures 1 rfl ?_)
      refine ExL.neq rfl rfl rfl rfl rfl rfl (fun h37 => ?_) (fun h37 => ?_)
      · refine ExL.nil ?_
        refine Ex.cond_t rfl ?_
        refine Ex.regSeq (ExL.pures 0 rfl ?_)
        refine ExL.free (fr_build rfl rfl rfl rfl) rfl rfl rfl ?_
        refine ExL.op rfl (op_buildSlice (sz := 11) rfl rfl rfl rfl rfl rfl rfl rfl (by decide) rfl rfl rfl (fun r38 => ?_))
        refine ExL.op rfl (op_buildSlice (sz := 10) rfl rfl rfl rfl rfl rfl rfl rfl (by decide) rfl rfl rfl (fun r39 => ?_))
        refine ExL.pures 1 rfl ?_
        refine ExL.op rfl (op_storeC (i := 6) rfl rfl rfl rfl rfl rfl rfl rfl rfl rfl ?_)
        refine ExL.pures 3 rfl ?_
        refine ExL.nil ?_
        refine Ex.nilRow 5 1 ?_
        refine Ex.ret ?_
        refine RetQ.mk ((none, 0), ((some ⟨r38, 0, none⟩), 0), ((some ⟨r39, 0, none⟩), 0)) rfl (.cell rfl (.many rfl rfl rfl (SegO.whole (i := 7) rfl)) (.tmp rfl (.tmp rfl (.tmp rfl .nil)))) (t4 (by first | (exfalso; omega) | (rw [rv_cd (k := k) (by omega) (by assumption)]; first | done | rfl | (rw [runD_stack]; rfl)) | (rw [rv_cover (k := k) (by omega) (by omega) (by assumption) (by assumption)]; first | done | rfl | (rw [runD_stack]; rfl)) | (rw [rv_cok (k := k) (by omega) (by omega) (by assumption) (by assumption)]; first | done | rfl | (rw [runD_stack]; rfl))) (by first | (exfalso; omega) | (rw [rv_cd (k := k) (by omega) (by assumption)]; first | done | rfl) | (rw [rv_cover (k := k) (by omega) (by omega) (by assumption) (by assumption)]; first | done | rfl) | (rw [rv_cok (k := k) (by omega) (by omega) (by assumption) (by assumption)]; first | done | rfl)) (by first | (exfalso; omega) | (rw [rv_cd (k := k) (by omega) (by assumption)]; first | done | rfl) | (rw [rv_cover (k := k) (by omega) (by omega) (by assumption) (by assumption)]; first | done | rfl) | (rw [rv_cok (k := k) (by omega) (by omega) (by assumption) (by assumption)]; first | done | rfl)) (by first | (exfalso; omega) | (rw [rv_cd (k := k) (by omega) (by assumption)]; first | done | rfl) | (rw [rv_cover (k := k) (by omega) (by omega) (by assumption) (by assumption)]; first | done | rfl) | (rw [rv_cok (k := k) (by omega) (by omega) (by assumption) (by assumption)]; first | done | rfl))) [0, 2, 1] (by first | (exfalso; omega) | (rw [rv_cd (k := k) (by omega) (by assumption)]; first | done | rfl | (rw [runD_stack]; rfl)) | (rw [rv_cover (k := k) (by omega) (by omega) (by assumption) (by assumption)]; first | done | rfl | (rw [runD_stack]; rfl)) | (rw [rv_cok (k := k) (by omega) (by omega) (by assumption) (by assumption)]; first | done | rfl | (rw [runD_stack]; rfl))) rfl (trivial)
      · refine ExL.nil ?_
        refine Ex.cond_f rfl ?_
        refine Ex.skip ?_
        refine Ex.regSeq (ExL.pures 0 rfl ?_)
        refine ExL.free (fr_loadN rfl rfl rfl rfl rfl (SegO.whole (i := 0) rfl)) rfl rfl rfl ?_
        refine ExL.pures 2 rfl ?_
        refine ExL.op rfl (op_storeC (i := 4) rfl rfl rfl rfl rfl rfl rfl rfl rfl rfl ?_)
        refine ExL.pures 3 rfl ?_
        refine ExL.nil ?_
        refine Ex.ret ?_
        refine RetQ.mk ((x2.1, x2.2), (A, c), (A2, c2)) rfl (.cell rfl (.many rfl rfl rfl (SegO.whole (i := 4) rfl)) (.tmp rfl (.tmp rfl (.tmp rfl .nil)))) (t4 (by first | (exfalso; omega) | (rw [rv_cd (k := k) (by omega) (by assumption)]; first | done | rfl | (rw [runD_stack]; rfl)) | (rw [rv_cover (k := k) (by omega) (by omega) (by assumption) (by assumption)]; first | done | rfl | (rw [runD_stack]; rfl)) | (rw [rv_cok (k := k) (by omega) (by omega) (by assumption) (by assumption)]; first | done | rfl | (rw [runD_stack]; rfl))) (by first | (exfalso; omega) | (rw [rv_cd (k := k) (by omega) (by assumption)]; first | done | rfl) | (rw [rv_cover (k := k) (by omega) (by omega) (by assumption) (by assumption)]; first | done | rfl) | (rw [rv_cok (k := k) (by omega) (by omega) (by assumption) (by assumption)]; first | done | rfl)) (by first | (exfalso; omega) | (rw [rv_cd (k := k) (by omega) (by assumption)]; first | done | rfl) | (rw [rv_cover (k := k) (by omega) (by omega) (by assumption) (by assumption)]; first | done | rfl) | (rw [rv_cok (k := k) (by omega) (by omega) (by assumption) (by assumption)]; first | done | rfl)) (by first | (exfalso; omega) | (rw [rv_cd (k := k) (by omega) (by assumption)]; first | done | rfl) | (rw [rv_cover (k := k) (by omega) (by omega) (by assumption) (by assumption)]; first | done | rfl) | (rw [rv_cok (k := k) (by omega) (by omega) (by assumption) (by assumption)]; first | done | rfl))) [1, 2, 3] (by first | (exfalso; omega) | (rw [rv_cd (k := k) (by omega) (by assumption)]; first | done | rfl | (rw [runD_stack]; rfl)) | (rw [rv_cover (k := k) (by omega) (by omega) (by assumption) (by assumption)]; first | done | rfl | (rw [runD_stack]; rfl)) | (rw [rv_cok (k := k) (by omega) (by omega) (by assumption) (by assumption)]; first | done | rfl | (rw [runD_stack]; rfl))) rfl (trivial)
end Go.Proofs.YthabjnhfhmbamaaGreatDoor

/- What these functions of the program hand back, each proved by walking its operations. -/
set_option linter.unusedVariables false
set_option linter.unusedSimpArgs false
set_option maxRecDepth 4000
namespace Go.Proofs.YthabjnhfhmbamaaGreatDoor
open Go Go.Sx Go.RowKit Go.W Go.Proofs
attribute [local irreducible] Ex ExL ExD Op1 Free RetQ MutQ Reads CellO SegO LoadsAs
theorem e_19 : Enters Tryz.prog 19 := Enters.of Tryz.func19 rfl
theorem c_iDoAct (d : VDev) (hk : OkDev d) (Ad : Option Addr) (cd : Nat) (hAd : Ad = none → cd = 0) (hdl : d.stack.length ≤ 1048576) (a : VAct) (hoa : OkAct a) : Ret Tryz.prog 19 [.agg (encV Ad cd d).toArray, .agg (encA a).toArray] (fun w => Rd w Ad (d.stack.flatMap (eI .u8))) (fun x : Option Addr × Nat => .tuple #[.agg (encV x.1 x.2 (doActV d a).1).toArray, .int .i64 (doActV d a).2.1, .int .i64 (doActV d a).2.2]) (fun x => [.row (.slice x.1 (doActV d a).1.stack.length x.2) 5 1 (doActV d a).1.stack.length ((doActV d a).1.stack.flatMap (eI .u8))]) (fun x => True) := by
  refine Ret.of e_19 Tryz.func19 rfl Tryz.ntmps19 rfl rfl (fun w hpre => ?_)
  have hd := hpre.base
  have hk2 := hk
  obtain ⟨hl, hu, ha, hpp, htt⟩ := hk2
  have hm0 : maxLen = 9223372036854775807 := rfl
  refine Ex.regSeq (ExL.pures 0 rfl ?_)
  refine ExL.op rfl (op_box rfl rfl rfl rfl rfl (fun b1 => ?_))
  refine ExL.op rfl (op_box rfl rfl rfl rfl rfl (fun b2 => ?_))
  refine ExL.op rfl (op_alloc rfl rfl rfl rfl rfl (fun b3 => ?_))
  refine ExL.pures 2 rfl ?_
  refine ExL.nil ?_
  refine Ex.seq ?_
  refine Ex.regSeq (ExL.pures 0 rfl ?_)
  refine ExL.free (fr_loadN rfl rfl rfl rfl rfl (SegO.whole (i := 2) rfl)) rfl rfl rfl ?_
  refine ExL.op rfl (op_ret rfl rfl rfl (c_iValidDevice d (by assumption) _ _) (Reads.get (Reads.old hd)) rfl rfl (fun x4 hx4 => ?_))
  refine ExL.pures 2 rfl ?_
  refine ExL.bool (d := 13) rfl (fun hb5 => ?_) (fun hb5 => ?_)
  · replace hb5 := nb_t hb5
    refine ExL.pures 4 rfl ?_
    refine ExL.nil ?_
    refine Ex.cond_t rfl ?_
    refine Ex.regSeq (ExL.pures 0 rfl ?_)
    refine ExL.free (fr_build rfl rfl rfl rfl) rfl rfl rfl ?_
    refine ExL.op rfl (op_storeC (i := 0) rfl rfl rfl rfl rfl rfl rfl rfl rfl rfl ?_)
    refine ExL.pures 2 rfl ?_
    refine ExL.nil ?_
    refine Ex.nilRow 5 1 ?_
    refine Ex.ret ?_
    refine RetQ.mk (none, 0) rfl (.cell rfl (.many rfl rfl rfl (SegO.whole (i := 1) rfl)) (.tmp rfl (.tmp rfl .nil))) (t3 (by first | (rw [da_no ⟨by assumption, by assumption⟩ (by assumption)]; first | done | rfl) | (rw [da_ok ⟨by assumption, by assumption⟩ (by first | assumption | exact not_not_intro (by assumption))]; first | done | rfl) | (rw [da_ok ⟨by assumption, by assumption⟩ (by first | assumption | exact not_not_intro (by assumption)), (by first | assumption | omega : (doV d a).2.2 = 0)]; first | done | rfl) | (rw [da_bad (by simp_all)]; first | done | rfl)) (by first | (rw [da_no ⟨by assumption, by assumption⟩ (by assumption)]; first | done | rfl) | (rw [da_ok ⟨by assumption, by assumption⟩ (by first | assumption | exact not_not_intro (by assumption))]; first | done | rfl) | (rw [da_ok ⟨by assumption, by assumption⟩ (by first | assumption | exact not_not_intro (by assumption)), (by first | assumption | omega : (doV d a).2.2 = 0)]; first | done | rfl) | (rw [da_bad (by simp_all)]; first | done | rfl)) (by first | (rw [da_no ⟨by assumption, by assumption⟩ (by assumption)]; first | done | rfl) | (rw [da_ok ⟨by assumption, by assumption⟩ (by first | assumption | exact not_not_intro (by assumption))]; first | done | rfl) | (rw [da_ok ⟨by assumption, by assumption⟩ (by first | assumption | exact not_not_intro (by assumption)), (by first | assumption | omega : (doV d a).2.2 = 0)]; first | done | rfl) | (rw [da_bad (by simp_all)]; first | done | rfl))) [0] (by first | (rw [da_no ⟨by assumption, by assumption⟩ (by assumption)]; first | done | rfl) | (rw [da_ok ⟨by assumption, by assumption⟩ (by first | assumption | exact not_not_intro (by assumption))]; first | done | rfl) | (rw [da_ok ⟨by assumption, by assumption⟩ (by first | assumption | exact not_not_intro (by assumption)), (by first | assumption | omega : (doV d a).2.2 = 0)]; first | done | rfl) | (rw [da_bad (by simp_all)]; first | done | rfl)) rfl (trivial)
  · replace hb5 := nb_f hb5
    refine ExL.free (fr_loadN rfl rfl rfl rfl rfl (SegO.whole (i := 1) rfl)) rfl rfl rfl ?_
    refine ExL.op rfl (op_ret rfl rfl rfl (c_ValidAct _) (fun _ _ => trivial) rfl rfl (fun x6 hx6 => ?_))
    refine ExL.pures 2 rfl ?_
    refine ExL.nil ?_
    refine Ex.cond rfl (fun hb7 => ?_) (fun hb7 => ?_)
    · replace hb7 := nb_t hb7
      refine Ex.regSeq (ExL.pures 0 rfl ?_)
      refine ExL.free (fr_build rfl rfl rfl rfl) rfl rfl rfl ?_
      refine ExL.op rfl (op_storeC (i := 0) rfl rfl rfl rfl rfl rfl rfl rfl rfl rfl ?_)
      refine ExL.pures 2 rfl ?_
      refine ExL.nil ?_
      refine Ex.nilRow 5 1 ?_
      refine Ex.ret ?_
      refine RetQ.mk (none, 0) rfl (.cell rfl (.many rfl rfl rfl (SegO.whole (i := 1) rfl)) (.tmp rfl (.tmp rfl .nil))) (t3 (by first | (rw [da_no ⟨by assumption, by assumption⟩ (by assumption)]; first | done | rfl) | (rw [da_ok ⟨by assumption, by assumption⟩ (by first | assumption | exact not_not_intro (by assumption))]; first | done | rfl) | (rw [da_ok ⟨by assumption, by assumption⟩ (by first | assumption | exact not_not_intro (by assumption)), (by first | assumption | omega : (doV d a).2.2 = 0)]; first | done | rfl) | (rw [da_bad (by simp_all)]; first | done | rfl)) (by first | (rw [da_no ⟨by assumption, by assumption⟩ (by assumption)]; first | done | rfl) | (rw [da_ok ⟨by assumption, by assumption⟩ (by first | assumption | exact not_not_intro (by assumption))]; first | done | rfl) | (rw [da_ok ⟨by assumption, by assumption⟩ (by first | assumption | exact not_not_intro (by assumption)), (by first | assumption | omega : (doV d a).2.2 = 0)]; first | done | rfl) | (rw [da_bad (by simp_all)]; first | done | rfl)) (by first | (rw [da_no ⟨by assumption, by assumption⟩ (by assumption)]; first | done | rfl) | (rw [da_ok ⟨by assumption, by assumption⟩ (by first | assumption | exact not_not_intro (by assumption))]; first | done | rfl) | (rw [da_ok ⟨by assumption, by assumption⟩ (by first | assumption | exact not_not_intro (by assumption)), (by first | assumption | omega : (doV d a).2.2 = 0)]; first | done | rfl) | (rw [da_bad (by simp_all)]; first | done | rfl))) [0] (by first | (rw [da_no ⟨by assumption, by assumption⟩ (by assumption)]; first | done | rfl) | (rw [da_ok ⟨by assumption, by assumption⟩ (by first | assumption | exact not_not_intro (by assumption))]; first | done | rfl) | (rw [da_ok ⟨by assumption, by assumption⟩ (by first | assumption | exact not_not_intro (by assumption)), (by first | assumption | omega : (doV d a).2.2 = 0)]; first | done | rfl) | (rw [da_bad (by simp_all)]; first | done | rfl)) rfl (trivial)
    · replace hb7 := nb_f hb7
      refine Ex.skip ?_
      refine Ex.regSeq (ExL.pures 0 rfl ?_)
      refine ExL.free (fr_loadN rfl rfl rfl rfl rfl (SegO.whole (i := 2) rfl)) rfl rfl rfl ?_
      refine ExL.op rfl (op_ret rfl rfl rfl (c_cloneDevice d _ _ (by omega)) (Reads.get (Reads.old hd)) rfl rfl (fun x8 hx8 => ?_))
      refine ExL.op rfl (op_alloc rfl rfl rfl rfl rfl (fun b9 => ?_))
      refine ExL.op rfl (op_storeC (i := 0) rfl rfl rfl rfl rfl rfl rfl rfl rfl rfl ?_)
      refine ExL.nil ?_
      refine Ex.regSeq (ExL.pures 0 rfl ?_)
      refine ExL.free (fr_loadN rfl rfl rfl rfl rfl (SegO.whole (i := 3) rfl)) rfl rfl rfl ?_
      refine ExL.op rfl (op_mut rfl rfl rfl (c_do d (by assumption) (by assumption) _ _ _ a (by first | assumption | simp_all)) (perm_lt (i := 0) (j := 1) rfl rfl rfl) (trivial) rfl rfl (fun x10 hx10 => ?_))
      refine ExL.pures 5 rfl ?_
      refine ExL.nil ?_
      refine Ex.seq ?_
      refine Ex.regSeq (ExL.pures 1 rfl ?_)
      refine ExL.neq rfl rfl rfl rfl rfl rfl (fun h11 => ?_) (fun h11 => ?_)
      · refine ExL.nil ?_
        refine Ex.cond_t rfl ?_
        refine Ex.regSeq (ExL.pures 0 rfl ?_)
        refine ExL.free (fr_build rfl rfl rfl rfl) rfl rfl rfl ?_
        refine ExL.pures 1 rfl ?_
        refine ExL.op rfl (op_storeC (i := 2) rfl rfl rfl rfl rfl rfl rfl rfl rfl rfl ?_)
        refine ExL.pures 2 rfl ?_
        refine ExL.nil ?_
        refine Ex.nilRow 5 1 ?_
        refine Ex.ret ?_
        refine RetQ.mk (none, 0) rfl (.cell rfl (.many rfl rfl rfl (SegO.whole (i := 3) rfl)) (.tmp rfl (.tmp rfl .nil))) (t3 (by first | (rw [da_no ⟨by assumption, by assumption⟩ (by assumption)]; first | done | rfl) | (rw [da_ok ⟨by assumption, by assumption⟩ (by first | assumption | exact not_not_intro (by assumption))]; first | done | rfl) | (rw [da_ok ⟨by assumption, by assumption⟩ (by first | assumption | exact not_not_intro (by assumption)), (by first | assumption | omega : (doV d a).2.2 = 0)]; first | done | rfl) | (rw [da_bad (by simp_all)]; first | done | rfl)) (by first | (rw [da_no ⟨by assumption, by assumption⟩ (by assumption)]; first | done | rfl) | (rw [da_ok ⟨by assumption, by assumption⟩ (by first | assumption | exact not_not_intro (by assumption))]; first | done | rfl) | (rw [da_ok ⟨by assumption, by assumption⟩ (by first | assumption | exact not_not_intro (by assumption)), (by first | assumption | omega : (doV d a).2.2 = 0)]; first | done | rfl) | (rw [da_bad (by simp_all)]; first | done | rfl)) (by first | (rw [da_no ⟨by assumption, by assumption⟩ (by assumption)]; first | done | rfl) | (rw [da_ok ⟨by assumption, by assumption⟩ (by first | assumption | exact not_not_intro (by assumption))]; first | done | rfl) | (rw [da_ok ⟨by assumption, by assumption⟩ (by first | assumption | exact not_not_intro (by assumption)), (by first | assumption | omega : (doV d a).2.2 = 0)]; first | done | rfl) | (rw [da_bad (by simp_all)]; first | done | rfl))) [0] (by first | (rw [da_no ⟨by assumption, by assumption⟩ (by assumption)]; first | done | rfl) | (rw [da_ok ⟨by assumption, by assumption⟩ (by first | assumption | exact not_not_intro (by assumption))]; first | done | rfl) | (rw [da_ok ⟨by assumption, by assumption⟩ (by first | assumption | exact not_not_intro (by assumption)), (by first | assumption | omega : (doV d a).2.2 = 0)]; first | done | rfl) | (rw [da_bad (by simp_all)]; first | done | rfl)) rfl (trivial)
      · refine ExL.nil ?_
        refine Ex.cond_f rfl ?_
        refine Ex.skip ?_
        refine Ex.regSeq (ExL.pures 0 rfl ?_)
        refine ExL.free (fr_loadN rfl rfl rfl rfl rfl (SegO.whole (i := 0) rfl)) rfl rfl rfl ?_
        refine ExL.pures 1 rfl ?_
        refine ExL.op rfl (op_storeC (i := 2) rfl rfl rfl rfl rfl rfl rfl rfl rfl rfl ?_)
        refine ExL.pures 2 rfl ?_
        refine ExL.nil ?_
        refine Ex.ret ?_
        refine RetQ.mk (x8.1, x8.2) rfl (.cell rfl (.many rfl rfl rfl (SegO.whole (i := 2) rfl)) (.tmp rfl (.tmp rfl .nil))) (t3 (by first | (rw [da_no ⟨by assumption, by assumption⟩ (by assumption)]; first | done | rfl) | (rw [da_ok ⟨by assumption, by assumption⟩ (by first | assumption | exact not_not_intro (by assumption))]; first | done | rfl) | (rw [da_ok ⟨by assumption, by assumption⟩ (by first | assumption | exact not_not_intro (by assumption)), do_stack]; first | done | rfl) | (rw [da_bad (by simp_all)]; first | done | rfl)) (by first | (rw [da_no ⟨by assumption, by assumption⟩ (by assumption)]; first | done | rfl) | (rw [da_ok ⟨by assumption, by assumption⟩ (by first | assumption | exact not_not_intro (by assumption))]; first | done | rfl) | (rw [da_ok ⟨by assumption, by assumption⟩ (by first | assumption | exact not_not_intro (by assumption)), (by first | assumption | omega : (doV d a).2.2 = 0)]; first | done | rfl) | (rw [da_bad (by simp_all)]; first | done | rfl)) (by first | (rw [da_no ⟨by assumption, by assumption⟩ (by assumption)]; first | done | rfl) | (rw [da_ok ⟨by assumption, by assumption⟩ (by first | assumption | exact not_not_intro (by assumption))]; first | done | rfl) | (rw [da_ok ⟨by assumption, by assumption⟩ (by first | assumption | exact not_not_intro (by assumption)), (by first | assumption | omega : (doV d a).2.2 = 0)]; first | done | rfl) | (rw [da_bad (by simp_all)]; first | done | rfl))) [1] (by first | (rw [da_no ⟨by assumption, by assumption⟩ (by assumption)]; first | done | rfl) | (rw [da_ok ⟨by assumption, by assumption⟩ (by first | assumption | exact not_not_intro (by assumption))]; first | done | rfl) | (rw [da_ok ⟨by assumption, by assumption⟩ (by first | assumption | exact not_not_intro (by assumption)), do_stack]; first | done | rfl) | (rw [da_bad (by simp_all)]; first | done | rfl)) rfl (trivial)
theorem e_20 : Enters Tryz.prog 20 := Enters.of Tryz.func20 rfl
theorem c_sDoAct (d : VDev) (hk : OkDev d) (Ad : Option Addr) (cd : Nat) (hAd : Ad = none → cd = 0) (hdl : d.stack.length ≤ 1048576) (a : VAct) (hoa : OkAct a) : Ret Tryz.prog 20 [.agg (encV Ad cd d).toArray, .agg (encA a).toArray] (fun w => Rd w Ad (d.stack.flatMap (eI .u8))) (fun x : Option Addr × Nat => .tuple #[.agg (encV x.1 x.2 (doActV d a).1).toArray, .int .i64 (doActV d a).2.1, .int .i64 (doActV d a).2.2]) (fun x => [.row (.slice x.1 (doActV d a).1.stack.length x.2) 5 1 (doActV d a).1.stack.length ((doActV d a).1.stack.flatMap (eI .u8))]) (fun x => True) := by
  refine Ret.of e_20 Tryz.func20 rfl Tryz.ntmps20 rfl rfl (fun w hpre => ?_)
  have hd := hpre.base
  have hk2 := hk
  obtain ⟨hl, hu, ha, hpp, htt⟩ := hk2
  have hm0 : maxLen = 9223372036854775807 := rfl
  refine Ex.regSeq (ExL.pures 0 rfl ?_)
  refine ExL.op rfl (op_box rfl rfl rfl rfl rfl (fun b1 => ?_))
  refine ExL.op rfl (op_box rfl rfl rfl rfl rfl (fun b2 => ?_))
  refine ExL.op rfl (op_alloc rfl rfl rfl rfl rfl (fun b3 => ?_))
  refine ExL.pures 2 rfl ?_
  refine ExL.nil ?_
  refine Ex.seq ?_
  refine Ex.regSeq (ExL.pures 0 rfl ?_)
  refine ExL.op rfl (op_ret rfl rfl rfl (c_l07Ok d (by assumption) _ _ _) (fun w hw => ⟨Reads.get (Reads.blk (i := 2) rfl) w hw, Reads.get (Reads.old hd) w hw⟩) rfl rfl (fun x4 hx4 => ?_))
  refine ExL.pures 2 rfl ?_
  refine ExL.bool (d := 12) rfl (fun hb5 => ?_) (fun hb5 => ?_)
  · replace hb5 := nb_t hb5
    refine ExL.pures 4 rfl ?_
    refine ExL.nil ?_
    refine Ex.cond_t rfl ?_
    refine Ex.regSeq (ExL.pures 0 rfl ?_)
    refine ExL.free (fr_build rfl rfl rfl rfl) rfl rfl rfl ?_
    refine ExL.op rfl (op_storeC (i := 0) rfl rfl rfl rfl rfl rfl rfl rfl rfl rfl ?_)
    refine ExL.pures 2 rfl ?_
    refine ExL.nil ?_
    refine Ex.nilRow 5 1 ?_
    refine Ex.ret ?_
    refine RetQ.mk (none, 0) rfl (.cell rfl (.many rfl rfl rfl (SegO.whole (i := 1) rfl)) (.tmp rfl (.tmp rfl .nil))) (t3 (by first | (rw [da_no ⟨by assumption, by assumption⟩ (by assumption)]; first | done | rfl) | (rw [da_ok ⟨by assumption, by assumption⟩ (by first | assumption | exact not_not_intro (by assumption))]; first | done | rfl) | (rw [da_ok ⟨by assumption, by assumption⟩ (by first | assumption | exact not_not_intro (by assumption)), (by first | assumption | omega : (doV d a).2.2 = 0)]; first | done | rfl) | (rw [da_bad (by simp_all)]; first | done | rfl)) (by first | (rw [da_no ⟨by assumption, by assumption⟩ (by assumption)]; first | done | rfl) | (rw [da_ok ⟨by assumption, by assumption⟩ (by first | assumption | exact not_not_intro (by assumption))]; first | done | rfl) | (rw [da_ok ⟨by assumption, by assumption⟩ (by first | assumption | exact not_not_intro (by assumption)), (by first | assumption | omega : (doV d a).2.2 = 0)]; first | done | rfl) | (rw [da_bad (by simp_all)]; first | done | rfl)) (by first | (rw [da_no ⟨by assumption, by assumption⟩ (by assumption)]; first | done | rfl) | (rw [da_ok ⟨by assumption, by assumption⟩ (by first | assumption | exact not_not_intro (by assumption))]; first | done | rfl) | (rw [da_ok ⟨by assumption, by assumption⟩ (by first | assumption | exact not_not_intro (by assumption)), (by first | assumption | omega : (doV d a).2.2 = 0)]; first | done | rfl) | (rw [da_bad (by simp_all)]; first | done | rfl))) [0] (by first | (rw [da_no ⟨by assumption, by assumption⟩ (by assumption)]; first | done | rfl) | (rw [da_ok ⟨by assumption, by assumption⟩ (by first | assumption | exact not_not_intro (by assumption))]; first | done | rfl) | (rw [da_ok ⟨by assumption, by assumption⟩ (by first | assumption | exact not_not_intro (by assumption)), (by first | assumption | omega : (doV d a).2.2 = 0)]; first | done | rfl) | (rw [da_bad (by simp_all)]; first | done | rfl)) rfl (trivial)
  · replace hb5 := nb_f hb5
    refine ExL.free (fr_loadN rfl rfl rfl rfl rfl (SegO.whole (i := 1) rfl)) rfl rfl rfl ?_
    refine ExL.op rfl (op_ret rfl rfl rfl (c_l07Act _) (fun _ _ => trivial) rfl rfl (fun x6 hx6 => ?_))
    refine ExL.pures 2 rfl ?_
    refine ExL.nil ?_
    refine Ex.cond rfl (fun hb7 => ?_) (fun hb7 => ?_)
    · replace hb7 := nb_t hb7
      refine Ex.regSeq (ExL.pures 0 rfl ?_)
      refine ExL.free (fr_build rfl rfl rfl rfl) rfl rfl rfl ?_
      refine ExL.op rfl (op_storeC (i := 0) rfl rfl rfl rfl rfl rfl rfl rfl rfl rfl ?_)
      refine ExL.pures 2 rfl ?_
      refine ExL.nil ?_
      refine Ex.nilRow 5 1 ?_
      refine Ex.ret ?_
      refine RetQ.mk (none, 0) rfl (.cell rfl (.many rfl rfl rfl (SegO.whole (i := 1) rfl)) (.tmp rfl (.tmp rfl .nil))) (t3 (by first | (rw [da_no ⟨by assumption, by assumption⟩ (by assumption)]; first | done | rfl) | (rw [da_ok ⟨by assumption, by assumption⟩ (by first | assumption | exact not_not_intro (by assumption))]; first | done | rfl) | (rw [da_ok ⟨by assumption, by assumption⟩ (by first | assumption | exact not_not_intro (by assumption)), (by first | assumption | omega : (doV d a).2.2 = 0)]; first | done | rfl) | (rw [da_bad (by simp_all)]; first | done | rfl)) (by first | (rw [da_no ⟨by assumption, by assumption⟩ (by assumption)]; first | done | rfl) | (rw [da_ok ⟨by assumption, by assumption⟩ (by first | assumption | exact not_not_intro (by assumption))]; first | done | rfl) | (rw [da_ok ⟨by assumption, by assumption⟩ (by first | assumption | exact not_not_intro (by assumption)), (by first | assumption | omega : (doV d a).2.2 = 0)]; first | done | rfl) | (rw [da_bad (by simp_all)]; first | done | rfl)) (by first | (rw [da_no ⟨by assumption, by assumption⟩ (by assumption)]; first | done | rfl) | (rw [da_ok ⟨by assumption, by assumption⟩ (by first | assumption | exact not_not_intro (by assumption))]; first | done | rfl) | (rw [da_ok ⟨by assumption, by assumption⟩ (by first | assumption | exact not_not_intro (by assumption)), (by first | assumption | omega : (doV d a).2.2 = 0)]; first | done | rfl) | (rw [da_bad (by simp_all)]; first | done | rfl))) [0] (by first | (rw [da_no ⟨by assumption, by assumption⟩ (by assumption)]; first | done | rfl) | (rw [da_ok ⟨by assumption, by assumption⟩ (by first | assumption | exact not_not_intro (by assumption))]; first | done | rfl) | (rw [da_ok ⟨by assumption, by assumption⟩ (by first | assumption | exact not_not_intro (by assumption)), (by first | assumption | omega : (doV d a).2.2 = 0)]; first | done | rfl) | (rw [da_bad (by simp_all)]; first | done | rfl)) rfl (trivial)
    · replace hb7 := nb_f hb7
      refine Ex.skip ?_
      refine Ex.regSeq (ExL.pures 0 rfl ?_)
      refine ExL.op rfl (op_ret rfl rfl rfl (c_l07Copy d _ _ _ (by first | assumption | exact (fun e => nomatch e) | (intro e; simp_all)) (by omega)) (fun w hw => ⟨Reads.get (Reads.blk (i := 2) rfl) w hw, Reads.get (Reads.old hd) w hw⟩) rfl rfl (fun x8 hx8 => ?_))
      refine ExL.op rfl (op_alloc rfl rfl rfl rfl rfl (fun b9 => ?_))
      refine ExL.op rfl (op_storeC (i := 0) rfl rfl rfl rfl rfl rfl rfl rfl rfl rfl ?_)
      refine ExL.nil ?_
      refine Ex.regSeq (ExL.pures 0 rfl ?_)
      refine ExL.free (fr_loadN rfl rfl rfl rfl rfl (SegO.whole (i := 3) rfl)) rfl rfl rfl ?_
      refine ExL.op rfl (op_mut rfl rfl rfl (c_l07Do d (by assumption) (by assumption) _ _ _ a (by first | assumption | simp_all)) (perm_lt (i := 0) (j := 1) rfl rfl rfl) (trivial) rfl rfl (fun x10 hx10 => ?_))
      refine ExL.pures 5 rfl ?_
      refine ExL.nil ?_
      refine Ex.seq ?_
      refine Ex.regSeq (ExL.pures 1 rfl ?_)
      refine ExL.neq rfl rfl rfl rfl rfl rfl (fun h11 => ?_) (fun h11 => ?_)
      · refine ExL.nil ?_
        refine Ex.cond_t rfl ?_
        refine Ex.regSeq (ExL.pures 0 rfl ?_)
        refine ExL.free (fr_build rfl rfl rfl rfl) rfl rfl rfl ?_
        refine ExL.pures 1 rfl ?_
        refine ExL.op rfl (op_storeC (i := 2) rfl rfl rfl rfl rfl rfl rfl rfl rfl rfl ?_)
        refine ExL.pures 2 rfl ?_
        refine ExL.nil ?_
        refine Ex.nilRow 5 1 ?_
        refine Ex.ret ?_
        refine RetQ.mk (none, 0) rfl (.cell rfl (.many rfl rfl rfl (SegO.whole (i := 3) rfl)) (.tmp rfl (.tmp rfl .nil))) (t3 (by first | (rw [da_no ⟨by assumption, by assumption⟩ (by assumption)]; first | done | rfl) | (rw [da_ok ⟨by assumption, by assumption⟩ (by first | assumption | exact not_not_intro (by assumption))]; first | done | rfl) | (rw [da_ok ⟨by assumption, by assumption⟩ (by first | assumption | exact not_not_intro (by assumption)), (by first | assumption | omega : (doV d a).2.2 = 0)]; first | done | rfl) | (rw [da_bad (by simp_all)]; first | done | rfl)) (by first | (rw [da_no ⟨by assumption, by assumption⟩ (by assumption)]; first | done | rfl) | (rw [da_ok ⟨by assumption, by assumption⟩ (by first | assumption | exact not_not_intro (by assumption))]; first | done | rfl) | (rw [da_ok ⟨by assumption, by assumption⟩ (by first | assumption | exact not_not_intro (by assumption)), (by first | assumption | omega : (doV d a).2.2 = 0)]; first | done | rfl) | (rw [da_bad (by simp_all)]; first | done | rfl)) (by first | (rw [da_no ⟨by assumption, by assumption⟩ (by assumption)]; first | done | rfl) | (rw [da_ok ⟨by assumption, by assumption⟩ (by first | assumption | exact not_not_intro (by assumption))]; first | done | rfl) | (rw [da_ok ⟨by assumption, by assumption⟩ (by first | assumption | exact not_not_intro (by assumption)), (by first | assumption | omega : (doV d a).2.2 = 0)]; first | done | rfl) | (rw [da_bad (by simp_all)]; first | done | rfl))) [0] (by first | (rw [da_no ⟨by assumption, by assumption⟩ (by assumption)]; first | done | rfl) | (rw [da_ok ⟨by assumption, by assumption⟩ (by first | assumption | exact not_not_intro (by assumption))]; first | done | rfl) | (rw [da_ok ⟨by assumption, by assumption⟩ (by first | assumption | exact not_not_intro (by assumption)), (by first | assumption | omega : (doV d a).2.2 = 0)]; first | done | rfl) | (rw [da_bad (by simp_all)]; first | done | rfl)) rfl (trivial)
      · refine ExL.nil ?_
        refine Ex.cond_f rfl ?_
        refine Ex.skip ?_
        refine Ex.regSeq (ExL.pures 0 rfl ?_)
        refine ExL.free (fr_loadN rfl rfl rfl rfl rfl (SegO.whole (i := 0) rfl)) rfl rfl rfl ?_
        refine ExL.pures 1 rfl ?_
        refine ExL.op rfl (op_storeC (i := 2) rfl rfl rfl rfl rfl rfl rfl rfl rfl rfl ?_)
        refine ExL.pures 2 rfl ?_
        refine ExL.nil ?_
        refine Ex.ret ?_
        refine RetQ.mk (x8.1, x8.2) rfl (.cell rfl (.many rfl rfl rfl (SegO.whole (i := 2) rfl)) (.tmp rfl (.tmp rfl .nil))) (t3 (by first | (rw [da_no ⟨by assumption, by assumption⟩ (by assumption)]; first | done | rfl) | (rw [da_ok ⟨by assumption, by assumption⟩ (by first | assumption | exact not_not_intro (by assumption))]; first | done | rfl) | (rw [da_ok ⟨by assumption, by assumption⟩ (by first | assumption | exact not_not_intro (by assumption)), do_stack]; first | done | rfl) | (rw [da_bad (by simp_all)]; first | done | rfl)) (by first | (rw [da_no ⟨by assumption, by assumption⟩ (by assumption)]; first | done | rfl) | (rw [da_ok ⟨by assumption, by assumption⟩ (by first | assumption | exact not_not_intro (by assumption))]; first | done | rfl) | (rw [da_ok ⟨by assumption, by assumption⟩ (by first | assumption | exact not_not_intro (by assumption)), (by first | assumption | omega : (doV d a).2.2 = 0)]; first | done | rfl) | (rw [da_bad (by simp_all)]; first | done | rfl)) (by first | (rw [da_no ⟨by assumption, by assumption⟩ (by assumption)]; first | done | rfl) | (rw [da_ok ⟨by assumption, by assumption⟩ (by first | assumption | exact not_not_intro (by assumption))]; first | done | rfl) | (rw [da_ok ⟨by assumption, by assumption⟩ (by first | assumption | exact not_not_intro (by assumption)), (by first | assumption | omega : (doV d a).2.2 = 0)]; first | done | rfl) | (rw [da_bad (by simp_all)]; first | done | rfl))) [1] (by first | (rw [da_no ⟨by assumption, by assumption⟩ (by assumption)]; first | done | rfl) | (rw [da_ok ⟨by assumption, by assumption⟩ (by first | assumption | exact not_not_intro (by assumption))]; first | done | rfl) | (rw [da_ok ⟨by assumption, by assumption⟩ (by first | assumption | exact not_not_intro (by assumption)), do_stack]; first | done | rfl) | (rw [da_bad (by simp_all)]; first | done | rfl)) rfl (trivial)
end Go.Proofs.YthabjnhfhmbamaaGreatDoor

/- What these functions of the program hand back, each proved by walking its operations. -/
set_option linter.unusedVariables false
set_option linter.unusedSimpArgs false
set_option maxRecDepth 4000
namespace Go.Proofs.YthabjnhfhmbamaaGreatDoor
open Go Go.Sx Go.RowKit Go.W Go.Proofs
attribute [local irreducible] Ex ExL ExD Op1 Free RetQ MutQ Reads CellO SegO LoadsAs
end Go.Proofs.YthabjnhfhmbamaaGreatDoor

/- What these functions of the program hand back, each proved by walking its operations. -/
set_option linter.unusedVariables false
set_option linter.unusedSimpArgs false
set_option maxRecDepth 4000
namespace Go.Proofs.YthabjnhfhmbamaaGreatDoor
open Go Go.Sx Go.RowKit Go.W Go.Proofs
attribute [local irreducible] Ex ExL ExD Op1 Free RetQ MutQ Reads CellO SegO LoadsAs
theorem e_62 : Enters Tryz.prog 62 := Enters.of Tryz.func62 rfl
theorem c_plays (ts : List VTic) (hts : ts.length ≤ 60) (bt : Nat) (A : Option Addr) (c : Nat) (t : VTic) : Mut Tryz.prog 62 [.agg (encT t).toArray, .pointer (some ⟨bt, 0, none⟩)] [.blk bt [.slice A ts.length c] 62, .row (.slice A ts.length c) 107 10 ts.length (ts.flatMap encT)] (fun base w0 F => True) (fun x : Option Addr × Nat => .tuple #[]) (fun x => [.blk bt [.slice x.1 (ts ++ [t]).length x.2] 62, .row (.slice x.1 (ts ++ [t]).length x.2) 107 10 (ts ++ [t]).length ((ts ++ [t]).flatMap encT)]) (fun x => True) := by
  refine Mut.of e_62 Tryz.func62 rfl Tryz.ntmps62 rfl rfl (fun base w0 F hfr => ?_)
  have hm0 : maxLen = 9223372036854775807 := rfl
  refine Ex.regSeq (ExL.pures 0 rfl ?_)
  refine ExL.op rfl (op_box rfl rfl rfl rfl rfl (fun b1 => ?_))
  refine ExL.nil ?_
  refine Ex.region (ExL.pures 0 rfl ?_)
  refine ExL.free (fr_load rfl rfl rfl rfl (CellO.blk (i := 1) rfl rfl)) rfl rfl rfl ?_
  refine ExL.free (fr_loadN rfl rfl rfl rfl rfl (SegO.whole (i := 0) rfl)) rfl rfl rfl ?_
  refine ExL.op rfl (op_buildSlice (sz := 10) rfl rfl rfl rfl rfl rfl rfl rfl (by decide) rfl rfl rfl (fun r2 => ?_))
  refine ExL.op rfl (op_append (sz := 10) (bytes := 24) (i := 3) rfl rfl rfl rfl (Reads.row (i := 0) rfl) rfl (fun e => nomatch e) rfl rfl rfl rfl (by constructor <;> first | omega | (unfold maxLen; omega)) rfl rfl (fun A3 cA3 => ?_))
  refine ExL.op rfl (op_storeC (i := 2) rfl rfl rfl rfl rfl rfl rfl rfl rfl rfl ?_)
  refine ExL.nil ?_
  refine MutQ.mk (A3, cA3) rfl .nil (rfl) 4 [2, 3] (by rw [List.length_append, List.flatMap_append]; rfl) rfl (trivial)
end Go.Proofs.YthabjnhfhmbamaaGreatDoor

/- What these functions of the program hand back, each proved by walking its operations. -/
set_option linter.unusedVariables false
set_option linter.unusedSimpArgs false
set_option maxRecDepth 4000
namespace Go.Proofs.YthabjnhfhmbamaaGreatDoor
open Go Go.Sx Go.RowKit Go.W Go.Proofs
attribute [local irreducible] Ex ExL ExD Op1 Free RetQ MutQ Reads CellO SegO LoadsAs
theorem e_61 : Enters Tryz.prog 61 := Enters.of Tryz.func61 rfl
theorem c_notes (d : VDev) (hk : OkDev d) (hdv : validDev d = true) (Ad : Option Addr) (cd : Nat) (b : Nat) (l : List VAct) (hva : ∀ i, i < l.length → validAct (l.getD i zA) = true) (h60 : l.length ≤ 60) (Al : Option Addr) (cl : Nat) (bt : Nat) (At : Option Addr) (ct : Nat) : Mut Tryz.prog 61 [.pointer (some ⟨b, 0, none⟩), .slice Al l.length cl, .func (.func 62) #[] #[.pointer (some ⟨bt, 0, none⟩)]] [.blk b (encV Ad cd d) 28, .row (.slice Ad d.stack.length cd) 5 1 d.stack.length (d.stack.flatMap (eI .u8)), .blk bt [.slice At 0 ct] 62, .row (.slice At 0 ct) 107 10 0 []] (fun base w0 F => RdB base w0 Al (l.flatMap encA)) (fun x : Nat × Nat × (Option Addr × Nat) × (Option Addr × Nat) => .tuple #[.slice x.2.2.2.1 (notesR d l).1.length x.2.2.2.2, .int .i64 (notesR d l).2.1, .int .i64 (notesR d l).2.2]) (fun x => [.blk b (encV Ad cd (runD d l x.1)) 28, .row (.slice Ad (runD d l x.1).stack.length cd) 5 1 (runD d l x.1).stack.length ((runD d l x.1).stack.flatMap (eI .u8)), .blk bt [.slice x.2.2.1.1 (ticsL d l x.2.1).length x.2.2.1.2] 62, .row (.slice x.2.2.1.1 (ticsL d l x.2.1).length x.2.2.1.2) 107 10 (ticsL d l x.2.1).length ((ticsL d l x.2.1).flatMap encT), .row (.slice x.2.2.2.1 (notesR d l).1.length x.2.2.2.2) 69 11 (notesR d l).1.length ((notesR d l).1.flatMap encN)]) (fun x => runC d l l.length = 0 → x.1 = l.length ∧ x.2.1 = l.length) := by
  refine Mut.of e_61 Tryz.func61 rfl Tryz.ntmps61 rfl rfl (fun base w0 F hfr => ?_)
  have hl := hfr
  have hm0 : maxLen = 9223372036854775807 := rfl
  refine Ex.regSeq (ExL.pures 3 rfl ?_)
  refine ExL.nil ?_
  refine Ex.regSeq (ExL.pures 0 rfl ?_)
  refine ExL.op rfl (op_buildSlice (sz := 11) rfl rfl rfl rfl rfl rfl rfl rfl (by decide) rfl rfl rfl (fun r1 => ?_))
  refine ExL.pures 2 rfl ?_
  refine ExL.nil ?_
  refine Ex.seq ?_
  refine Ex.regSeq (ExL.pures 3 rfl ?_)
  refine ExL.nil ?_
  refine Ex.block ?_
  refine Ex.loopB (fun k A c A2 c2 => [(9, .slice A (notesL d l k).length c), (10, .int .i64 (lostD d l k)), (18, .int .i64 k)]) (fun k A c A2 c2 => [.blk b (encV Ad cd (runD d l k)) 28, .row (.slice Ad (runD d l k).stack.length cd) 5 1 (runD d l k).stack.length ((runD d l k).stack.flatMap (eI .u8)), .blk bt [.slice A2 (ticsL d l k).length c2] 62, .row (.slice A2 (ticsL d l k).length c2) 107 10 (ticsL d l k).length ((ticsL d l k).flatMap encT), .row (.slice A (notesL d l k).length c) 69 11 (notesL d l k).length ((notesL d l k).flatMap encN)]) (fun k => k ≤ l.length ∧ runC d l k = 0) (fun k => l.length - k) 0 ((some ⟨r1, 0, none⟩)) (0) (At) (ct) [(0, _), (2, _), (16, _), (17, _)] (F) 5 [1, 2, 3, 4, 0] ⟨rfl, rfl, rfl, trivial⟩ ⟨rfl, rfl, rfl, rfl, trivial⟩ (rfl) rfl ⟨Nat.zero_le _, rfl⟩ (fun k A c A2 c2 hI => ?_)
  have hI : k ≤ l.length ∧ runC d l k = 0 := hI
  obtain ⟨hI, hrc⟩ := hI
  refine Ex.regSeq (ExL.pures 0 rfl ?_)
  refine ExL.lss rfl rfl rfl rfl rfl rfl (fun h2 => ?_) (fun h2 => ?_)
  · refine ExL.nil ?_
    refine Ex.seq ?_
    refine Ex.cond_t rfl ?_
    refine Ex.skip ?_
    refine Ex.seq ?_
    refine Ex.block ?_
    have hkl : k < l.length := (by omega)
    have hak := hva k hkl
    obtain ⟨hrk, hrv⟩ := run_ok hk hdv hva k (by omega)
    have hlo := lost_bd hk hdv hva k (by omega)
    have hdl := do_lost hrk hrv hak
    have hrs := runD_stack d l k
    have htl := ticsL_len d l k
    have hnl := notesL_len d l k
    obtain ⟨ho1, ho2⟩ := do_ok hrk hrv hak
    refine Ex.regSeq (ExL.pures 0 rfl ?_)
    refine ExL.free (fr_indexAddrF (Reads.old hl) encA_len rfl rfl rfl rfl rfl rfl (by omega)) rfl rfl rfl ?_
    refine ExL.free (fr_loadN rfl rfl rfl rfl rfl (by first | exact segN (Reads.old hl) encA_len rfl zA (by omega) | exact segF (Reads.old hl) encA_len rfl zA (by omega))) rfl rfl rfl ?_
    refine ExL.op rfl (op_alloc rfl rfl rfl rfl rfl (fun b3 => ?_))
    refine ExL.op rfl (op_storeC (i := 0) rfl rfl rfl rfl rfl rfl rfl rfl rfl rfl ?_)
    refine ExL.nil ?_
    refine Ex.regSeq (ExL.pures 1 rfl ?_)
    refine ExL.free (fr_loadN rfl rfl rfl rfl rfl (SegO.whole (i := 0) rfl)) rfl rfl rfl ?_
    refine ExL.op rfl (op_mut rfl rfl rfl (c_do (runD d l k) (by assumption) (by assumption) _ _ _ (l.getD k zA) (by first | assumption | simp_all)) (perm_lt (i := 1) (j := 2) rfl rfl rfl) (trivial) rfl rfl (fun x4 hx4 => ?_))
    refine ExL.pures 5 rfl ?_
    refine ExL.nil ?_
    refine Ex.seq ?_
    refine Ex.regSeq (ExL.pures 1 rfl ?_)
    refine ExL.neq rfl rfl rfl rfl rfl rfl (fun h5 => ?_) (fun h5 => ?_)
    · refine ExL.nil ?_
      refine Ex.cond_t rfl ?_
      refine Ex.regSeq (ExL.pures 4 rfl ?_)
      refine ExL.nil ?_
      refine Ex.nilRow 69 11 ?_
      refine Ex.ret ?_
      refine MutQ.mk (k + 1, k, (A2, c2), (none, 0)) rfl (.tmp rfl (.tmp rfl (.tmp rfl .nil))) (t3 (by first | (exfalso; omega) | (rw [nr_code (k := k) hkl hrc (by assumption)]; first | done | rfl) | (rw [nr_over (k := k) (by omega) (by omega) hrc (by assumption)]; first | done | rfl) | (rw [nr_ok (k := k) (by omega) (by omega) hrc (by assumption)]; first | done | rfl)) (by first | (exfalso; omega) | (rw [nr_code (k := k) hkl hrc (by assumption)]; first | done | rfl) | (rw [nr_over (k := k) (by omega) (by omega) hrc (by assumption)]; first | done | rfl) | (rw [nr_ok (k := k) (by omega) (by omega) hrc (by assumption)]; first | done | rfl)) (by first | (exfalso; omega) | (rw [nr_code (k := k) hkl hrc (by assumption)]; first | done | rfl) | (rw [nr_over (k := k) (by omega) (by omega) hrc (by assumption)]; first | done | rfl) | (rw [nr_ok (k := k) (by omega) (by omega) hrc (by assumption)]; first | done | rfl))) 7 [1, 2, 4, 5, 0] (by first | (rw [show runD d l (k + 1) = (doV (runD d l k) (l.getD k zA)).1 from rfl, do_stack]; first | (rw [nr_code (k := k) hkl hrc (by assumption)]; first | done | rfl)) | (rw [nr_code (k := k) hkl hrc (by assumption)]; first | done | rfl) | (rw [nr_over (k := k) (by omega) (by omega) hrc (by assumption)]; first | done | rfl) | (rw [nr_ok (k := k) (by omega) (by omega) hrc (by assumption)]; first | done | rfl)) rfl (by first | (intro h; rw [rc_hit hkl hrc (by assumption)] at h; exact absurd h (by assumption)) | exact fun _ => ⟨show k = l.length by omega, show k = l.length by omega⟩)
    · refine ExL.nil ?_
      refine Ex.cond_f rfl ?_
      refine Ex.skip ?_
      refine Ex.regSeq (ExL.pures 2 rfl ?_)
      refine ExL.free (by first | exact fr_add64 rfl rfl rfl (by omega) | exact fr_add rfl rfl rfl) rfl rfl rfl ?_
      refine ExL.pures 1 rfl ?_
      refine ExL.nil ?_
      refine Ex.drawSeqI [0, 1, 2, 3, 4] rfl rfl ?_
      refine ExD.take (i := 0) rfl (by kernel_rfl) (pureVal_ok rfl) ((List.Sublist.cons_cons _ (List.Sublist.cons_cons _ (List.Sublist.cons_cons _ (List.Sublist.cons_cons _ (List.Sublist.cons_cons _ (List.nil_sublist _))))))) rfl rfl rfl ?_
      refine ExD.take (i := 1) rfl (by kernel_rfl) (fr_loadN rfl rfl rfl rfl rfl (SegO.whole (i := 2) rfl)) ((List.Sublist.cons_cons _ (List.Sublist.cons_cons _ (List.Sublist.cons_cons _ (List.Sublist.cons_cons _ (List.Sublist.cons_cons _ (List.nil_sublist _))))))) rfl rfl rfl ?_
      refine ExD.take (i := 2) rfl (by kernel_rfl) (pureVal_ok rfl) ((List.Sublist.cons_cons _ (List.Sublist.cons_cons _ (List.Sublist.cons_cons _ (List.Sublist.cons_cons _ (List.Sublist.cons_cons _ (List.nil_sublist _))))))) rfl rfl rfl ?_
      refine ExD.take (i := 3) rfl (by kernel_rfl) (pureVal_ok rfl) ((List.Sublist.cons_cons _ (List.Sublist.cons_cons _ (List.Sublist.cons_cons _ (List.Sublist.cons_cons _ (List.Sublist.cons_cons _ (List.nil_sublist _))))))) rfl rfl rfl ?_
      refine ExD.take (i := 4) rfl (by kernel_rfl) (pureVal_ok rfl) ((List.Sublist.cons_cons _ (List.Sublist.cons_cons _ (List.Sublist.cons_cons _ (List.Sublist.cons_cons _ (List.Sublist.cons_cons _ (List.nil_sublist _))))))) rfl rfl rfl ?_
      refine ExD.take (i := 5) rfl (by kernel_rfl) (fr_loadN rfl rfl rfl rfl rfl (SegO.part (i := 0) 8 rfl)) ((List.Sublist.cons_cons _ (List.Sublist.cons_cons _ (List.Sublist.cons_cons _ (List.Sublist.cons_cons _ (List.Sublist.cons_cons _ (List.nil_sublist _))))))) rfl rfl rfl ?_
      refine ExD.take (i := 6) rfl (by kernel_rfl) (pureVal_ok rfl) ((List.Sublist.cons_cons _ (List.Sublist.cons_cons _ (List.Sublist.cons_cons _ (List.Sublist.cons_cons _ (List.Sublist.cons_cons _ (List.nil_sublist _))))))) rfl rfl rfl ?_
      refine ExD.take (i := 7) rfl (by kernel_rfl) (fr_build (cells := encN ⟨l.getD k zA, (doV (runD d l k) (l.getD k zA)).1.shows, (doV (runD d l k) (l.getD k zA)).2.1⟩) rfl rfl rfl (by kernel_rfl)) ((List.Sublist.cons_cons _ (List.Sublist.cons_cons _ (List.Sublist.cons_cons _ (List.Sublist.cons_cons _ (List.Sublist.cons_cons _ (List.nil_sublist _))))))) rfl rfl rfl ?_
      refine ExD.op (i := 8) rfl (by kernel_rfl) rfl (op_buildSlice (sz := 11) rfl rfl rfl rfl rfl rfl rfl rfl (by decide) rfl rfl rfl (fun r6 => ⟨(List.Sublist.cons _ (List.Sublist.cons_cons _ (List.Sublist.cons_cons _ (List.Sublist.cons_cons _ (List.Sublist.cons_cons _ (List.Sublist.cons_cons _ (List.nil_sublist _))))))), ?_⟩))
      refine ExD.op (i := 9) rfl (by kernel_rfl) rfl (op_append (sz := 11) (bytes := 32) (i := 6) rfl rfl rfl rfl (Reads.row (i := 0) rfl) rfl (fun e => nomatch e) rfl rfl rfl rfl (by constructor <;> first | omega | (unfold maxLen; omega)) rfl rfl (fun A7 cA7 => ⟨(List.Sublist.cons _ (List.Sublist.cons_cons _ (List.Sublist.cons_cons _ (List.Sublist.cons_cons _ (List.Sublist.cons_cons _ (List.Sublist.cons_cons _ (List.nil_sublist _))))))), ?_⟩))
      refine ExD.take (i := 10) rfl (by kernel_rfl) (pureVal_ok rfl) ((List.Sublist.cons _ (List.Sublist.cons_cons _ (List.Sublist.cons_cons _ (List.Sublist.cons_cons _ (List.Sublist.cons_cons _ (List.Sublist.cons_cons _ (List.nil_sublist _)))))))) rfl rfl rfl ?_
      refine ExD.done (by kernel_rfl) ?_
      refine Ex.regSeq (ExL.pures 1 rfl ?_)
      refine ExL.free (fr_load rfl rfl rfl rfl (CellO.blk (i := 3) rfl rfl)) rfl rfl rfl ?_
      refine ExL.eql rfl rfl rfl rfl rfl rfl (fun h9 => ?_) (fun h9 => ?_)
      · refine ExL.nil ?_
        refine Ex.cond_t rfl ?_
        refine Ex.region (ExL.pures 2 rfl ?_)
        refine ExL.op rfl (op_ret rfl rfl rfl (c_ticket ((doV (runD d l k) (l.getD k zA)).1) (by first | assumption | exact (da_dev hk (by first | assumption | exact not_not_intro (by assumption))).1) (by first | assumption | exact (da_dev hk (by first | assumption | exact not_not_intro (by assumption))).2) _ _ _) (fun w hw => Reads.get (Reads.blk (i := 1) rfl) w hw) rfl rfl (fun x10 hx10 => ?_))
        refine ExL.op rfl (op_mut rfl rfl rfl (c_plays (ticsL d l k) (by omega) _ _ _ (ticV ((doV (runD d l k) (l.getD k zA)).1))) (perm_lt (i := 4) (j := 5) rfl rfl rfl) (trivial) rfl rfl (fun x11 hx11 => ?_))
        refine ExL.nil ?_
        refine Ex.region (ExL.pures 0 rfl ?_)
        refine ExL.free (by first | exact fr_add64 rfl rfl rfl (by omega) | exact fr_add rfl rfl rfl) rfl rfl rfl ?_
        refine ExL.pures 1 rfl ?_
        refine ExL.nil ?_
        refine HandB.of (k + 1) (A7) (cA7) (x11.1) (x11.2) 7 [3, 4, 0, 1, 6] ⟨(by rw [notesL, List.length_append]; rfl), rfl, rfl, trivial⟩ ⟨rfl, rfl, rfl, rfl, trivial⟩ (by first | (rw [show runD d l (k + 1) = (doV (runD d l k) (l.getD k zA)).1 from rfl, do_stack, notesL, tl_5 (by assumption)]; simp only [List.length_append, List.flatMap_append]; rfl) | (rw [show runD d l (k + 1) = (doV (runD d l k) (l.getD k zA)).1 from rfl, do_stack, notesL, tl_n (by assumption)]; simp only [List.length_append, List.flatMap_append]; rfl)) rfl (⟨by omega, by rw [rc_go hrc]; first | assumption | omega⟩) (by omega)
      · refine ExL.nil ?_
        refine Ex.cond_f rfl ?_
        refine Ex.skip ?_
        refine Ex.region (ExL.pures 0 rfl ?_)
        refine ExL.free (by first | exact fr_add64 rfl rfl rfl (by omega) | exact fr_add rfl rfl rfl) rfl rfl rfl ?_
        refine ExL.pures 1 rfl ?_
        refine ExL.nil ?_
        refine HandB.of (k + 1) (A7) (cA7) (A2) (c2) 7 [1, 2, 4, 5, 6] ⟨(by rw [notesL, List.length_append]; rfl), rfl, rfl, trivial⟩ ⟨rfl, rfl, rfl, rfl, trivial⟩ (by first | (rw [show runD d l (k + 1) = (doV (runD d l k) (l.getD k zA)).1 from rfl, do_stack, notesL, tl_5 (by assumption)]; simp only [List.length_append, List.flatMap_append]; rfl) | (rw [show runD d l (k + 1) = (doV (runD d l k) (l.getD k zA)).1 from rfl, do_stack, notesL, tl_n (by assumption)]; simp only [List.length_append, List.flatMap_append]; rfl)) rfl (⟨by omega, by rw [rc_go hrc]; first | assumption | omega⟩) (by omega)
  · refine ExL.nil ?_
    refine Ex.seq ?_
    refine Ex.cond_f rfl ?_
    refine Ex.exit ?_
    refine Ex.seq ?_
    refine Ex.regSeq (ExL.pures 1 rfl ?_)
    refine ExL.gtr rfl rfl rfl rfl rfl rfl (fun h12 => ?_) (fun h12 => ?_)
    · refine ExL.nil ?_
      refine Ex.cond_t rfl ?_
      refine Ex.regSeq (ExL.pures 3 rfl ?_)
      refine ExL.nil ?_
      refine Ex.nilRow 69 11 ?_
      refine Ex.ret ?_
      refine MutQ.mk (k, k, (A2, c2), (none, 0)) rfl (.tmp rfl (.tmp rfl (.tmp rfl .nil))) (t3 (by first | (exfalso; omega) | (rw [nr_code (k := k) hkl hrc (by assumption)]; first | done | rfl) | (rw [nr_over (k := k) (by omega) (by omega) hrc (by assumption)]; first | done | rfl) | (rw [nr_ok (k := k) (by omega) (by omega) hrc (by assumption)]; first | done | rfl)) (by first | (exfalso; omega) | (rw [nr_code (k := k) hkl hrc (by assumption)]; first | done | rfl) | (rw [nr_over (k := k) (by omega) (by omega) hrc (by assumption)]; first | done | rfl) | (rw [nr_ok (k := k) (by omega) (by omega) hrc (by assumption)]; first | done | rfl)) (by first | (exfalso; omega) | (rw [nr_code (k := k) hkl hrc (by assumption)]; first | done | rfl) | (rw [nr_over (k := k) (by omega) (by omega) hrc (by assumption)]; first | done | rfl) | (rw [nr_ok (k := k) (by omega) (by omega) hrc (by assumption)]; first | done | rfl))) 6 [1, 2, 3, 4, 0] (by first | (rw [show runD d l (k + 1) = (doV (runD d l k) (l.getD k zA)).1 from rfl, do_stack]; first | (rw [nr_code (k := k) hkl hrc (by assumption)]; first | done | rfl)) | (rw [nr_code (k := k) hkl hrc (by assumption)]; first | done | rfl) | (rw [nr_over (k := k) (by omega) (by omega) hrc (by assumption)]; first | done | rfl) | (rw [nr_ok (k := k) (by omega) (by omega) hrc (by assumption)]; first | done | rfl)) rfl (by first | (intro h; rw [rc_hit hkl hrc (by assumption)] at h; exact absurd h (by assumption)) | exact fun _ => ⟨show k = l.length by omega, show k = l.length by omega⟩)
    · refine ExL.nil ?_
      refine Ex.cond_f rfl ?_
      refine Ex.skip ?_
      refine Ex.regSeq (ExL.pures 5 rfl ?_)
      refine ExL.nil ?_
      refine Ex.ret ?_
      refine MutQ.mk (k, k, (A2, c2), (A, c)) rfl (.tmp rfl (.tmp rfl (.tmp rfl .nil))) (t3 (by first | (exfalso; omega) | (rw [nr_code (k := k) hkl hrc (by assumption)]; first | done | rfl) | (rw [nr_over (k := k) (by omega) (by omega) hrc (by assumption)]; first | done | rfl) | (rw [nr_ok (k := k) (by omega) (by omega) hrc (by assumption)]; first | done | rfl)) (by first | (exfalso; omega) | (rw [nr_code (k := k) hkl hrc (by assumption)]; first | done | rfl) | (rw [nr_over (k := k) (by omega) (by omega) hrc (by assumption)]; first | done | rfl) | (rw [nr_ok (k := k) (by omega) (by omega) hrc (by assumption)]; first | done | rfl)) (by first | (exfalso; omega) | (rw [nr_code (k := k) hkl hrc (by assumption)]; first | done | rfl) | (rw [nr_over (k := k) (by omega) (by omega) hrc (by assumption)]; first | done | rfl) | (rw [nr_ok (k := k) (by omega) (by omega) hrc (by assumption)]; first | done | rfl))) 5 [0, 1, 2, 3, 4] (by first | (rw [show runD d l (k + 1) = (doV (runD d l k) (l.getD k zA)).1 from rfl, do_stack]; first | (rw [nr_code (k := k) hkl hrc (by assumption)]; first | done | rfl)) | (rw [nr_code (k := k) hkl hrc (by assumption)]; first | done | rfl) | (rw [nr_over (k := k) (by omega) (by omega) hrc (by assumption)]; first | done | rfl) | (rw [nr_ok (k := k) (by omega) (by omega) hrc (by assumption)]; first | done | rfl)) rfl (by first | (intro h; rw [rc_hit hkl hrc (by assumption)] at h; exact absurd h (by assumption)) | exact fun _ => ⟨show k = l.length by omega, show k = l.length by omega⟩)
end Go.Proofs.YthabjnhfhmbamaaGreatDoor

/- What these functions of the program hand back, each proved by walking its operations. -/
set_option linter.unusedVariables false
set_option linter.unusedSimpArgs false
set_option maxRecDepth 4000
namespace Go.Proofs.YthabjnhfhmbamaaGreatDoor
open Go Go.Sx Go.RowKit Go.W Go.Proofs
attribute [local irreducible] Ex ExL ExD Op1 Free RetQ MutQ Reads CellO SegO LoadsAs
theorem e_30 : Enters Tryz.prog 30 := Enters.of Tryz.func30 rfl
theorem c_played (d : VDev) (hk : OkDev d) (Ad : Option Addr) (cd : Nat) (hdl : d.stack.length ≤ 1048576) (l : List VAct) (Al : Option Addr) (cl : Nat) (hll : l.length ≤ maxLen) : Ret Tryz.prog 30 [.agg (encV Ad cd d).toArray, .slice Al l.length cl] (fun w => Rd w Ad (d.stack.flatMap (eI .u8)) ∧ Rd w Al (l.flatMap encA)) (fun x : (Option Addr × Nat) × (Option Addr × Nat) × (Option Addr × Nat) => .tuple #[.agg (encV x.1.1 x.1.2 (runV d l).1).toArray, .slice x.2.1.1 (runV d l).2.1.length x.2.1.2, .slice x.2.2.1 (runV d l).2.2.1.length x.2.2.2, .int .i64 (runV d l).2.2.2.1, .int .i64 (runV d l).2.2.2.2]) (fun x => [.row (.slice x.1.1 (runV d l).1.stack.length x.1.2) 5 1 (runV d l).1.stack.length ((runV d l).1.stack.flatMap (eI .u8)), .row (.slice x.2.1.1 (runV d l).2.1.length x.2.1.2) 69 11 (runV d l).2.1.length ((runV d l).2.1.flatMap encN), .row (.slice x.2.2.1 (runV d l).2.2.1.length x.2.2.2) 107 10 (runV d l).2.2.1.length ((runV d l).2.2.1.flatMap encT)]) (fun x => True) := by
  refine Ret.of e_30 Tryz.func30 rfl Tryz.ntmps30 rfl rfl (fun w hpre => ?_)
  have hd := hpre.1.base
  have hl := hpre.2.base
  have hm0 : maxLen = 9223372036854775807 := rfl
  refine Ex.regSeq (ExL.pures 0 rfl ?_)
  refine ExL.op rfl (op_box rfl rfl rfl rfl rfl (fun b1 => ?_))
  refine ExL.op rfl (op_alloc rfl rfl rfl rfl rfl (fun b2 => ?_))
  refine ExL.pures 4 rfl ?_
  refine ExL.nil ?_
  refine Ex.seq ?_
  refine Ex.regSeq (ExL.pures 0 rfl ?_)
  refine ExL.free (fr_loadN rfl rfl rfl rfl rfl (SegO.whole (i := 1) rfl)) rfl rfl rfl ?_
  refine ExL.op rfl (op_ret rfl rfl rfl (c_iValidDevice d (by assumption) _ _) (Reads.get (Reads.old hd)) rfl rfl (fun x3 hx3 => ?_))
  refine ExL.pures 1 rfl ?_
  refine ExL.nil ?_
  refine Ex.cond rfl (fun hb4 => ?_) (fun hb4 => ?_)
  · replace hb4 := nb_t hb4
    refine Ex.regSeq (ExL.pures 0 rfl ?_)
    refine ExL.free (fr_build rfl rfl rfl rfl) rfl rfl rfl ?_
    refine ExL.op rfl (op_storeC (i := 0) rfl rfl rfl rfl rfl rfl rfl rfl rfl rfl ?_)
    refine ExL.pures 4 rfl ?_
    refine ExL.nil ?_
    refine Ex.nilRow 5 1 ?_
    refine Ex.nilRow 69 11 ?_
    refine Ex.nilRow 107 10 ?_
    refine Ex.ret ?_
    refine RetQ.mk ((none, 0), (none, 0), (none, 0)) rfl (.cell rfl (.many rfl rfl rfl (SegO.whole (i := 3) rfl)) (.tmp rfl (.tmp rfl (.tmp rfl (.tmp rfl .nil))))) (t5 (by first | (rw [rv_vd (by assumption)]; first | done | rfl) | (rw [rv_af (by assumption) (by assumption)]; first | done | rfl) | (rw [rv_nc (by assumption) (by first | assumption | exact not_not_intro (by assumption)) (by assumption)]; first | done | rfl) | (rw [rv_no (by assumption) (by first | assumption | exact not_not_intro (by assumption)) (by first | assumption | exact not_not_intro (by assumption)) (by assumption)]; first | done | rfl)) (by first | (rw [rv_vd (by assumption)]; first | done | rfl) | (rw [rv_af (by assumption) (by assumption)]; first | done | rfl) | (rw [rv_nc (by assumption) (by first | assumption | exact not_not_intro (by assumption)) (by assumption)]; first | done | rfl) | (rw [rv_no (by assumption) (by first | assumption | exact not_not_intro (by assumption)) (by first | assumption | exact not_not_intro (by assumption)) (by assumption)]; first | done | rfl)) (by first | (rw [rv_vd (by assumption)]; first | done | rfl) | (rw [rv_af (by assumption) (by assumption)]; first | done | rfl) | (rw [rv_nc (by assumption) (by first | assumption | exact not_not_intro (by assumption)) (by assumption)]; first | done | rfl) | (rw [rv_no (by assumption) (by first | assumption | exact not_not_intro (by assumption)) (by first | assumption | exact not_not_intro (by assumption)) (by assumption)]; first | done | rfl)) (by first | (rw [rv_vd (by assumption)]; first | done | rfl) | (rw [rv_af (by assumption) (by assumption)]; first | done | rfl) | (rw [rv_nc (by assumption) (by first | assumption | exact not_not_intro (by assumption)) (by assumption)]; first | done | rfl) | (rw [rv_no (by assumption) (by first | assumption | exact not_not_intro (by assumption)) (by first | assumption | exact not_not_intro (by assumption)) (by assumption)]; first | done | rfl)) (by first | (rw [rv_vd (by assumption)]; first | done | rfl) | (rw [rv_af (by assumption) (by assumption)]; first | done | rfl) | (rw [rv_nc (by assumption) (by first | assumption | exact not_not_intro (by assumption)) (by assumption)]; first | done | rfl) | (rw [rv_no (by assumption) (by first | assumption | exact not_not_intro (by assumption)) (by first | assumption | exact not_not_intro (by assumption)) (by assumption)]; first | done | rfl))) [2, 1, 0] (by first | (rw [rv_vd (by assumption)]; first | done | rfl) | (rw [rv_af (by assumption) (by assumption)]; first | done | rfl) | (rw [rv_nc (by assumption) (by first | assumption | exact not_not_intro (by assumption)) (by assumption)]; first | done | rfl) | (rw [rv_no (by assumption) (by first | assumption | exact not_not_intro (by assumption)) (by first | assumption | exact not_not_intro (by assumption)) (by assumption)]; first | done | rfl)) rfl (trivial)
  · replace hb4 := nb_f hb4
    refine Ex.skip ?_
    refine Ex.seq ?_
    refine Ex.regSeq (ExL.pures 1 rfl ?_)
    refine ExL.op rfl (op_ret rfl rfl rfl (c_actsFault l _ _ (by omega)) (Reads.get (Reads.old hl)) rfl rfl (fun x5 hx5 => ?_))
    refine ExL.pures 1 rfl ?_
    refine ExL.nil ?_
    refine Ex.regSeq (ExL.pures 1 rfl ?_)
    refine ExL.neq rfl rfl rfl rfl rfl rfl (fun h6 => ?_) (fun h6 => ?_)
    · refine ExL.nil ?_
      refine Ex.cond_t rfl ?_
      refine Ex.regSeq (ExL.pures 0 rfl ?_)
      refine ExL.free (fr_build rfl rfl rfl rfl) rfl rfl rfl ?_
      refine ExL.pures 1 rfl ?_
      refine ExL.op rfl (op_storeC (i := 0) rfl rfl rfl rfl rfl rfl rfl rfl rfl rfl ?_)
      refine ExL.pures 4 rfl ?_
      refine ExL.nil ?_
      refine Ex.nilRow 5 1 ?_
      refine Ex.nilRow 69 11 ?_
      refine Ex.nilRow 107 10 ?_
      refine Ex.ret ?_
      refine RetQ.mk ((none, 0), (none, 0), (none, 0)) rfl (.cell rfl (.many rfl rfl rfl (SegO.whole (i := 3) rfl)) (.tmp rfl (.tmp rfl (.tmp rfl (.tmp rfl .nil))))) (t5 (by first | (rw [rv_vd (by assumption)]; first | done | rfl) | (rw [rv_af (by assumption) (by assumption)]; first | done | rfl) | (rw [rv_nc (by assumption) (by first | assumption | exact not_not_intro (by assumption)) (by assumption)]; first | done | rfl) | (rw [rv_no (by assumption) (by first | assumption | exact not_not_intro (by assumption)) (by first | assumption | exact not_not_intro (by assumption)) (by assumption)]; first | done | rfl)) (by first | (rw [rv_vd (by assumption)]; first | done | rfl) | (rw [rv_af (by assumption) (by assumption)]; first | done | rfl) | (rw [rv_nc (by assumption) (by first | assumption | exact not_not_intro (by assumption)) (by assumption)]; first | done | rfl) | (rw [rv_no (by assumption) (by first | assumption | exact not_not_intro (by assumption)) (by first | assumption | exact not_not_intro (by assumption)) (by assumption)]; first | done | rfl)) (by first | (rw [rv_vd (by assumption)]; first | done | rfl) | (rw [rv_af (by assumption) (by assumption)]; first | done | rfl) | (rw [rv_nc (by assumption) (by first | assumption | exact not_not_intro (by assumption)) (by assumption)]; first | done | rfl) | (rw [rv_no (by assumption) (by first | assumption | exact not_not_intro (by assumption)) (by first | assumption | exact not_not_intro (by assumption)) (by assumption)]; first | done | rfl)) (by first | (rw [rv_vd (by assumption)]; first | done | rfl) | (rw [rv_af (by assumption) (by assumption)]; first | done | rfl) | (rw [rv_nc (by assumption) (by first | assumption | exact not_not_intro (by assumption)) (by assumption)]; first | done | rfl) | (rw [rv_no (by assumption) (by first | assumption | exact not_not_intro (by assumption)) (by first | assumption | exact not_not_intro (by assumption)) (by assumption)]; first | done | rfl)) (by first | (rw [rv_vd (by assumption)]; first | done | rfl) | (rw [rv_af (by assumption) (by assumption)]; first | done | rfl) | (rw [rv_nc (by assumption) (by first | assumption | exact not_not_intro (by assumption)) (by assumption)]; first | done | rfl) | (rw [rv_no (by assumption) (by first | assumption | exact not_not_intro (by assumption)) (by first | assumption | exact not_not_intro (by assumption)) (by assumption)]; first | done | rfl))) [2, 1, 0] (by first | (rw [rv_vd (by assumption)]; first | done | rfl) | (rw [rv_af (by assumption) (by assumption)]; first | done | rfl) | (rw [rv_nc (by assumption) (by first | assumption | exact not_not_intro (by assumption)) (by assumption)]; first | done | rfl) | (rw [rv_no (by assumption) (by first | assumption | exact not_not_intro (by assumption)) (by first | assumption | exact not_not_intro (by assumption)) (by assumption)]; first | done | rfl)) rfl (trivial)
    · refine ExL.nil ?_
      refine Ex.cond_f rfl ?_
      refine Ex.skip ?_
      refine Ex.regSeq (ExL.pures 0 rfl ?_)
      refine ExL.free (fr_loadN rfl rfl rfl rfl rfl (SegO.whole (i := 1) rfl)) rfl rfl rfl ?_
      refine ExL.op rfl (op_ret rfl rfl rfl (c_cloneDevice d _ _ (by omega)) (Reads.get (Reads.old hd)) rfl rfl (fun x7 hx7 => ?_))
      refine ExL.op rfl (op_buildSlice (sz := 10) rfl rfl rfl rfl rfl rfl rfl rfl (by decide) rfl rfl rfl (fun r8 => ?_))
      refine ExL.op rfl (op_alloc rfl rfl rfl rfl rfl (fun b9 => ?_))
      refine ExL.op rfl (op_alloc rfl rfl rfl rfl rfl (fun b10 => ?_))
      refine ExL.op rfl (op_storeC (i := 1) rfl rfl rfl rfl rfl rfl rfl rfl rfl rfl ?_)
      refine ExL.op rfl (op_storeC (i := 0) rfl rfl rfl rfl rfl rfl rfl rfl rfl rfl ?_)
      refine ExL.nil ?_
      refine Ex.regSeq (ExL.pures 1 rfl ?_)
      refine ExL.free (fr_makeFunc rfl rfl rfl) rfl rfl rfl ?_
      refine ExL.op rfl (op_mut rfl rfl rfl (c_notes d (by assumption) (by assumption) _ _ _ l (af_zero (by first | assumption | exact not_not_intro (by assumption))).1 (af_zero (by first | assumption | exact not_not_intro (by assumption))).2 _ _ _ _ _) (perm_4 1 2 0 0 rfl rfl rfl rfl) (hl) rfl rfl (fun x11 hx11 => ?_))
      refine ExL.pures 7 rfl ?_
      refine ExL.nil ?_
      refine Ex.seq ?_
      refine Ex.regSeq (ExL.pures 1 rfl ?_)
      refine ExL.neq rfl rfl rfl rfl rfl rfl (fun h12 => ?_) (fun h12 => ?_)
      · refine ExL.nil ?_
        refine Ex.cond_t rfl ?_
        refine Ex.regSeq (ExL.pures 0 rfl ?_)
        refine ExL.free (fr_build rfl rfl rfl rfl) rfl rfl rfl ?_
        refine ExL.pures 1 rfl ?_
        refine ExL.op rfl (op_storeC (i := 5) rfl rfl rfl rfl rfl rfl rfl rfl rfl rfl ?_)
        refine ExL.pures 4 rfl ?_
        refine ExL.nil ?_
        refine Ex.nilRow 5 1 ?_
        refine Ex.nilRow 69 11 ?_
        refine Ex.nilRow 107 10 ?_
        refine Ex.ret ?_
        refine RetQ.mk ((none, 0), (none, 0), (none, 0)) rfl (.cell rfl (.many rfl rfl rfl (SegO.whole (i := 8) rfl)) (.tmp rfl (.tmp rfl (.tmp rfl (.tmp rfl .nil))))) (t5 (by first | (rw [rv_vd (by assumption)]; first | done | rfl) | (rw [rv_af (by assumption) (by assumption)]; first | done | rfl) | (rw [rv_nc (by assumption) (by first | assumption | exact not_not_intro (by assumption)) (by assumption)]; first | done | rfl) | (rw [rv_no (by assumption) (by first | assumption | exact not_not_intro (by assumption)) (by first | assumption | exact not_not_intro (by assumption)) (by assumption)]; first | done | rfl)) (by first | (rw [rv_vd (by assumption)]; first | done | rfl) | (rw [rv_af (by assumption) (by assumption)]; first | done | rfl) | (rw [rv_nc (by assumption) (by first | assumption | exact not_not_intro (by assumption)) (by assumption)]; first | done | rfl) | (rw [rv_no (by assumption) (by first | assumption | exact not_not_intro (by assumption)) (by first | assumption | exact not_not_intro (by assumption)) (by assumption)]; first | done | rfl)) (by first | (rw [rv_vd (by assumption)]; first | done | rfl) | (rw [rv_af (by assumption) (by assumption)]; first | done | rfl) | (rw [rv_nc (by assumption) (by first | assumption | exact not_not_intro (by assumption)) (by assumption)]; first | done | rfl) | (rw [rv_no (by assumption) (by first | assumption | exact not_not_intro (by assumption)) (by first | assumption | exact not_not_intro (by assumption)) (by assumption)]; first | done | rfl)) (by first | (rw [rv_vd (by assumption)]; first | done | rfl) | (rw [rv_af (by assumption) (by assumption)]; first | done | rfl) | (rw [rv_nc (by assumption) (by first | assumption | exact not_not_intro (by assumption)) (by assumption)]; first | done | rfl) | (rw [rv_no (by assumption) (by first | assumption | exact not_not_intro (by assumption)) (by first | assumption | exact not_not_intro (by assumption)) (by assumption)]; first | done | rfl)) (by first | (rw [rv_vd (by assumption)]; first | done | rfl) | (rw [rv_af (by assumption) (by assumption)]; first | done | rfl) | (rw [rv_nc (by assumption) (by first | assumption | exact not_not_intro (by assumption)) (by assumption)]; first | done | rfl) | (rw [rv_no (by assumption) (by first | assumption | exact not_not_intro (by assumption)) (by first | assumption | exact not_not_intro (by assumption)) (by assumption)]; first | done | rfl))) [2, 1, 0] (by first | (rw [rv_vd (by assumption)]; first | done | rfl) | (rw [rv_af (by assumption) (by assumption)]; first | done | rfl) | (rw [rv_nc (by assumption) (by first | assumption | exact not_not_intro (by assumption)) (by assumption)]; first | done | rfl) | (rw [rv_no (by assumption) (by first | assumption | exact not_not_intro (by assumption)) (by first | assumption | exact not_not_intro (by assumption)) (by assumption)]; first | done | rfl)) rfl (trivial)
      · refine ExL.nil ?_
        refine Ex.cond_f rfl ?_
        refine Ex.skip ?_
        refine Ex.drawSeqI [0, 1, 2, 3, 4, 6] rfl rfl ?_
        refine ExD.take (i := 0) rfl (by kernel_rfl) (fr_loadN rfl rfl rfl rfl rfl (SegO.whole (i := 0) rfl)) ((List.Sublist.cons_cons _ (List.Sublist.cons_cons _ (List.Sublist.cons_cons _ (List.Sublist.cons_cons _ (List.Sublist.cons_cons _ (List.Sublist.cons _ (List.Sublist.refl _)))))))) rfl rfl rfl ?_
        refine ExD.take (i := 1) rfl (by kernel_rfl) (pureVal_ok rfl) ((List.Sublist.cons_cons _ (List.Sublist.cons_cons _ (List.Sublist.cons_cons _ (List.Sublist.cons_cons _ (List.Sublist.cons_cons _ (List.Sublist.cons _ (List.Sublist.refl _)))))))) rfl rfl rfl ?_
        refine ExD.take (i := 2) rfl (by kernel_rfl) (fr_load rfl rfl rfl rfl (CellO.blk (i := 2) rfl rfl)) ((List.Sublist.cons_cons _ (List.Sublist.cons_cons _ (List.Sublist.cons_cons _ (List.Sublist.cons_cons _ (List.Sublist.cons_cons _ (List.Sublist.cons _ (List.Sublist.refl _)))))))) rfl rfl rfl ?_
        refine ExD.take (i := 3) rfl (by kernel_rfl) (pureVal_ok rfl) ((List.Sublist.cons_cons _ (List.Sublist.cons_cons _ (List.Sublist.cons_cons _ (List.Sublist.cons_cons _ (List.Sublist.cons_cons _ (List.Sublist.cons _ (List.Sublist.refl _)))))))) rfl rfl rfl ?_
        refine ExD.op (i := 4) rfl (by kernel_rfl) rfl (op_storeC (i := 5) rfl rfl rfl rfl rfl rfl rfl rfl rfl rfl ⟨(List.Sublist.cons_cons _ (List.Sublist.cons_cons _ (List.Sublist.cons_cons _ (List.Sublist.cons_cons _ (List.Sublist.cons_cons _ (List.Sublist.cons _ (List.Sublist.refl _))))))), ?_⟩)
        refine ExD.take (i := 5) rfl (by kernel_rfl) (pureVal_ok rfl) ((List.Sublist.cons_cons _ (List.Sublist.cons_cons _ (List.Sublist.cons_cons _ (List.Sublist.cons_cons _ (List.Sublist.cons_cons _ (List.Sublist.cons _ (List.Sublist.refl _)))))))) rfl rfl rfl ?_
        refine ExD.take (i := 6) rfl (by kernel_rfl) (pureVal_ok rfl) ((List.Sublist.cons_cons _ (List.Sublist.cons_cons _ (List.Sublist.cons_cons _ (List.Sublist.cons_cons _ (List.Sublist.cons_cons _ (List.Sublist.cons _ (List.Sublist.refl _)))))))) rfl rfl rfl ?_
        refine ExD.take (i := 7) rfl (by kernel_rfl) (pureVal_ok rfl) ((List.Sublist.cons_cons _ (List.Sublist.cons_cons _ (List.Sublist.cons_cons _ (List.Sublist.cons_cons _ (List.Sublist.cons_cons _ (List.Sublist.cons _ (List.Sublist.refl _)))))))) rfl rfl rfl ?_
        refine ExD.take (i := 8) rfl (by kernel_rfl) (pureVal_ok rfl) ((List.Sublist.cons_cons _ (List.Sublist.cons_cons _ (List.Sublist.cons_cons _ (List.Sublist.cons_cons _ (List.Sublist.cons_cons _ (List.Sublist.cons _ (List.Sublist.refl _)))))))) rfl rfl rfl ?_
        refine ExD.done (by kernel_rfl) ?_
        refine Ex.ret ?_
        refine RetQ.mk ((x7.1, x7.2), (x11.2.2.2.1, x11.2.2.2.2), (x11.2.2.1.1, x11.2.2.1.2)) rfl (.cell rfl (.many rfl rfl rfl (SegO.whole (i := 5) rfl)) (.tmp rfl (.tmp rfl (.tmp rfl (.tmp rfl .nil))))) (t5 (by first | (rw [rv_vd (by assumption)]; first | done | rfl) | (rw [rv_af (by assumption) (by assumption)]; first | done | rfl) | (rw [rv_nc (by assumption) (by first | assumption | exact not_not_intro (by assumption)) (by assumption)]; first | done | rfl) | (rw [rv_no (by assumption) (by first | assumption | exact not_not_intro (by assumption)) (by first | assumption | exact not_not_intro (by assumption)) (by assumption)]; first | done | rfl)) (by first | (rw [rv_vd (by assumption)]; first | done | rfl) | (rw [rv_af (by assumption) (by assumption)]; first | done | rfl) | (rw [rv_nc (by assumption) (by first | assumption | exact not_not_intro (by assumption)) (by assumption)]; first | done | rfl) | (rw [rv_no (by assumption) (by first | assumption | exact not_not_intro (by assumption)) (by first | assumption | exact not_not_intro (by assumption)) (by assumption)]; first | done | rfl)) (by first | (rw [rv_vd (by assumption)]; first | done | rfl) | (rw [rv_af (by assumption) (by assumption)]; first | done | rfl) | (rw [rv_nc (by assumption) (by first | assumption | exact not_not_intro (by assumption)) (by assumption)]; first | done | rfl) | (rw [rv_no (by assumption) (by first | assumption | exact not_not_intro (by assumption)) (by first | assumption | exact not_not_intro (by assumption)) (by assumption)]; first | done | rfl)) (by first | (rw [rv_vd (by assumption)]; first | done | rfl) | (rw [rv_af (by assumption) (by assumption)]; first | done | rfl) | (rw [rv_nc (by assumption) (by first | assumption | exact not_not_intro (by assumption)) (by assumption)]; first | done | rfl) | (rw [rv_no (by assumption) (by first | assumption | exact not_not_intro (by assumption)) (by first | assumption | exact not_not_intro (by assumption)) (by assumption)]; first | done | rfl)) (by first | (rw [rv_vd (by assumption)]; first | done | rfl) | (rw [rv_af (by assumption) (by assumption)]; first | done | rfl) | (rw [rv_nc (by assumption) (by first | assumption | exact not_not_intro (by assumption)) (by assumption)]; first | done | rfl) | (rw [rv_no (by assumption) (by first | assumption | exact not_not_intro (by assumption)) (by first | assumption | exact not_not_intro (by assumption)) (by assumption)]; first | done | rfl))) [1, 4, 3] (by first | (rw [rv_vd (by assumption)]; first | done | rfl) | (rw [rv_af (by assumption) (by assumption)]; first | done | rfl) | (rw [rv_nc (by assumption) (by first | assumption | exact not_not_intro (by assumption)) (by assumption)]; first | done | rfl) | (rw [rv_no (by assumption) (by first | assumption | exact not_not_intro (by assumption)) (by first | assumption | exact not_not_intro (by assumption)) (by assumption)]; first | done | rfl)) rfl (trivial)
end Go.Proofs.YthabjnhfhmbamaaGreatDoor

/- What these functions of the program hand back, each proved by walking its operations. -/
set_option linter.unusedVariables false
set_option linter.unusedSimpArgs false
set_option maxRecDepth 4000
namespace Go.Proofs.YthabjnhfhmbamaaGreatDoor
open Go Go.Sx Go.RowKit Go.W Go.Proofs
attribute [local irreducible] Ex ExL ExD Op1 Free RetQ MutQ Reads CellO SegO LoadsAs
theorem e_7 : Enters Tryz.prog 7 := Enters.of Tryz.func7 rfl
theorem c_iDoActs (d : VDev) (hk : OkDev d) (Ad : Option Addr) (cd : Nat) (hAd : Ad = none → cd = 0) (hdl : d.stack.length ≤ 1048576) (l : List VAct) (Al : Option Addr) (cl : Nat) (hll : l.length ≤ maxLen) : Ret Tryz.prog 7 [.agg (encV Ad cd d).toArray, .slice Al l.length cl] (fun w => Rd w Ad (d.stack.flatMap (eI .u8)) ∧ Rd w Al (l.flatMap encA)) (fun x : Option Addr × Nat => .tuple #[.agg (encV x.1 x.2 (runV d l).1).toArray, .int .i64 (runV d l).2.2.2.1, .int .i64 (runV d l).2.2.2.2]) (fun x => [.row (.slice x.1 (runV d l).1.stack.length x.2) 5 1 (runV d l).1.stack.length ((runV d l).1.stack.flatMap (eI .u8))]) (fun x => True) := by
  refine Ret.of e_7 Tryz.func7 rfl Tryz.ntmps7 rfl rfl (fun w hpre => ?_)
  have hd := hpre.1.base
  have hl := hpre.2.base
  have hN := run_notes (l := l) hk
  have hm0 : maxLen = 9223372036854775807 := rfl
  refine Ex.regSeq (ExL.pures 0 rfl ?_)
  refine ExL.op rfl (op_box rfl rfl rfl rfl rfl (fun b1 => ?_))
  refine ExL.op rfl (op_alloc rfl rfl rfl rfl rfl (fun b2 => ?_))
  refine ExL.pures 2 rfl ?_
  refine ExL.nil ?_
  refine Ex.regSeq (ExL.pures 0 rfl ?_)
  refine ExL.free (fr_loadN rfl rfl rfl rfl rfl (SegO.whole (i := 1) rfl)) rfl rfl rfl ?_
  refine ExL.pures 1 rfl ?_
  refine ExL.op rfl (op_ret rfl rfl rfl (c_played d (by assumption) _ _ (by omega) l _ _ (by omega)) (fun w hw => ⟨Reads.get (Reads.old hd) w hw, Reads.get (Reads.old hl) w hw⟩) rfl rfl (fun x3 hx3 => ?_))
  refine ExL.pures 6 rfl ?_
  refine ExL.op rfl (op_alloc rfl rfl rfl rfl rfl (fun b4 => ?_))
  refine ExL.op rfl (op_storeC (i := 0) rfl rfl rfl rfl rfl rfl rfl rfl rfl rfl ?_)
  refine ExL.pures 4 rfl ?_
  refine ExL.nil ?_
  refine Ex.regSeq (ExL.pures 0 rfl ?_)
  refine ExL.free (fr_loadN rfl rfl rfl rfl rfl (SegO.whole (i := 0) rfl)) rfl rfl rfl ?_
  refine ExL.pures 2 rfl ?_
  refine ExL.op rfl (op_storeC (i := 4) rfl rfl rfl rfl rfl rfl rfl rfl rfl rfl ?_)
  refine ExL.pures 2 rfl ?_
  refine ExL.nil ?_
  refine Ex.ret ?_
  refine RetQ.mk (x3.1.1, x3.1.2) rfl (.cell rfl (.many rfl rfl rfl (SegO.whole (i := 4) rfl)) (.tmp rfl (.tmp rfl .nil))) (rfl) [1] (rfl) rfl (trivial)
theorem e_8 : Enters Tryz.prog 8 := Enters.of Tryz.func8 rfl
theorem c_sDoActs (d : VDev) (hk : OkDev d) (Ad : Option Addr) (cd : Nat) (hAd : Ad = none → cd = 0) (hdl : d.stack.length ≤ 1048576) (l : List VAct) (Al : Option Addr) (cl : Nat) (hll : l.length ≤ maxLen) : Ret Tryz.prog 8 [.agg (encV Ad cd d).toArray, .slice Al l.length cl] (fun w => Rd w Ad (d.stack.flatMap (eI .u8)) ∧ Rd w Al (l.flatMap encA)) (fun x : Option Addr × Nat => .tuple #[.agg (encV x.1 x.2 (runV d l).1).toArray, .int .i64 (runV d l).2.2.2.1, .int .i64 (runV d l).2.2.2.2]) (fun x => [.row (.slice x.1 (runV d l).1.stack.length x.2) 5 1 (runV d l).1.stack.length ((runV d l).1.stack.flatMap (eI .u8))]) (fun x => True) := by
  refine Ret.of e_8 Tryz.func8 rfl Tryz.ntmps8 rfl rfl (fun w hpre => ?_)
  have hd := hpre.1.base
  have hl := hpre.2.base
  have hN := run_notes (l := l) hk
  have hm0 : maxLen = 9223372036854775807 := rfl
  refine Ex.regSeq (ExL.pures 0 rfl ?_)
  refine ExL.op rfl (op_box rfl rfl rfl rfl rfl (fun b1 => ?_))
  refine ExL.op rfl (op_alloc rfl rfl rfl rfl rfl (fun b2 => ?_))
  refine ExL.pures 2 rfl ?_
  refine ExL.nil ?_
  refine Ex.regSeq (ExL.pures 1 rfl ?_)
  refine ExL.op rfl (op_ret rfl rfl rfl (c_l07Run d (by assumption) _ _ _ (by first | assumption | exact (fun e => nomatch e)) (by omega) l _ _ (by first | omega | (simp; omega))) (fun w hw => ⟨Reads.get (Reads.blk (i := 1) rfl) w hw, Reads.get (Reads.old hd) w hw, Reads.get (Reads.old hl) w hw⟩) rfl rfl (fun x3 hx3 => ?_))
  refine ExL.pures 5 rfl ?_
  refine ExL.op rfl (op_alloc rfl rfl rfl rfl rfl (fun b4 => ?_))
  refine ExL.op rfl (op_storeC (i := 0) rfl rfl rfl rfl rfl rfl rfl rfl rfl rfl ?_)
  refine ExL.pures 3 rfl ?_
  refine ExL.nil ?_
  refine Ex.regSeq (ExL.pures 1 rfl ?_)
  refine ExL.nil ?_
  refine Ex.seq ?_
  refine Ex.regSeq (ExL.pures 1 rfl ?_)
  refine ExL.nil ?_
  refine Ex.block ?_
  refine Ex.loopK (X := Nat) (fun k => [(11, .int .i64 (sumN (runV d l).2.1 k)), (12, .int .i64 k)]) (fun k => []) (fun k => k ≤ (runV d l).2.1.length) (fun k => (runV d l).2.1.length - k) 0 [(4, _), (5, _), (6, _), (7, _), (8, _), (10, _)] [_, _, _, _] 6 [0, 1, 2, 4] ⟨rfl, rfl, trivial⟩ ⟨rfl, rfl, rfl, rfl, rfl, rfl, trivial⟩ (rfl) rfl (Nat.zero_le _) (fun k hI => ?_)
  have hI : k ≤ (runV d l).2.1.length := hI
  obtain ⟨hn60, hns, hnb⟩ := hN
  refine Ex.seq ?_
  refine Ex.regSeq (ExL.pures 3 rfl ?_)
  refine ExL.lss rfl rfl rfl rfl rfl rfl (fun h5 => ?_) (fun h5 => ?_)
  · refine ExL.nil ?_
    refine Ex.cond_t rfl ?_
    refine Ex.skip ?_
    refine Ex.seq ?_
    refine Ex.block ?_
    have hkl : k < (runV d l).2.1.length := (by omega)
    have hb1 := hnb k (by omega)
    have hb2 := hnb (k + 1) (by omega)
    rw [sumN] at hb2
    refine Ex.region (ExL.pures 3 rfl ?_)
    refine ExL.free (fr_indexAddrR (sz := 11) 2 rfl rfl rfl rfl rfl rfl (by omega)) rfl rfl rfl ?_
    refine ExL.free (fr_fieldAddrR 2 rfl (by omega) rfl rfl rfl rfl rfl rfl) rfl rfl rfl ?_
    refine ExL.free (fr_load rfl rfl rfl rfl (by first | exact cellN (Reads.row (i := 2) rfl) encN_len zN 10 rfl (by omega) rfl | exact cellF (Reads.row (i := 2) rfl) encN_len zN 10 rfl (by omega) rfl)) rfl rfl rfl ?_
    refine ExL.free (by first | exact fr_add64 rfl rfl rfl (by omega) | exact fr_add rfl rfl rfl) rfl rfl rfl ?_
    refine ExL.pures 1 rfl ?_
    refine ExL.nil ?_
    refine Ex.region (ExL.pures 1 rfl ?_)
    refine ExL.free (by first | exact fr_add64 rfl rfl rfl (by omega) | exact fr_add rfl rfl rfl) rfl rfl rfl ?_
    refine ExL.pures 1 rfl ?_
    refine ExL.nil ?_
    refine Hand.mk (k + 1) 4 [0, 1, 2, 3] ⟨rfl, rfl, trivial⟩ ⟨rfl, rfl, rfl, rfl, rfl, rfl, trivial⟩ (rfl) rfl (by omega) (by omega)
  · refine ExL.nil ?_
    refine Ex.cond_f rfl ?_
    refine Ex.exit ?_
    have hkn : k = (runV d l).2.1.length := (by omega)
    refine Ex.regSeq (ExL.pures 0 rfl ?_)
    refine ExL.free (fr_loadN rfl rfl rfl rfl rfl (SegO.whole (i := 0) rfl)) rfl rfl rfl ?_
    refine ExL.pures 2 rfl ?_
    refine ExL.op rfl (op_storeC (i := 3) rfl rfl rfl rfl rfl rfl rfl rfl rfl rfl ?_)
    refine ExL.pures 2 rfl ?_
    refine ExL.nil ?_
    refine Ex.ret ?_
    refine RetQ.mk (x3.1.1, x3.1.2) rfl (.cell rfl (.many rfl rfl rfl (SegO.whole (i := 3) rfl)) (.tmp rfl (.tmp rfl .nil))) (t3 rfl (vI (by rw [hkn]; exact hns)) rfl) [1] (rfl) rfl (trivial)
end Go.Proofs.YthabjnhfhmbamaaGreatDoor

/- What these functions of the program hand back, each proved by walking its operations. -/
set_option linter.unusedVariables false
set_option linter.unusedSimpArgs false
set_option maxRecDepth 4000
namespace Go.Proofs.YthabjnhfhmbamaaGreatDoor
open Go Go.Sx Go.RowKit Go.W Go.Proofs
attribute [local irreducible] Ex ExL ExD Op1 Free RetQ MutQ Reads CellO SegO LoadsAs
end Go.Proofs.YthabjnhfhmbamaaGreatDoor

/- What these functions of the program hand back, each proved by walking its operations. -/
set_option linter.unusedVariables false
set_option linter.unusedSimpArgs false
set_option maxRecDepth 4000
namespace Go.Proofs.YthabjnhfhmbamaaGreatDoor
open Go Go.Sx Go.RowKit Go.W Go.Proofs
attribute [local irreducible] Ex ExL ExD Op1 Free RetQ MutQ Reads CellO SegO LoadsAs
end Go.Proofs.YthabjnhfhmbamaaGreatDoor
