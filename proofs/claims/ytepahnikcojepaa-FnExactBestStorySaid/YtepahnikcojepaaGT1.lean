/- What these functions of the program hand back, each proved by walking its operations. -/
import Derived.Test.YtepahnikcojepaaProg
import Derived.Test.YtepahnikcojepaaFw
import Derived.Test.YtepahnikcojepaaGT
set_option linter.unusedVariables false
set_option linter.unusedSimpArgs false
set_option maxRecDepth 4000
namespace Go.Proofs.Ytepahnikcojepaa
open Go Go.Sx Go.RowKit Go.W Go.Proofs
attribute [local irreducible] Ex ExL ExD Op1 Free RetQ MutQ Reads CellO SegO LoadsAs
theorem e_55 : Enters Try.prog 55 := Enters.of Try.func55 rfl
theorem c_l06Both (s : List VP) (As : Option Addr) (cs : Nat) (hls : s.length ≤ maxLen) (t : List VP) (At : Option Addr) (ct : Nat) (hlt : t.length ≤ maxLen) : Ret Try.prog 55 [.slice As s.length cs, .slice At t.length ct] (fun w => Rd w As (s.flatMap encP) ∧ Rd w At (t.flatMap encP)) (fun x : Unit => .tuple #[.int .i64 (bothV s t).1, .int .i64 (bothV s t).2.1, .int .i64 (bothV s t).2.2]) (fun x => []) (fun x => True) := by
  refine Ret.of e_55 Try.func55 rfl Try.ntmps55 rfl rfl (fun w hpre => ?_)
  have hs := hpre.1.base
  have ht := hpre.2.base
  have hm0 : maxLen = 9223372036854775807 := rfl
  refine Ex.regSeq (ExL.pures 3 rfl ?_)
  refine ExL.nil ?_
  refine Ex.seq ?_
  refine Ex.regSeq (ExL.pures 1 rfl ?_)
  refine ExL.op rfl (op_ret rfl rfl rfl (c_l06Totals s _ _ (by omega)) (Reads.get (Reads.old hs)) rfl rfl (fun x1 hx1 => ?_))
  refine ExL.pures 2 rfl ?_
  refine ExL.bool (d := 10) rfl (fun hb2 => ?_) (fun hb2 => ?_)
  · replace hb2 := nb_t hb2
    refine ExL.pures 4 rfl ?_
    refine ExL.nil ?_
    refine Ex.cond_t rfl ?_
    refine Ex.regSeq (ExL.pures 3 rfl ?_)
    refine ExL.nil ?_
    refine Ex.ret ?_
    refine RetQ.mk () rfl (.tmp rfl (.tmp rfl (.tmp rfl .nil))) (t3 (vI (by first | (rw [both_bad (by simp_all)]; first | done | rfl) | (rw [both_ok (by simp_all)]; first | done | rfl))) (vI (by first | (rw [both_bad (by simp_all)]; first | done | rfl) | (rw [both_ok (by simp_all)]; first | done | rfl))) (vI (by first | (rw [both_bad (by simp_all)]; first | done | rfl) | (rw [both_ok (by simp_all)]; first | done | rfl)))) [] (rfl) rfl (trivial)
  · replace hb2 := nb_f hb2
    refine ExL.pures 1 rfl ?_
    refine ExL.op rfl (op_ret rfl rfl rfl (c_l06Totals t _ _ (by omega)) (Reads.get (Reads.old ht)) rfl rfl (fun x3 hx3 => ?_))
    refine ExL.pures 2 rfl ?_
    refine ExL.nil ?_
    refine Ex.cond rfl (fun hb4 => ?_) (fun hb4 => ?_)
    · replace hb4 := nb_t hb4
      refine Ex.regSeq (ExL.pures 3 rfl ?_)
      refine ExL.nil ?_
      refine Ex.ret ?_
      refine RetQ.mk () rfl (.tmp rfl (.tmp rfl (.tmp rfl .nil))) (t3 (vI (by first | (rw [both_bad (by simp_all)]; first | done | rfl) | (rw [both_ok (by simp_all)]; first | done | rfl))) (vI (by first | (rw [both_bad (by simp_all)]; first | done | rfl) | (rw [both_ok (by simp_all)]; first | done | rfl))) (vI (by first | (rw [both_bad (by simp_all)]; first | done | rfl) | (rw [both_ok (by simp_all)]; first | done | rfl)))) [] (rfl) rfl (trivial)
    · replace hb4 := nb_f hb4
      refine Ex.skip ?_
      refine Ex.regSeq (ExL.pures 2 rfl ?_)
      refine ExL.op rfl (op_buildSlice (sz := 1) rfl rfl rfl rfl rfl rfl rfl rfl (by decide) rfl rfl rfl (fun r5 => ?_))
      refine ExL.op rfl (op_ret rfl rfl rfl (c_l06Common [⟨As, cs, s⟩, ⟨At, ct, t⟩] (tot2 (tot (by assumption)) (tot (by assumption))) _ _ (by first | omega | (simp; unfold maxLen; omega))) (fun w hw => ⟨Reads.get (Reads.row (i := 0) rfl) w hw, rd2 (Reads.get (Reads.old hs) w hw) (Reads.get (Reads.old ht) w hw)⟩) rfl rfl (fun x6 hx6 => ?_))
      refine ExL.pures 6 rfl ?_
      refine ExL.nil ?_
      refine Ex.ret ?_
      refine RetQ.mk () rfl (.tmp rfl (.tmp rfl (.tmp rfl .nil))) (t3 (vI (by first | (rw [both_bad (by simp_all)]; first | done | rfl) | (rw [both_ok (by simp_all)]; first | done | rfl))) (vI (by first | (rw [both_bad (by simp_all)]; first | done | rfl) | (rw [both_ok (by simp_all)]; first | done | rfl))) (vI (by first | (rw [both_bad (by simp_all)]; first | done | rfl) | (rw [both_ok (by simp_all)]; first | done | rfl)))) [] (rfl) rfl (trivial)
theorem e_78 : Enters Try.prog 78 := Enters.of Try.func78 rfl
theorem c_l06On (l : List VP) (hT : Tot l) (Al : Option Addr) (cl : Nat) (hll : l.length ≤ maxLen) (day : Int) : Ret Try.prog 78 [.slice Al l.length cl, .int .i64 day] (fun w => Rd w Al (l.flatMap encP)) (fun x : Unit => .tuple #[.int .i64 (onW l day).1, .bool (onW l day).2]) (fun x => []) (fun x => True) := by
  refine Ret.of e_78 Try.func78 rfl Try.ntmps78 rfl rfl (fun w hpre => ?_)
  have hl := hpre.base
  have hTl := hT.len
  have hm0 : maxLen = 9223372036854775807 := rfl
  refine Ex.regSeq (ExL.pures 2 rfl ?_)
  refine ExL.nil ?_
  refine Ex.regSeq (ExL.pures 3 rfl ?_)
  refine ExL.nil ?_
  refine Ex.seq ?_
  refine Ex.regSeq (ExL.pures 1 rfl ?_)
  refine ExL.eql rfl rfl rfl rfl rfl rfl (fun h1 => ?_) (fun h1 => ?_)
  · refine ExL.pures 18 rfl ?_
    refine ExL.nil ?_
    refine Ex.cond_t rfl ?_
    refine Ex.regSeq (ExL.pures 2 rfl ?_)
    refine ExL.nil ?_
    refine Ex.ret ?_
    refine RetQ.mk () rfl (.tmp rfl (.tmp rfl .nil)) (t2 (vI (by first | (rw [ow_n (by intro hc9; have h91 := hc9.1; have h92 := hc9.2.1; have h93 := hc9.2.2; omega)]; first | done | rfl) | (rw [ow_eq hT hc ho (by assumption)]; first | done | rfl) | (rw [ow_ne hT hc ho (by assumption)]; first | done | rfl))) (vB (by first | (rw [ow_n (by intro hc9; have h91 := hc9.1; have h92 := hc9.2.1; have h93 := hc9.2.2; omega)]; first | done | rfl) | (rw [ow_c hc]; first | done | rfl)))) [] (rfl) rfl (trivial)
  · refine ExL.pures 3 rfl ?_
    refine ExL.free (fr_indexAddrF (Reads.old hl) encP_len rfl rfl rfl rfl rfl rfl (by omega)) rfl rfl rfl ?_
    refine ExL.free (fr_fieldAddrF (i := (0 : Int).toNat) (Reads.old hl) encP_len rfl rfl rfl (by omega) rfl rfl rfl rfl) rfl rfl rfl ?_
    refine ExL.free (fr_load rfl rfl rfl rfl (cellJ (i := 0) (0) (Reads.old hl) encP_len zP 0 rfl (by omega) (by omega) rfl)) rfl rfl rfl ?_
    refine ExL.lss rfl rfl rfl rfl rfl rfl (fun h2 => ?_) (fun h2 => ?_)
    · refine ExL.pures 11 rfl ?_
      refine ExL.nil ?_
      refine Ex.cond_t rfl ?_
      refine Ex.regSeq (ExL.pures 2 rfl ?_)
      refine ExL.nil ?_
      refine Ex.ret ?_
      refine RetQ.mk () rfl (.tmp rfl (.tmp rfl .nil)) (t2 (vI (by first | (rw [ow_n (by intro hc9; have h91 := hc9.1; have h92 := hc9.2.1; have h93 := hc9.2.2; omega)]; first | done | rfl) | (rw [ow_eq hT hc ho (by assumption)]; first | done | rfl) | (rw [ow_ne hT hc ho (by assumption)]; first | done | rfl))) (vB (by first | (rw [ow_n (by intro hc9; have h91 := hc9.1; have h92 := hc9.2.1; have h93 := hc9.2.2; omega)]; first | done | rfl) | (rw [ow_c hc]; first | done | rfl)))) [] (rfl) rfl (trivial)
    · refine ExL.pures 5 rfl ?_
      refine ExL.free (by first | exact fr_sub64 rfl rfl rfl (by omega) | exact fr_sub rfl rfl rfl) rfl rfl rfl ?_
      refine ExL.free (fr_indexAddrF (Reads.old hl) encP_len rfl rfl rfl rfl rfl rfl (by omega)) rfl rfl rfl ?_
      refine ExL.free (fr_fieldAddrF (i := ((l.length - 1) : Int).toNat) (Reads.old hl) encP_len rfl rfl rfl (by omega) rfl rfl rfl rfl) rfl rfl rfl ?_
      refine ExL.free (fr_load rfl rfl rfl rfl (cellJ (i := (l.length - 1)) ((l.length - 1)) (Reads.old hl) encP_len zP 0 rfl (by omega) (by omega) rfl)) rfl rfl rfl ?_
      refine ExL.gtr rfl rfl rfl rfl rfl rfl (fun h3 => ?_) (fun h3 => ?_)
      · refine ExL.pures 1 rfl ?_
        refine ExL.nil ?_
        refine Ex.cond_t rfl ?_
        refine Ex.regSeq (ExL.pures 2 rfl ?_)
        refine ExL.nil ?_
        refine Ex.ret ?_
        refine RetQ.mk () rfl (.tmp rfl (.tmp rfl .nil)) (t2 (vI (by first | (rw [ow_n (by intro hc9; have h91 := hc9.1; have h92 := hc9.2.1; have h93 := hc9.2.2; omega)]; first | done | rfl) | (rw [ow_eq hT hc ho (by assumption)]; first | done | rfl) | (rw [ow_ne hT hc ho (by assumption)]; first | done | rfl))) (vB (by first | (rw [ow_n (by intro hc9; have h91 := hc9.1; have h92 := hc9.2.1; have h93 := hc9.2.2; omega)]; first | done | rfl) | (rw [ow_c hc]; first | done | rfl)))) [] (rfl) rfl (trivial)
      · refine ExL.pures 1 rfl ?_
        refine ExL.nil ?_
        refine Ex.cond_f rfl ?_
        refine Ex.skip ?_
        refine Ex.regSeq (ExL.pures 1 rfl ?_)
        refine ExL.nil ?_
        refine Ex.seq ?_
        refine Ex.block ?_
        have hc : Covers l day := ⟨by omega, by omega, by omega⟩
        have hc2 := hc.2.2
        refine Ex.loopK (X := Nat) (fun k => [(7, .int .i64 k)]) (fun k => []) (fun k => k < l.length ∧ (l.getD k zP).a ≤ day) (fun k => l.length - k) 0 [(0, _), (1, _), (4, _), (5, _), (6, _)] [] 0 [] ⟨rfl, trivial⟩ ⟨rfl, rfl, rfl, rfl, rfl, trivial⟩ (rfl) rfl ⟨by omega, by omega⟩ (fun k hI => ?_)
        have hI : k < l.length ∧ (l.getD k zP).a ≤ day := hI
        obtain ⟨hk, hle⟩ := hI
        refine Ex.seq ?_
        refine Ex.regSeq (ExL.pures 1 rfl ?_)
        refine ExL.free (by first | exact fr_add64 rfl rfl rfl (by omega) | exact fr_add rfl rfl rfl) rfl rfl rfl ?_
        refine ExL.pures 1 rfl ?_
        refine ExL.lss rfl rfl rfl rfl rfl rfl (fun h4 => ?_) (fun h4 => ?_)
        · refine ExL.pures 3 rfl ?_
          refine ExL.free (by first | exact fr_add64 rfl rfl rfl (by omega) | exact fr_add rfl rfl rfl) rfl rfl rfl ?_
          refine ExL.free (fr_indexAddrF (Reads.old hl) encP_len rfl rfl rfl rfl rfl rfl (by omega)) rfl rfl rfl ?_
          refine ExL.free (fr_fieldAddrF (i := ((↑k + 1) : Int).toNat) (Reads.old hl) encP_len rfl rfl rfl (by omega) rfl rfl rfl rfl) rfl rfl rfl ?_
          refine ExL.free (fr_load rfl rfl rfl rfl (cellJ (i := (↑k + 1)) ((k + 1)) (Reads.old hl) encP_len zP 0 rfl (by omega) (by omega) rfl)) rfl rfl rfl ?_
          refine ExL.pures 1 rfl ?_
          refine ExL.leq rfl rfl rfl rfl rfl rfl (fun h5 => ?_) (fun h5 => ?_)
          · refine ExL.pures 1 rfl ?_
            refine ExL.nil ?_
            refine Ex.cond_t rfl ?_
            refine Ex.skip ?_
            refine Ex.block ?_
            refine Ex.region (ExL.pures 1 rfl ?_)
            refine ExL.free (by first | exact fr_add64 rfl rfl rfl (by omega) | exact fr_add rfl rfl rfl) rfl rfl rfl ?_
            refine ExL.pures 1 rfl ?_
            refine ExL.nil ?_
            refine Hand.mk (k + 1) 0 [] ⟨rfl, trivial⟩ ⟨rfl, rfl, rfl, rfl, rfl, trivial⟩ (rfl) rfl (⟨by omega, by omega⟩) (by omega)
          · refine ExL.pures 1 rfl ?_
            refine ExL.nil ?_
            refine Ex.cond_f rfl ?_
            refine Ex.exit ?_
            have ho : OnAt l day k := ⟨by omega, by omega, fun h => by omega⟩
            have hcn := hT.cnt k (by omega)
            have hdy := hT.day k (by omega)
            refine Ex.seq ?_
            refine Ex.regSeq (ExL.pures 2 rfl ?_)
            refine ExL.free (fr_indexAddrF (Reads.old hl) encP_len rfl rfl rfl rfl rfl rfl (by omega)) rfl rfl rfl ?_
            refine ExL.free (fr_fieldAddrF (i := (↑k : Int).toNat) (Reads.old hl) encP_len rfl rfl rfl (by omega) rfl rfl rfl rfl) rfl rfl rfl ?_
            refine ExL.free (fr_load rfl rfl rfl rfl (by first | exact cellN (Reads.old hl) encP_len zP 0 rfl (by omega) rfl | exact cellF (Reads.old hl) encP_len zP 0 rfl (by omega) rfl)) rfl rfl rfl ?_
            refine ExL.pures 1 rfl ?_
            refine ExL.eql rfl rfl rfl rfl rfl rfl (fun h6 => ?_) (fun h6 => ?_)
            · refine ExL.nil ?_
              refine Ex.cond_t rfl ?_
              refine Ex.regSeq (ExL.pures 2 rfl ?_)
              refine ExL.free (fr_indexAddrF (Reads.old hl) encP_len rfl rfl rfl rfl rfl rfl (by omega)) rfl rfl rfl ?_
              refine ExL.free (fr_fieldAddrF (i := (↑k : Int).toNat) (Reads.old hl) encP_len rfl rfl rfl (by omega) rfl rfl rfl rfl) rfl rfl rfl ?_
              refine ExL.free (fr_load rfl rfl rfl rfl (by first | exact cellN (Reads.old hl) encP_len zP 1 rfl (by omega) rfl | exact cellF (Reads.old hl) encP_len zP 1 rfl (by omega) rfl)) rfl rfl rfl ?_
              refine ExL.pures 2 rfl ?_
              refine ExL.nil ?_
              refine Ex.ret ?_
              refine RetQ.mk () rfl (.tmp rfl (.tmp rfl .nil)) (t2 (vI (by first | (rw [ow_n (by intro hc9; have h91 := hc9.1; have h92 := hc9.2.1; have h93 := hc9.2.2; omega)]; first | done | rfl) | (rw [ow_eq hT hc ho (by assumption)]; first | done | rfl) | (rw [ow_ne hT hc ho (by assumption)]; first | done | rfl))) (vB (by first | (rw [ow_n (by intro hc9; have h91 := hc9.1; have h92 := hc9.2.1; have h93 := hc9.2.2; omega)]; first | done | rfl) | (rw [ow_c hc]; first | done | rfl)))) [] (rfl) rfl (trivial)
            · refine ExL.nil ?_
              refine Ex.cond_f rfl ?_
              refine Ex.skip ?_
              have hm := ho.more hT (by omega) (by assumption)
              have hb := ho.bd hT hm
              have hcn2 := hT.cnt (k + 1) hm
              have hdy2 := hT.day (k + 1) hm
              refine Ex.drawSeqM rfl ?_
              refine ExD.take (i := 0) rfl (by kernel_rfl) (pureVal_ok rfl) ((List.Sublist.refl _)) rfl rfl rfl ?_
              refine ExD.take (i := 1) rfl (by kernel_rfl) (pureVal_ok rfl) ((List.Sublist.refl _)) rfl rfl rfl ?_
              refine ExD.take (i := 2) rfl (by kernel_rfl) (by first | exact fr_add64 rfl rfl rfl (by omega) | exact fr_add rfl rfl rfl) ((List.Sublist.refl _)) rfl rfl rfl ?_
              refine ExD.take (i := 3) rfl (by kernel_rfl) (fr_indexAddrF (Reads.old hl) encP_len rfl rfl rfl rfl rfl rfl (by omega)) ((List.Sublist.refl _)) rfl rfl rfl ?_
              refine ExD.take (i := 4) rfl (by kernel_rfl) (fr_fieldAddrF (i := ((↑k + 1) : Int).toNat) (Reads.old hl) encP_len rfl rfl rfl (by omega) rfl rfl rfl rfl) ((List.Sublist.refl _)) rfl rfl rfl ?_
              refine ExD.take (i := 5) rfl (by kernel_rfl) (fr_load rfl rfl rfl rfl (cellJ (i := (↑k + 1)) ((k + 1)) (Reads.old hl) encP_len zP 1 rfl (by omega) (by omega) rfl)) ((List.Sublist.refl _)) rfl rfl rfl ?_
              refine ExD.take (i := 6) rfl (by kernel_rfl) (pureVal_ok rfl) ((List.Sublist.refl _)) rfl rfl rfl ?_
              refine ExD.take (i := 7) rfl (by kernel_rfl) (pureVal_ok rfl) ((List.Sublist.refl _)) rfl rfl rfl ?_
              refine ExD.take (i := 8) rfl (by kernel_rfl) (fr_indexAddrF (Reads.old hl) encP_len rfl rfl rfl rfl rfl rfl (by omega)) ((List.Sublist.refl _)) rfl rfl rfl ?_
              refine ExD.take (i := 9) rfl (by kernel_rfl) (fr_fieldAddrF (i := (↑k : Int).toNat) (Reads.old hl) encP_len rfl rfl rfl (by omega) rfl rfl rfl rfl) ((List.Sublist.refl _)) rfl rfl rfl ?_
              refine ExD.take (i := 10) rfl (by kernel_rfl) (fr_load rfl rfl rfl rfl (by first | exact cellN (Reads.old hl) encP_len zP 1 rfl (by omega) rfl | exact cellF (Reads.old hl) encP_len zP 1 rfl (by omega) rfl)) ((List.Sublist.refl _)) rfl rfl rfl ?_
              refine ExD.take (i := 11) rfl (by kernel_rfl) (by first | exact fr_sub64 rfl rfl rfl (by omega) | exact fr_sub rfl rfl rfl) ((List.Sublist.refl _)) rfl rfl rfl ?_
              refine ExD.take (i := 12) rfl (by kernel_rfl) (pureVal_ok rfl) ((List.Sublist.refl _)) rfl rfl rfl ?_
              refine ExD.done (by kernel_rfl) ?_
              refine Ex.drawSeqM rfl ?_
              refine ExD.take (i := 0) rfl (by kernel_rfl) (pureVal_ok rfl) ((List.Sublist.refl _)) rfl rfl rfl ?_
              refine ExD.take (i := 1) rfl (by kernel_rfl) (pureVal_ok rfl) ((List.Sublist.refl _)) rfl rfl rfl ?_
              refine ExD.take (i := 2) rfl (by kernel_rfl) (fr_indexAddrF (Reads.old hl) encP_len rfl rfl rfl rfl rfl rfl (by omega)) ((List.Sublist.refl _)) rfl rfl rfl ?_
              refine ExD.take (i := 3) rfl (by kernel_rfl) (fr_fieldAddrF (i := (↑k : Int).toNat) (Reads.old hl) encP_len rfl rfl rfl (by omega) rfl rfl rfl rfl) ((List.Sublist.refl _)) rfl rfl rfl ?_
              refine ExD.take (i := 4) rfl (by kernel_rfl) (fr_load rfl rfl rfl rfl (by first | exact cellN (Reads.old hl) encP_len zP 1 rfl (by omega) rfl | exact cellF (Reads.old hl) encP_len zP 1 rfl (by omega) rfl)) ((List.Sublist.refl _)) rfl rfl rfl ?_
              refine ExD.take (i := 5) rfl (by kernel_rfl) (pureVal_ok rfl) ((List.Sublist.refl _)) rfl rfl rfl ?_
              refine ExD.take (i := 6) rfl (by kernel_rfl) (pureVal_ok rfl) ((List.Sublist.refl _)) rfl rfl rfl ?_
              refine ExD.take (i := 7) rfl (by kernel_rfl) (pureVal_ok rfl) ((List.Sublist.refl _)) rfl rfl rfl ?_
              refine ExD.take (i := 8) rfl (by kernel_rfl) (pureVal_ok rfl) ((List.Sublist.refl _)) rfl rfl rfl ?_
              refine ExD.take (i := 9) rfl (by kernel_rfl) (fr_indexAddrF (Reads.old hl) encP_len rfl rfl rfl rfl rfl rfl (by omega)) ((List.Sublist.refl _)) rfl rfl rfl ?_
              refine ExD.take (i := 10) rfl (by kernel_rfl) (fr_fieldAddrF (i := (↑k : Int).toNat) (Reads.old hl) encP_len rfl rfl rfl (by omega) rfl rfl rfl rfl) ((List.Sublist.refl _)) rfl rfl rfl ?_
              refine ExD.take (i := 11) rfl (by kernel_rfl) (fr_load rfl rfl rfl rfl (by first | exact cellN (Reads.old hl) encP_len zP 0 rfl (by omega) rfl | exact cellF (Reads.old hl) encP_len zP 0 rfl (by omega) rfl)) ((List.Sublist.refl _)) rfl rfl rfl ?_
              refine ExD.take (i := 12) rfl (by kernel_rfl) (by first | exact fr_sub64 rfl rfl rfl (by omega) | exact fr_sub rfl rfl rfl) ((List.Sublist.refl _)) rfl rfl rfl ?_
              refine ExD.take (i := 13) rfl (by kernel_rfl) (by first | exact fr_mul64 rfl rfl rfl (by omega) | exact fr_mul rfl rfl rfl) ((List.Sublist.refl _)) rfl rfl rfl ?_
              refine ExD.take (i := 14) rfl (by kernel_rfl) (pureVal_ok rfl) ((List.Sublist.refl _)) rfl rfl rfl ?_
              refine ExD.take (i := 15) rfl (by kernel_rfl) (pureVal_ok rfl) ((List.Sublist.refl _)) rfl rfl rfl ?_
              refine ExD.take (i := 16) rfl (by kernel_rfl) (by first | exact fr_add64 rfl rfl rfl (by omega) | exact fr_add rfl rfl rfl) ((List.Sublist.refl _)) rfl rfl rfl ?_
              refine ExD.take (i := 17) rfl (by kernel_rfl) (fr_indexAddrF (Reads.old hl) encP_len rfl rfl rfl rfl rfl rfl (by omega)) ((List.Sublist.refl _)) rfl rfl rfl ?_
              refine ExD.take (i := 18) rfl (by kernel_rfl) (fr_fieldAddrF (i := ((↑k + 1) : Int).toNat) (Reads.old hl) encP_len rfl rfl rfl (by omega) rfl rfl rfl rfl) ((List.Sublist.refl _)) rfl rfl rfl ?_
              refine ExD.take (i := 19) rfl (by kernel_rfl) (fr_load rfl rfl rfl rfl (cellJ (i := (↑k + 1)) ((k + 1)) (Reads.old hl) encP_len zP 0 rfl (by omega) (by omega) rfl)) ((List.Sublist.refl _)) rfl rfl rfl ?_
              refine ExD.take (i := 20) rfl (by kernel_rfl) (pureVal_ok rfl) ((List.Sublist.refl _)) rfl rfl rfl ?_
              refine ExD.take (i := 21) rfl (by kernel_rfl) (pureVal_ok rfl) ((List.Sublist.refl _)) rfl rfl rfl ?_
              refine ExD.take (i := 22) rfl (by kernel_rfl) (fr_indexAddrF (Reads.old hl) encP_len rfl rfl rfl rfl rfl rfl (by omega)) ((List.Sublist.refl _)) rfl rfl rfl ?_
              refine ExD.take (i := 23) rfl (by kernel_rfl) (fr_fieldAddrF (i := (↑k : Int).toNat) (Reads.old hl) encP_len rfl rfl rfl (by omega) rfl rfl rfl rfl) ((List.Sublist.refl _)) rfl rfl rfl ?_
              refine ExD.take (i := 24) rfl (by kernel_rfl) (fr_load rfl rfl rfl rfl (by first | exact cellN (Reads.old hl) encP_len zP 0 rfl (by omega) rfl | exact cellF (Reads.old hl) encP_len zP 0 rfl (by omega) rfl)) ((List.Sublist.refl _)) rfl rfl rfl ?_
              refine ExD.take (i := 25) rfl (by kernel_rfl) (by first | exact fr_sub64 rfl rfl rfl (by omega) | exact fr_sub rfl rfl rfl) ((List.Sublist.refl _)) rfl rfl rfl ?_
              refine ExD.take (i := 26) rfl (by kernel_rfl) (by first | exact fr_quo64 rfl rfl rfl (by omega) | exact fr_quo rfl rfl rfl (by omega)) ((List.Sublist.refl _)) rfl rfl rfl ?_
              refine ExD.take (i := 27) rfl (by kernel_rfl) (by first | exact fr_add64 rfl rfl rfl (by omega) | exact fr_add rfl rfl rfl) ((List.Sublist.refl _)) rfl rfl rfl ?_
              refine ExD.take (i := 28) rfl (by kernel_rfl) (pureVal_ok rfl) ((List.Sublist.refl _)) rfl rfl rfl ?_
              refine ExD.take (i := 29) rfl (by kernel_rfl) (pureVal_ok rfl) ((List.Sublist.refl _)) rfl rfl rfl ?_
              refine ExD.done (by kernel_rfl) ?_
              refine Ex.ret ?_
              refine RetQ.mk () rfl (.tmp rfl (.tmp rfl .nil)) (t2 (vI (by first | (rw [ow_n (by intro hc9; have h91 := hc9.1; have h92 := hc9.2.1; have h93 := hc9.2.2; omega)]; first | done | rfl) | (rw [ow_eq hT hc ho (by assumption)]; first | done | rfl) | (rw [ow_ne hT hc ho (by assumption)]; first | done | rfl))) (vB (by first | (rw [ow_n (by intro hc9; have h91 := hc9.1; have h92 := hc9.2.1; have h93 := hc9.2.2; omega)]; first | done | rfl) | (rw [ow_c hc]; first | done | rfl)))) [] (rfl) rfl (trivial)
        · refine ExL.pures 10 rfl ?_
          refine ExL.nil ?_
          refine Ex.cond_f rfl ?_
          refine Ex.exit ?_
          have ho : OnAt l day k := ⟨by omega, by omega, fun h => by omega⟩
          have hcn := hT.cnt k (by omega)
          have hdy := hT.day k (by omega)
          refine Ex.seq ?_
          refine Ex.regSeq (ExL.pures 2 rfl ?_)
          refine ExL.free (fr_indexAddrF (Reads.old hl) encP_len rfl rfl rfl rfl rfl rfl (by omega)) rfl rfl rfl ?_
          refine ExL.free (fr_fieldAddrF (i := (↑k : Int).toNat) (Reads.old hl) encP_len rfl rfl rfl (by omega) rfl rfl rfl rfl) rfl rfl rfl ?_
          refine ExL.free (fr_load rfl rfl rfl rfl (by first | exact cellN (Reads.old hl) encP_len zP 0 rfl (by omega) rfl | exact cellF (Reads.old hl) encP_len zP 0 rfl (by omega) rfl)) rfl rfl rfl ?_
          refine ExL.pures 1 rfl ?_
          refine ExL.eql rfl rfl rfl rfl rfl rfl (fun h7 => ?_) (fun h7 => ?_)
          · refine ExL.nil ?_
            refine Ex.cond_t rfl ?_
            refine Ex.regSeq (ExL.pures 2 rfl ?_)
            refine ExL.free (fr_indexAddrF (Reads.old hl) encP_len rfl rfl rfl rfl rfl rfl (by omega)) rfl rfl rfl ?_
            refine ExL.free (fr_fieldAddrF (i := (↑k : Int).toNat) (Reads.old hl) encP_len rfl rfl rfl (by omega) rfl rfl rfl rfl) rfl rfl rfl ?_
            refine ExL.free (fr_load rfl rfl rfl rfl (by first | exact cellN (Reads.old hl) encP_len zP 1 rfl (by omega) rfl | exact cellF (Reads.old hl) encP_len zP 1 rfl (by omega) rfl)) rfl rfl rfl ?_
            refine ExL.pures 2 rfl ?_
            refine ExL.nil ?_
            refine Ex.ret ?_
            refine RetQ.mk () rfl (.tmp rfl (.tmp rfl .nil)) (t2 (vI (by first | (rw [ow_n (by intro hc9; have h91 := hc9.1; have h92 := hc9.2.1; have h93 := hc9.2.2; omega)]; first | done | rfl) | (rw [ow_eq hT hc ho (by assumption)]; first | done | rfl) | (rw [ow_ne hT hc ho (by assumption)]; first | done | rfl))) (vB (by first | (rw [ow_n (by intro hc9; have h91 := hc9.1; have h92 := hc9.2.1; have h93 := hc9.2.2; omega)]; first | done | rfl) | (rw [ow_c hc]; first | done | rfl)))) [] (rfl) rfl (trivial)
          · refine ExL.nil ?_
            refine Ex.cond_f rfl ?_
            refine Ex.skip ?_
            have hm := ho.more hT (by omega) (by assumption)
            have hb := ho.bd hT hm
            have hcn2 := hT.cnt (k + 1) hm
            have hdy2 := hT.day (k + 1) hm
            refine Ex.drawSeqM rfl ?_
            refine ExD.take (i := 0) rfl (by kernel_rfl) (pureVal_ok rfl) ((List.Sublist.refl _)) rfl rfl rfl ?_
            refine ExD.take (i := 1) rfl (by kernel_rfl) (pureVal_ok rfl) ((List.Sublist.refl _)) rfl rfl rfl ?_
            refine ExD.take (i := 2) rfl (by kernel_rfl) (by first | exact fr_add64 rfl rfl rfl (by omega) | exact fr_add rfl rfl rfl) ((List.Sublist.refl _)) rfl rfl rfl ?_
            refine ExD.take (i := 3) rfl (by kernel_rfl) (fr_indexAddrF (Reads.old hl) encP_len rfl rfl rfl rfl rfl rfl (by omega)) ((List.Sublist.refl _)) rfl rfl rfl ?_
            refine ExD.take (i := 4) rfl (by kernel_rfl) (fr_fieldAddrF (i := ((↑k + 1) : Int).toNat) (Reads.old hl) encP_len rfl rfl rfl (by omega) rfl rfl rfl rfl) ((List.Sublist.refl _)) rfl rfl rfl ?_
            refine ExD.take (i := 5) rfl (by kernel_rfl) (fr_load rfl rfl rfl rfl (cellJ (i := (↑k + 1)) ((k + 1)) (Reads.old hl) encP_len zP 1 rfl (by omega) (by omega) rfl)) ((List.Sublist.refl _)) rfl rfl rfl ?_
            refine ExD.take (i := 6) rfl (by kernel_rfl) (pureVal_ok rfl) ((List.Sublist.refl _)) rfl rfl rfl ?_
            refine ExD.take (i := 7) rfl (by kernel_rfl) (pureVal_ok rfl) ((List.Sublist.refl _)) rfl rfl rfl ?_
            refine ExD.take (i := 8) rfl (by kernel_rfl) (fr_indexAddrF (Reads.old hl) encP_len rfl rfl rfl rfl rfl rfl (by omega)) ((List.Sublist.refl _)) rfl rfl rfl ?_
            refine ExD.take (i := 9) rfl (by kernel_rfl) (fr_fieldAddrF (i := (↑k : Int).toNat) (Reads.old hl) encP_len rfl rfl rfl (by omega) rfl rfl rfl rfl) ((List.Sublist.refl _)) rfl rfl rfl ?_
            refine ExD.take (i := 10) rfl (by kernel_rfl) (fr_load rfl rfl rfl rfl (by first | exact cellN (Reads.old hl) encP_len zP 1 rfl (by omega) rfl | exact cellF (Reads.old hl) encP_len zP 1 rfl (by omega) rfl)) ((List.Sublist.refl _)) rfl rfl rfl ?_
            refine ExD.take (i := 11) rfl (by kernel_rfl) (by first | exact fr_sub64 rfl rfl rfl (by omega) | exact fr_sub rfl rfl rfl) ((List.Sublist.refl _)) rfl rfl rfl ?_
            refine ExD.take (i := 12) rfl (by kernel_rfl) (pureVal_ok rfl) ((List.Sublist.refl _)) rfl rfl rfl ?_
            refine ExD.done (by kernel_rfl) ?_
            refine Ex.drawSeqM rfl ?_
            refine ExD.take (i := 0) rfl (by kernel_rfl) (pureVal_ok rfl) ((List.Sublist.refl _)) rfl rfl rfl ?_
            refine ExD.take (i := 1) rfl (by kernel_rfl) (pureVal_ok rfl) ((List.Sublist.refl _)) rfl rfl rfl ?_
            refine ExD.take (i := 2) rfl (by kernel_rfl) (fr_indexAddrF (Reads.old hl) encP_len rfl rfl rfl rfl rfl rfl (by omega)) ((List.Sublist.refl _)) rfl rfl rfl ?_
            refine ExD.take (i := 3) rfl (by kernel_rfl) (fr_fieldAddrF (i := (↑k : Int).toNat) (Reads.old hl) encP_len rfl rfl rfl (by omega) rfl rfl rfl rfl) ((List.Sublist.refl _)) rfl rfl rfl ?_
            refine ExD.take (i := 4) rfl (by kernel_rfl) (fr_load rfl rfl rfl rfl (by first | exact cellN (Reads.old hl) encP_len zP 1 rfl (by omega) rfl | exact cellF (Reads.old hl) encP_len zP 1 rfl (by omega) rfl)) ((List.Sublist.refl _)) rfl rfl rfl ?_
            refine ExD.take (i := 5) rfl (by kernel_rfl) (pureVal_ok rfl) ((List.Sublist.refl _)) rfl rfl rfl ?_
            refine ExD.take (i := 6) rfl (by kernel_rfl) (pureVal_ok rfl) ((List.Sublist.refl _)) rfl rfl rfl ?_
            refine ExD.take (i := 7) rfl (by kernel_rfl) (pureVal_ok rfl) ((List.Sublist.refl _)) rfl rfl rfl ?_
            refine ExD.take (i := 8) rfl (by kernel_rfl) (pureVal_ok rfl) ((List.Sublist.refl _)) rfl rfl rfl ?_
            refine ExD.take (i := 9) rfl (by kernel_rfl) (fr_indexAddrF (Reads.old hl) encP_len rfl rfl rfl rfl rfl rfl (by omega)) ((List.Sublist.refl _)) rfl rfl rfl ?_
            refine ExD.take (i := 10) rfl (by kernel_rfl) (fr_fieldAddrF (i := (↑k : Int).toNat) (Reads.old hl) encP_len rfl rfl rfl (by omega) rfl rfl rfl rfl) ((List.Sublist.refl _)) rfl rfl rfl ?_
            refine ExD.take (i := 11) rfl (by kernel_rfl) (fr_load rfl rfl rfl rfl (by first | exact cellN (Reads.old hl) encP_len zP 0 rfl (by omega) rfl | exact cellF (Reads.old hl) encP_len zP 0 rfl (by omega) rfl)) ((List.Sublist.refl _)) rfl rfl rfl ?_
            refine ExD.take (i := 12) rfl (by kernel_rfl) (by first | exact fr_sub64 rfl rfl rfl (by omega) | exact fr_sub rfl rfl rfl) ((List.Sublist.refl _)) rfl rfl rfl ?_
            refine ExD.take (i := 13) rfl (by kernel_rfl) (by first | exact fr_mul64 rfl rfl rfl (by omega) | exact fr_mul rfl rfl rfl) ((List.Sublist.refl _)) rfl rfl rfl ?_
            refine ExD.take (i := 14) rfl (by kernel_rfl) (pureVal_ok rfl) ((List.Sublist.refl _)) rfl rfl rfl ?_
            refine ExD.take (i := 15) rfl (by kernel_rfl) (pureVal_ok rfl) ((List.Sublist.refl _)) rfl rfl rfl ?_
            refine ExD.take (i := 16) rfl (by kernel_rfl) (by first | exact fr_add64 rfl rfl rfl (by omega) | exact fr_add rfl rfl rfl) ((List.Sublist.refl _)) rfl rfl rfl ?_
            refine ExD.take (i := 17) rfl (by kernel_rfl) (fr_indexAddrF (Reads.old hl) encP_len rfl rfl rfl rfl rfl rfl (by omega)) ((List.Sublist.refl _)) rfl rfl rfl ?_
            refine ExD.take (i := 18) rfl (by kernel_rfl) (fr_fieldAddrF (i := ((↑k + 1) : Int).toNat) (Reads.old hl) encP_len rfl rfl rfl (by omega) rfl rfl rfl rfl) ((List.Sublist.refl _)) rfl rfl rfl ?_
            refine ExD.take (i := 19) rfl (by kernel_rfl) (fr_load rfl rfl rfl rfl (cellJ (i := (↑k + 1)) ((k + 1)) (Reads.old hl) encP_len zP 0 rfl (by omega) (by omega) rfl)) ((List.Sublist.refl _)) rfl rfl rfl ?_
            refine ExD.take (i := 20) rfl (by kernel_rfl) (pureVal_ok rfl) ((List.Sublist.refl _)) rfl rfl rfl ?_
            refine ExD.take (i := 21) rfl (by kernel_rfl) (pureVal_ok rfl) ((List.Sublist.refl _)) rfl rfl rfl ?_
            refine ExD.take (i := 22) rfl (by kernel_rfl) (fr_indexAddrF (Reads.old hl) encP_len rfl rfl rfl rfl rfl rfl (by omega)) ((List.Sublist.refl _)) rfl rfl rfl ?_
            refine ExD.take (i := 23) rfl (by kernel_rfl) (fr_fieldAddrF (i := (↑k : Int).toNat) (Reads.old hl) encP_len rfl rfl rfl (by omega) rfl rfl rfl rfl) ((List.Sublist.refl _)) rfl rfl rfl ?_
            refine ExD.take (i := 24) rfl (by kernel_rfl) (fr_load rfl rfl rfl rfl (by first | exact cellN (Reads.old hl) encP_len zP 0 rfl (by omega) rfl | exact cellF (Reads.old hl) encP_len zP 0 rfl (by omega) rfl)) ((List.Sublist.refl _)) rfl rfl rfl ?_
            refine ExD.take (i := 25) rfl (by kernel_rfl) (by first | exact fr_sub64 rfl rfl rfl (by omega) | exact fr_sub rfl rfl rfl) ((List.Sublist.refl _)) rfl rfl rfl ?_
            refine ExD.take (i := 26) rfl (by kernel_rfl) (by first | exact fr_quo64 rfl rfl rfl (by omega) | exact fr_quo rfl rfl rfl (by omega)) ((List.Sublist.refl _)) rfl rfl rfl ?_
            refine ExD.take (i := 27) rfl (by kernel_rfl) (by first | exact fr_add64 rfl rfl rfl (by omega) | exact fr_add rfl rfl rfl) ((List.Sublist.refl _)) rfl rfl rfl ?_
            refine ExD.take (i := 28) rfl (by kernel_rfl) (pureVal_ok rfl) ((List.Sublist.refl _)) rfl rfl rfl ?_
            refine ExD.take (i := 29) rfl (by kernel_rfl) (pureVal_ok rfl) ((List.Sublist.refl _)) rfl rfl rfl ?_
            refine ExD.done (by kernel_rfl) ?_
            refine Ex.ret ?_
            refine RetQ.mk () rfl (.tmp rfl (.tmp rfl .nil)) (t2 (vI (by first | (rw [ow_n (by intro hc9; have h91 := hc9.1; have h92 := hc9.2.1; have h93 := hc9.2.2; omega)]; first | done | rfl) | (rw [ow_eq hT hc ho (by assumption)]; first | done | rfl) | (rw [ow_ne hT hc ho (by assumption)]; first | done | rfl))) (vB (by first | (rw [ow_n (by intro hc9; have h91 := hc9.1; have h92 := hc9.2.1; have h93 := hc9.2.2; omega)]; first | done | rfl) | (rw [ow_c hc]; first | done | rfl)))) [] (rfl) rfl (trivial)
theorem e_56 : Enters Try.prog 56 := Enters.of Try.func56 rfl
theorem c_l06Drift (s : List VP) (hTs : Tot s) (As : Option Addr) (cs : Nat) (hls : s.length ≤ maxLen) (t : List VP) (hTt : Tot t) (At : Option Addr) (ct : Nat) (hlt : t.length ≤ maxLen) (day : Int) : Ret Try.prog 56 [.slice As s.length cs, .slice At t.length ct, .int .i64 day] (fun w => Rd w As (s.flatMap encP) ∧ Rd w At (t.flatMap encP)) (fun x : Unit => .int .i64 (drD s t day)) (fun x => []) (fun x => True) := by
  refine Ret.of e_56 Try.func56 rfl Try.ntmps56 rfl rfl (fun w hpre => ?_)
  have hs := hpre.1.base
  have ht := hpre.2.base
  have hm0 : maxLen = 9223372036854775807 := rfl
  have hb1 := ow_bd hTs day
  have hb2 := ow_bd hTt day
  refine Ex.regSeq (ExL.pures 1 rfl ?_)
  refine ExL.nil ?_
  refine Ex.regSeq (ExL.pures 2 rfl ?_)
  refine ExL.op rfl (op_ret rfl rfl rfl (c_l06On s (by assumption) _ _ (by omega) day) (Reads.get (Reads.old hs)) rfl rfl (fun x1 hx1 => ?_))
  refine ExL.pures 5 rfl ?_
  refine ExL.nil ?_
  refine Ex.regSeq (ExL.pures 2 rfl ?_)
  refine ExL.op rfl (op_ret rfl rfl rfl (c_l06On t (by assumption) _ _ (by omega) day) (Reads.get (Reads.old ht)) rfl rfl (fun x2 hx2 => ?_))
  refine ExL.pures 5 rfl ?_
  refine ExL.nil ?_
  refine Ex.regSeq (ExL.pures 2 rfl ?_)
  refine ExL.free (by first | exact fr_sub64 rfl rfl rfl (by omega) | exact fr_sub rfl rfl rfl) rfl rfl rfl ?_
  refine ExL.pures 1 rfl ?_
  refine ExL.nil ?_
  refine Ex.ret ?_
  refine RetQ.mk () rfl (.tmp rfl .nil) (rfl) [] (rfl) rfl (trivial)
theorem e_12 : Enters Try.prog 12 := Enters.of Try.func12 rfl
theorem c_sBestShift (s : List VP) (As : Option Addr) (cs : Nat) (hls : s.length ≤ maxLen) (t : List VP) (At : Option Addr) (ct : Nat) (hlt : t.length ≤ maxLen) : Ret Try.prog 12 [.slice As s.length cs, .slice At t.length ct] (fun w => Rd w As (s.flatMap encP) ∧ Rd w At (t.flatMap encP)) (fun x : Unit => .tuple #[.int .i64 (bestV s t).1, .int .i64 (bestV s t).2.1, .int .i64 (bestV s t).2.2]) (fun x => []) (fun x => True) := by
  refine Ret.of e_12 Try.func12 rfl Try.ntmps12 rfl rfl (fun w hpre => ?_)
  have hs := hpre.1.base
  have ht := hpre.2.base
  have hm0 : maxLen = 9223372036854775807 := rfl
  refine Ex.regSeq (ExL.pures 3 rfl ?_)
  refine ExL.nil ?_
  refine Ex.regSeq (ExL.pures 2 rfl ?_)
  refine ExL.op rfl (op_ret rfl rfl rfl (c_l06Both s _ _ (by omega) t _ _ (by omega)) (fun w hw => ⟨Reads.get (Reads.old hs) w hw, Reads.get (Reads.old ht) w hw⟩) rfl rfl (fun x1 hx1 => ?_))
  refine ExL.pures 7 rfl ?_
  refine ExL.nil ?_
  refine Ex.seq ?_
  refine Ex.regSeq (ExL.pures 1 rfl ?_)
  refine ExL.neq rfl rfl rfl rfl rfl rfl (fun h2 => ?_) (fun h2 => ?_)
  · refine ExL.nil ?_
    refine Ex.cond_t rfl ?_
    refine Ex.regSeq (ExL.pures 4 rfl ?_)
    refine ExL.nil ?_
    refine Ex.ret ?_
    refine RetQ.mk () rfl (.tmp rfl (.tmp rfl (.tmp rfl .nil))) (t3 (vI (by first | (rw [best_bad (by assumption)]; first | done | rfl) | (rw [best_ok hcode hkn]; first | done | rfl))) (vI (by first | (rw [best_bad (by assumption)]; first | done | rfl) | (rw [best_ok hcode hkn]; first | done | rfl))) (vI (by first | (rw [best_bad (by assumption)]; first | done | rfl) | (rw [best_ok hcode hkn]; first | done | rfl)))) [] (rfl) rfl (trivial)
  · refine ExL.nil ?_
    refine Ex.cond_f rfl ?_
    refine Ex.skip ?_
    have hcode : (bothV s t).2.2 = 0 := by omega
    have hB := both hcode
    have hTs := tot hB.vx
    have hTt := tot hB.vy
    have hBl := hB.le
    have hB0 := hB.lo
    have hB1 := hB.hi
    refine Ex.regSeq (ExL.pures 3 rfl ?_)
    refine ExL.op rfl (op_ret rfl rfl rfl (c_l06Drift s (by assumption) _ _ (by omega) t (by assumption) _ _ (by omega) _) (fun w hw => ⟨Reads.get (Reads.old hs) w hw, Reads.get (Reads.old ht) w hw⟩) rfl rfl (fun x3 hx3 => ?_))
    refine ExL.pures 1 rfl ?_
    refine ExL.nil ?_
    refine Ex.regSeq (ExL.pures 2 rfl ?_)
    refine ExL.nil ?_
    refine Ex.seq ?_
    refine Ex.regSeq (ExL.pures 1 rfl ?_)
    refine ExL.free (by first | exact fr_add64 rfl rfl rfl (by omega) | exact fr_add rfl rfl rfl) rfl rfl rfl ?_
    refine ExL.pures 1 rfl ?_
    refine ExL.nil ?_
    refine Ex.block ?_
    refine Ex.loopK (X := Nat) (fun k => [(10, .int .i64 (loD s t (bothV s t).1 k)), (11, .int .i64 (hiD s t (bothV s t).1 k)), (12, .int .i64 ((bothV s t).1 + ((k : Int) + 1)))]) (fun k => []) (fun k => (bothV s t).1 + (k : Int) ≤ (bothV s t).2.1) (fun k => ((bothV s t).2.1 - (bothV s t).1).toNat - k) 0 [(0, _), (1, _), (4, _), (5, _), (6, _), (8, _)] [] 0 [] ⟨rfl, rfl, agI (by omega), trivial⟩ ⟨rfl, rfl, rfl, rfl, rfl, rfl, trivial⟩ (rfl) rfl (by omega) (fun k hI => ?_)
    have hI : (bothV s t).1 + (k : Int) ≤ (bothV s t).2.1 := hI
    have hlo := loD_bd hB k hI
    have hhi := hiD_bd hB k hI
    refine Ex.seq ?_
    refine Ex.regSeq (ExL.pures 2 rfl ?_)
    refine ExL.leq rfl rfl rfl rfl rfl rfl (fun h4 => ?_) (fun h4 => ?_)
    · refine ExL.nil ?_
      refine Ex.cond_t rfl ?_
      refine Ex.skip ?_
      refine Ex.seq ?_
      refine Ex.block ?_
      refine Ex.regSeq (ExL.pures 3 rfl ?_)
      refine ExL.op rfl (op_ret rfl rfl rfl (c_l06Drift s (by assumption) _ _ (by omega) t (by assumption) _ _ (by omega) _) (fun w hw => ⟨Reads.get (Reads.old hs) w hw, Reads.get (Reads.old ht) w hw⟩) rfl rfl (fun x5 hx5 => ?_))
      refine ExL.pures 1 rfl ?_
      refine ExL.nil ?_
      refine Ex.regSeq (ExL.pures 2 rfl ?_)
      refine ExL.op rfl (op_ret rfl rfl rfl (c_l00Min _ _) (fun _ _ => trivial) rfl rfl (fun x6 hx6 => ?_))
      refine ExL.pures 1 rfl ?_
      refine ExL.nil ?_
      refine Ex.region (ExL.pures 2 rfl ?_)
      refine ExL.op rfl (op_ret rfl rfl rfl (c_l00Max _ _) (fun _ _ => trivial) rfl rfl (fun x7 hx7 => ?_))
      refine ExL.pures 1 rfl ?_
      refine ExL.nil ?_
      refine Ex.region (ExL.pures 1 rfl ?_)
      refine ExL.free (by first | exact fr_add64 rfl rfl rfl (by omega) | exact fr_add rfl rfl rfl) rfl rfl rfl ?_
      refine ExL.pures 1 rfl ?_
      refine ExL.nil ?_
      refine Hand.mk (k + 1) 0 [] ⟨rfl, rfl, agI (by omega), trivial⟩ ⟨rfl, rfl, rfl, rfl, rfl, rfl, trivial⟩ (rfl) rfl (by omega) (by omega)
    · refine ExL.nil ?_
      refine Ex.cond_f rfl ?_
      refine Ex.exit ?_
      have hkn : (k : Int) = (bothV s t).2.1 - (bothV s t).1 := by omega
      refine Ex.regSeq (ExL.pures 2 rfl ?_)
      refine ExL.free (by first | exact fr_add64 rfl rfl rfl (by omega) | exact fr_add rfl rfl rfl) rfl rfl rfl ?_
      refine ExL.op rfl (op_ret rfl rfl rfl (c_l01Down _ _ (by omega) (by omega)) (fun _ _ => trivial) rfl rfl (fun x8 hx8 => ?_))
      refine ExL.pures 1 rfl ?_
      refine ExL.nil ?_
      refine Ex.regSeq (ExL.pures 3 rfl ?_)
      refine ExL.free (by first | exact fr_sub64 rfl rfl rfl (by omega) | exact fr_sub rfl rfl rfl) rfl rfl rfl ?_
      refine ExL.pures 2 rfl ?_
      refine ExL.free (by first | exact fr_sub64 rfl rfl rfl (by omega) | exact fr_sub rfl rfl rfl) rfl rfl rfl ?_
      refine ExL.op rfl (op_ret rfl rfl rfl (c_l00Max _ _) (fun _ _ => trivial) rfl rfl (fun x9 hx9 => ?_))
      refine ExL.pures 3 rfl ?_
      refine ExL.nil ?_
      refine Ex.ret ?_
      refine RetQ.mk () rfl (.tmp rfl (.tmp rfl (.tmp rfl .nil))) (t3 (vI (by first | (rw [best_bad (by assumption)]; first | done | rfl) | (rw [best_ok hcode hkn]; first | done | rfl))) (vI (by first | (rw [best_bad (by assumption)]; first | done | rfl) | (rw [best_ok hcode hkn]; first | done | rfl))) (vI (by first | (rw [best_bad (by assumption)]; first | done | rfl) | (rw [best_ok hcode hkn]; first | done | rfl)))) [] (rfl) rfl (trivial)
theorem e_103 : Enters Try.prog 103 := Enters.of Try.func103 rfl
theorem c_countOn (l : List VP) (hT : Tot l) (Al : Option Addr) (cl : Nat) (hll : l.length ≤ maxLen) (day : Int) (hc : Covers l day) : Ret Try.prog 103 [.slice Al l.length cl, .int .i64 day] (fun w => Rd w Al (l.flatMap encP)) (fun x : Unit => .int .i64 (onV l day)) (fun x => []) (fun x => True) := by
  refine Ret.of e_103 Try.func103 rfl Try.ntmps103 rfl rfl (fun w hpre => ?_)
  have hl := hpre.base
  have hTl := hT.len
  have hc1 := hc.1
  have hc2 := hc.2.1
  have hc3 := hc.2.2
  have hm0 : maxLen = 9223372036854775807 := rfl
  refine Ex.regSeq (ExL.pures 1 rfl ?_)
  refine ExL.nil ?_
  refine Ex.regSeq (ExL.pures 2 rfl ?_)
  refine ExL.free (by first | exact fr_sub64 rfl rfl rfl (by omega) | exact fr_sub rfl rfl rfl) rfl rfl rfl ?_
  refine ExL.pures 1 rfl ?_
  refine ExL.nil ?_
  refine Ex.seq ?_
  refine Ex.block ?_
  refine Ex.loopK (X := Nat) (fun k => [(5, .int .i64 k)]) (fun k => []) (fun k => k < l.length ∧ (k + 1 < l.length → day < (l.getD (k + 1) zP).a)) (fun k => k) (l.length - 1) [(0, _), (1, _), (4, _)] [] 0 [] ⟨agI (by omega), trivial⟩ ⟨rfl, rfl, rfl, trivial⟩ (rfl) rfl ⟨by omega, fun h => by omega⟩ (fun k hI => ?_)
  have hI : k < l.length ∧ (k + 1 < l.length → day < (l.getD (k + 1) zP).a) := hI
  obtain ⟨hk, hnx⟩ := hI
  refine Ex.seq ?_
  refine Ex.regSeq (ExL.pures 2 rfl ?_)
  refine ExL.free (fr_indexAddrF (Reads.old hl) encP_len rfl rfl rfl rfl rfl rfl (by omega)) rfl rfl rfl ?_
  refine ExL.free (fr_fieldAddrF (i := (↑k : Int).toNat) (Reads.old hl) encP_len rfl rfl rfl (by omega) rfl rfl rfl rfl) rfl rfl rfl ?_
  refine ExL.free (fr_load rfl rfl rfl rfl (by first | exact cellN (Reads.old hl) encP_len zP 0 rfl (by omega) rfl | exact cellF (Reads.old hl) encP_len zP 0 rfl (by omega) rfl)) rfl rfl rfl ?_
  refine ExL.pures 1 rfl ?_
  refine ExL.gtr rfl rfl rfl rfl rfl rfl (fun h1 => ?_) (fun h1 => ?_)
  · refine ExL.nil ?_
    refine Ex.cond_t rfl ?_
    refine Ex.skip ?_
    refine Ex.block ?_
    refine Ex.region (ExL.pures 1 rfl ?_)
    refine ExL.free (by first | exact fr_sub64 rfl rfl rfl (by omega) | exact fr_sub rfl rfl rfl) rfl rfl rfl ?_
    refine ExL.pures 1 rfl ?_
    refine ExL.nil ?_
    obtain ⟨j, rfl⟩ : ∃ j, k = j + 1 := by rcases Nat.eq_zero_or_pos k with h | h; (· subst h; omega); (· exact ⟨k - 1, by omega⟩)
    refine Hand.mk (j) 0 [] ⟨agI (by omega), trivial⟩ ⟨rfl, rfl, rfl, trivial⟩ (rfl) rfl (⟨by omega, fun _ => by omega⟩) (Nat.lt_succ_self _)
  · refine ExL.nil ?_
    refine Ex.cond_f rfl ?_
    refine Ex.exit ?_
    have ho : OnAt l day k := ⟨by omega, by omega, hnx⟩
    have hcn := hT.cnt k (by omega)
    have hdy := hT.day k (by omega)
    refine Ex.seq ?_
    refine Ex.regSeq (ExL.pures 2 rfl ?_)
    refine ExL.free (fr_indexAddrF (Reads.old hl) encP_len rfl rfl rfl rfl rfl rfl (by omega)) rfl rfl rfl ?_
    refine ExL.free (fr_fieldAddrF (i := (↑k : Int).toNat) (Reads.old hl) encP_len rfl rfl rfl (by omega) rfl rfl rfl rfl) rfl rfl rfl ?_
    refine ExL.free (fr_load rfl rfl rfl rfl (by first | exact cellN (Reads.old hl) encP_len zP 0 rfl (by omega) rfl | exact cellF (Reads.old hl) encP_len zP 0 rfl (by omega) rfl)) rfl rfl rfl ?_
    refine ExL.pures 1 rfl ?_
    refine ExL.eql rfl rfl rfl rfl rfl rfl (fun h2 => ?_) (fun h2 => ?_)
    · refine ExL.nil ?_
      refine Ex.cond_t rfl ?_
      refine Ex.regSeq (ExL.pures 2 rfl ?_)
      refine ExL.free (fr_indexAddrF (Reads.old hl) encP_len rfl rfl rfl rfl rfl rfl (by omega)) rfl rfl rfl ?_
      refine ExL.free (fr_fieldAddrF (i := (↑k : Int).toNat) (Reads.old hl) encP_len rfl rfl rfl (by omega) rfl rfl rfl rfl) rfl rfl rfl ?_
      refine ExL.free (fr_load rfl rfl rfl rfl (by first | exact cellN (Reads.old hl) encP_len zP 1 rfl (by omega) rfl | exact cellF (Reads.old hl) encP_len zP 1 rfl (by omega) rfl)) rfl rfl rfl ?_
      refine ExL.pures 1 rfl ?_
      refine ExL.nil ?_
      refine Ex.ret ?_
      refine RetQ.mk () rfl (.tmp rfl .nil) (tI (by first | exact (onV_eq hT ho (by assumption)).symm | exact (onV_ne hT ho (by assumption)).symm)) [] (rfl) rfl (trivial)
    · refine ExL.nil ?_
      refine Ex.cond_f rfl ?_
      refine Ex.skip ?_
      have hm := ho.more hT (by omega) (by assumption)
      have hb := ho.bd hT hm
      have hcn2 := hT.cnt (k + 1) hm
      have hdy2 := hT.day (k + 1) hm
      refine Ex.drawSeqM rfl ?_
      refine ExD.take (i := 0) rfl (by kernel_rfl) (pureVal_ok rfl) ((List.Sublist.refl _)) rfl rfl rfl ?_
      refine ExD.take (i := 1) rfl (by kernel_rfl) (pureVal_ok rfl) ((List.Sublist.refl _)) rfl rfl rfl ?_
      refine ExD.take (i := 2) rfl (by kernel_rfl) (fr_indexAddrF (Reads.old hl) encP_len rfl rfl rfl rfl rfl rfl (by omega)) ((List.Sublist.refl _)) rfl rfl rfl ?_
      refine ExD.take (i := 3) rfl (by kernel_rfl) (fr_loadN rfl rfl rfl rfl rfl (by first | exact segN (Reads.old hl) encP_len rfl zP (by omega) | exact segF (Reads.old hl) encP_len rfl zP (by omega))) ((List.Sublist.refl _)) rfl rfl rfl ?_
      refine ExD.take (i := 4) rfl (by kernel_rfl) (pureVal_ok rfl) ((List.Sublist.refl _)) rfl rfl rfl ?_
      refine ExD.take (i := 5) rfl (by kernel_rfl) (pureVal_ok rfl) ((List.Sublist.refl _)) rfl rfl rfl ?_
      refine ExD.take (i := 6) rfl (by kernel_rfl) (by first | exact fr_add64 rfl rfl rfl (by omega) | exact fr_add rfl rfl rfl) ((List.Sublist.refl _)) rfl rfl rfl ?_
      refine ExD.take (i := 7) rfl (by kernel_rfl) (fr_indexAddrF (Reads.old hl) encP_len rfl rfl rfl rfl rfl rfl (by omega)) ((List.Sublist.refl _)) rfl rfl rfl ?_
      refine ExD.take (i := 8) rfl (by kernel_rfl) (fr_loadN rfl rfl rfl rfl rfl (segJ ((k + 1)) (Reads.old hl) encP_len rfl zP (by omega) (by omega))) ((List.Sublist.refl _)) rfl rfl rfl ?_
      refine ExD.alloc2 (i := 9) (j := 10) rfl rfl (by kernel_rfl) (by kernel_rfl) (by kernel_rfl) rfl rfl rfl rfl (fun _ => rfl) (fun _ => rfl) (List.Sublist.refl _) (Alc.of rfl rfl rfl rfl rfl) (Alc.of rfl rfl rfl rfl rfl) (fun b3 b4 => ?_)
      refine ExD.op (i := 11) rfl (by kernel_rfl) rfl (op_storeC (i := 1) rfl rfl rfl rfl rfl rfl rfl rfl rfl rfl ⟨(List.nil_sublist _), ?_⟩)
      refine ExD.last (i := 12) rfl (by kernel_rfl) (by kernel_rfl) rfl (op_storeC (i := 0) rfl rfl rfl rfl rfl rfl rfl rfl rfl rfl ?_)
      refine ExD.done (by kernel_rfl) ?_
      refine Ex.drawSeqM rfl ?_
      refine ExD.take (i := 0) rfl (by kernel_rfl) (pureVal_ok rfl) ((List.Sublist.refl _)) rfl rfl rfl ?_
      refine ExD.take (i := 1) rfl (by kernel_rfl) (fr_load rfl rfl rfl rfl (CellO.blk (i := 1) rfl rfl)) ((List.Sublist.refl _)) rfl rfl rfl ?_
      refine ExD.take (i := 2) rfl (by kernel_rfl) (pureVal_ok rfl) ((List.Sublist.refl _)) rfl rfl rfl ?_
      refine ExD.take (i := 3) rfl (by kernel_rfl) (fr_load rfl rfl rfl rfl (CellO.blk (i := 0) rfl rfl)) ((List.Sublist.refl _)) rfl rfl rfl ?_
      refine ExD.take (i := 4) rfl (by kernel_rfl) (pureVal_ok rfl) ((List.Sublist.refl _)) rfl rfl rfl ?_
      refine ExD.take (i := 5) rfl (by kernel_rfl) (fr_load rfl rfl rfl rfl (CellO.blk (i := 1) rfl rfl)) ((List.Sublist.refl _)) rfl rfl rfl ?_
      refine ExD.take (i := 6) rfl (by kernel_rfl) (by first | exact fr_sub64 rfl rfl rfl (by omega) | exact fr_sub rfl rfl rfl) ((List.Sublist.refl _)) rfl rfl rfl ?_
      refine ExD.take (i := 7) rfl (by kernel_rfl) (pureVal_ok rfl) ((List.Sublist.refl _)) rfl rfl rfl ?_
      refine ExD.take (i := 8) rfl (by kernel_rfl) (pureVal_ok rfl) ((List.Sublist.refl _)) rfl rfl rfl ?_
      refine ExD.take (i := 9) rfl (by kernel_rfl) (fr_load rfl rfl rfl rfl (CellO.blk (i := 1) rfl rfl)) ((List.Sublist.refl _)) rfl rfl rfl ?_
      refine ExD.take (i := 10) rfl (by kernel_rfl) (by first | exact fr_sub64 rfl rfl rfl (by omega) | exact fr_sub rfl rfl rfl) ((List.Sublist.refl _)) rfl rfl rfl ?_
      refine ExD.take (i := 11) rfl (by kernel_rfl) (by first | exact fr_mul64 rfl rfl rfl (by omega) | exact fr_mul rfl rfl rfl) ((List.Sublist.refl _)) rfl rfl rfl ?_
      refine ExD.take (i := 12) rfl (by kernel_rfl) (pureVal_ok rfl) ((List.Sublist.refl _)) rfl rfl rfl ?_
      refine ExD.take (i := 13) rfl (by kernel_rfl) (fr_load rfl rfl rfl rfl (CellO.blk (i := 0) rfl rfl)) ((List.Sublist.refl _)) rfl rfl rfl ?_
      refine ExD.take (i := 14) rfl (by kernel_rfl) (pureVal_ok rfl) ((List.Sublist.refl _)) rfl rfl rfl ?_
      refine ExD.take (i := 15) rfl (by kernel_rfl) (fr_load rfl rfl rfl rfl (CellO.blk (i := 1) rfl rfl)) ((List.Sublist.refl _)) rfl rfl rfl ?_
      refine ExD.take (i := 16) rfl (by kernel_rfl) (by first | exact fr_sub64 rfl rfl rfl (by omega) | exact fr_sub rfl rfl rfl) ((List.Sublist.refl _)) rfl rfl rfl ?_
      refine ExD.take (i := 17) rfl (by kernel_rfl) (by first | exact fr_quo64 rfl rfl rfl (by omega) | exact fr_quo rfl rfl rfl (by omega)) ((List.Sublist.refl _)) rfl rfl rfl ?_
      refine ExD.take (i := 18) rfl (by kernel_rfl) (by first | exact fr_add64 rfl rfl rfl (by omega) | exact fr_add rfl rfl rfl) ((List.Sublist.refl _)) rfl rfl rfl ?_
      refine ExD.take (i := 19) rfl (by kernel_rfl) (pureVal_ok rfl) ((List.Sublist.refl _)) rfl rfl rfl ?_
      refine ExD.done (by kernel_rfl) ?_
      refine Ex.ret ?_
      refine RetQ.mk () rfl (.tmp rfl .nil) (tI (by first | exact (onV_eq hT ho (by assumption)).symm | exact (onV_ne hT ho (by assumption)).symm)) [] (rfl) rfl (trivial)
end Go.Proofs.Ytepahnikcojepaa
