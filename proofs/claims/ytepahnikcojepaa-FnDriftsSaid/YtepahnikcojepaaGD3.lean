/- What these functions of the program hand back, each proved by walking its operations. -/
import Derived.Test.YtepahnikcojepaaProg
import Derived.Test.YtepahnikcojepaaFw
import Derived.Test.YtepahnikcojepaaGD2
import Derived.Test.YtepahnikcojepaaGH1
set_option linter.unusedVariables false
set_option linter.unusedSimpArgs false
set_option maxRecDepth 4000
namespace Go.Proofs.Ytepahnikcojepaa
open Go Go.Sx Go.RowKit Go.W Go.Proofs
attribute [local irreducible] Ex ExL ExD Op1 Free RetQ MutQ Reads CellO SegO LoadsAs
theorem e_44 : Enters Try.prog 44 := Enters.of Try.func44 rfl
theorem c_sWorst (s : List VP) (As : Option Addr) (cs : Nat) (hls : s.length ≤ maxLen) (t : List VP) (At : Option Addr) (ct : Nat) (hlt : t.length ≤ maxLen) : Ret Try.prog 44 [.slice As s.length cs, .slice At t.length ct] (fun w => Rd w As (s.flatMap encP) ∧ Rd w At (t.flatMap encP)) (fun x : Unit => .tuple #[.int .i64 (worstV s t).1, .int .i64 (worstV s t).2.1, .int .i64 (worstV s t).2.2]) (fun x => []) (fun x => True) := by
  refine Ret.of e_44 Try.func44 rfl Try.ntmps44 rfl rfl (fun w hpre => ?_)
  have hs := hpre.1.base
  have ht := hpre.2.base
  have hm0 : maxLen = 9223372036854775807 := rfl
  refine Ex.regSeq (ExL.pures 3 rfl ?_)
  refine ExL.nil ?_
  refine Ex.regSeq (ExL.pures 2 rfl ?_)
  refine ExL.op rfl (op_ret rfl rfl rfl (c_l06Both s _ _ (by omega) t _ _ (by omega)) (fun w hw => ⟨Reads.get (Reads.old hs) w hw, Reads.get (Reads.old ht) w hw⟩) rfl rfl (fun x1 hx1 => ?_))
  refine ExL.pures 7 rfl ?_
  refine ExL.nil ?_
  refine Ex.seq ?_
  refine Ex.regSeq (ExL.pures 1 rfl ?_)
  refine ExL.neq rfl rfl rfl rfl rfl rfl (fun h2 => ?_) (fun h2 => ?_)
  · refine ExL.nil ?_
    refine Ex.cond_t rfl ?_
    refine Ex.regSeq (ExL.pures 4 rfl ?_)
    refine ExL.nil ?_
    refine Ex.ret ?_
    refine RetQ.mk () rfl (.tmp rfl (.tmp rfl (.tmp rfl .nil))) (t3 (vI (by first | (rw [wo_bad (by assumption)]; first | done | rfl) | (rw [hfin]; first | done | rfl))) (vI (by first | (rw [wo_bad (by assumption)]; first | done | rfl) | (rw [hfin]; first | done | rfl))) (vI (by first | (rw [wo_bad (by assumption)]; first | done | rfl) | (rw [hfin]; first | done | rfl)))) [] (rfl) rfl (trivial)
  · refine ExL.nil ?_
    refine Ex.cond_f rfl ?_
    refine Ex.skip ?_
    have hcode : (bothV s t).2.2 = 0 := by omega
    have hB := both hcode
    have hTs := tot hB.vx
    have hTt := tot hB.vy
    have hBl := hB.le
    have hB0 := hB.lo
    have hB1 := hB.hi
    have hdb := fun d h1 h2 => drD_bd hB (day := d) h1 h2
    obtain ⟨f, hf⟩ : ∃ f, (bothV s t).1 = f := ⟨_, rfl⟩
    rw [hf]
    rw [hf] at hBl hB0 hdb
    refine Ex.regSeq (ExL.pures 2 rfl ?_)
    refine ExL.nil ?_
    refine Ex.regSeq (ExL.pures 3 rfl ?_)
    refine ExL.op rfl (op_ret rfl rfl rfl (c_l06Drift s (by assumption) _ _ (by omega) t (by assumption) _ _ (by omega) _) (fun w hw => ⟨Reads.get (Reads.old hs) w hw, Reads.get (Reads.old ht) w hw⟩) rfl rfl (fun x3 hx3 => ?_))
    refine ExL.pures 1 rfl ?_
    refine ExL.nil ?_
    refine Ex.seq ?_
    refine Ex.regSeq (ExL.pures 1 rfl ?_)
    refine ExL.free (by first | exact fr_add64 rfl rfl rfl (by omega) | exact fr_add rfl rfl rfl) rfl rfl rfl ?_
    refine ExL.pures 1 rfl ?_
    refine ExL.nil ?_
    refine Ex.block ?_
    refine Ex.loopK (X := Nat) (fun k => [(10, .int .i64 (f + (wkP s t f (k + 1) : Int))), (11, .int .i64 (drD s t (f + (wkP s t f (k + 1) : Int)))), (12, .int .i64 (f + ((k : Int) + 1)))]) (fun k => []) (fun k => f + (k : Int) ≤ (bothV s t).2.1) (fun k => ((bothV s t).2.1 - f).toNat - k) 0 [(0, _), (1, _), (4, _), (5, _), (6, _), (8, _)] [] 0 [] ⟨agI (by rw [wk_1]; simp), agI (by rw [wk_1]; simp), agI (by omega), trivial⟩ ⟨rfl, rfl, rfl, rfl, rfl, rfl, trivial⟩ (rfl) rfl (by omega) (fun k hI => ?_)
    have hI : f + (k : Int) ≤ (bothV s t).2.1 := hI
    refine Ex.seq ?_
    refine Ex.regSeq (ExL.pures 2 rfl ?_)
    refine ExL.leq rfl rfl rfl rfl rfl rfl (fun h4 => ?_) (fun h4 => ?_)
    · refine ExL.nil ?_
      refine Ex.cond_t rfl ?_
      refine Ex.skip ?_
      refine Ex.seq ?_
      refine Ex.block ?_
      have hwl := wk_le s t f (k + 1)
      have hd1 := hdb (f + ((k : Int) + 1)) (by omega) (by omega)
      have hd2 := hdb (f + (wkP s t f (k + 1) : Int)) (by omega) (by omega)
      refine Ex.regSeq (ExL.pures 3 rfl ?_)
      refine ExL.op rfl (op_ret rfl rfl rfl (c_l06Drift s (by assumption) _ _ (by omega) t (by assumption) _ _ (by omega) _) (fun w hw => ⟨Reads.get (Reads.old hs) w hw, Reads.get (Reads.old ht) w hw⟩) rfl rfl (fun x5 hx5 => ?_))
      refine ExL.pures 1 rfl ?_
      refine ExL.nil ?_
      refine Ex.regSeq (ExL.pures 2 rfl ?_)
      refine ExL.free (by first | exact fr_neg64 rfl rfl (by omega) | exact fr_neg rfl rfl) rfl rfl rfl ?_
      refine ExL.op rfl (op_ret rfl rfl rfl (c_l00Max _ _) (fun _ _ => trivial) rfl rfl (fun x6 hx6 => ?_))
      refine ExL.pures 2 rfl ?_
      refine ExL.free (by first | exact fr_neg64 rfl rfl (by omega) | exact fr_neg rfl rfl) rfl rfl rfl ?_
      refine ExL.op rfl (op_ret rfl rfl rfl (c_l00Max _ _) (fun _ _ => trivial) rfl rfl (fun x7 hx7 => ?_))
      refine ExL.gtr rfl rfl rfl rfl rfl rfl (fun h8 => ?_) (fun h8 => ?_)
      · refine ExL.nil ?_
        refine Ex.cond_t rfl ?_
        refine Ex.regSeq (ExL.pures 2 rfl ?_)
        refine ExL.nil ?_
        refine Ex.region (ExL.pures 2 rfl ?_)
        refine ExL.nil ?_
        refine Ex.region (ExL.pures 1 rfl ?_)
        refine ExL.free (by first | exact fr_add64 rfl rfl rfl (by omega) | exact fr_add rfl rfl rfl) rfl rfl rfl ?_
        refine ExL.pures 1 rfl ?_
        refine ExL.nil ?_
        refine Hand.mk (k + 1) 0 [] ⟨agI (by first | (rw [wk_y (k := k + 1) (by unfold absI; push_cast; omega)]; push_cast; rfl) | (rw [wk_n (k := k + 1) (by unfold absI; push_cast; omega)])), agI (by first | (rw [wk_y (k := k + 1) (by unfold absI; push_cast; omega)]; push_cast; rfl) | (rw [wk_n (k := k + 1) (by unfold absI; push_cast; omega)])), agI (by omega), trivial⟩ ⟨rfl, rfl, rfl, rfl, rfl, rfl, trivial⟩ (rfl) rfl (by omega) (by omega)
      · refine ExL.nil ?_
        refine Ex.cond_f rfl ?_
        refine Ex.skip ?_
        refine Ex.region (ExL.pures 1 rfl ?_)
        refine ExL.free (by first | exact fr_add64 rfl rfl rfl (by omega) | exact fr_add rfl rfl rfl) rfl rfl rfl ?_
        refine ExL.pures 1 rfl ?_
        refine ExL.nil ?_
        refine Hand.mk (k + 1) 0 [] ⟨agI (by first | (rw [wk_y (k := k + 1) (by unfold absI; push_cast; omega)]; push_cast; rfl) | (rw [wk_n (k := k + 1) (by unfold absI; push_cast; omega)])), agI (by first | (rw [wk_y (k := k + 1) (by unfold absI; push_cast; omega)]; push_cast; rfl) | (rw [wk_n (k := k + 1) (by unfold absI; push_cast; omega)])), agI (by omega), trivial⟩ ⟨rfl, rfl, rfl, rfl, rfl, rfl, trivial⟩ (rfl) rfl (by omega) (by omega)
    · refine ExL.nil ?_
      refine Ex.cond_f rfl ?_
      refine Ex.exit ?_
      have hfin := wo_ok (k := k + 1) hcode (by push_cast; rw [hf]; omega)
      rw [hf] at hfin
      refine Ex.regSeq (ExL.pures 5 rfl ?_)
      refine ExL.nil ?_
      refine Ex.ret ?_
      refine RetQ.mk () rfl (.tmp rfl (.tmp rfl (.tmp rfl .nil))) (t3 (vI (by first | (rw [wo_bad (by assumption)]; first | done | rfl) | (rw [hfin]; first | done | rfl))) (vI (by first | (rw [wo_bad (by assumption)]; first | done | rfl) | (rw [hfin]; first | done | rfl))) (vI (by first | (rw [wo_bad (by assumption)]; first | done | rfl) | (rw [hfin]; first | done | rfl)))) [] (rfl) rfl (trivial)
theorem e_43 : Enters Try.prog 43 := Enters.of Try.func43 rfl
theorem c_iWorst (s : List VP) (As : Option Addr) (cs : Nat) (hls : s.length ≤ maxLen) (t : List VP) (At : Option Addr) (ct : Nat) (hlt : t.length ≤ maxLen) : Ret Try.prog 43 [.slice As s.length cs, .slice At t.length ct] (fun w => Rd w As (s.flatMap encP) ∧ Rd w At (t.flatMap encP)) (fun x : Unit => .tuple #[.int .i64 (worstV s t).1, .int .i64 (worstV s t).2.1, .int .i64 (worstV s t).2.2]) (fun x => []) (fun x => True) := by
  refine Ret.of e_43 Try.func43 rfl Try.ntmps43 rfl rfl (fun w hpre => ?_)
  have hs := hpre.1.base
  have ht := hpre.2.base
  have hm0 : maxLen = 9223372036854775807 := rfl
  refine Ex.regSeq (ExL.pures 3 rfl ?_)
  refine ExL.nil ?_
  refine Ex.regSeq (ExL.pures 2 rfl ?_)
  refine ExL.op rfl (op_ret rfl rfl rfl (c_drifts s _ _ (by omega) t _ _ (by omega)) (fun w hw => ⟨Reads.get (Reads.old hs) w hw, Reads.get (Reads.old ht) w hw⟩) rfl rfl (fun x1 hx1 => ?_))
  refine ExL.pures 7 rfl ?_
  refine ExL.nil ?_
  refine Ex.seq ?_
  have hdv := dr_code s t
  refine Ex.regSeq (ExL.pures 1 rfl ?_)
  refine ExL.neq rfl rfl rfl rfl rfl rfl (fun h2 => ?_) (fun h2 => ?_)
  · refine ExL.nil ?_
    refine Ex.cond_t rfl ?_
    have hfin : worstV s t = (0, 0, (drV s t).2.2) := by rw [hdv] at *; exact wo_bad (by assumption)
    refine Ex.regSeq (ExL.pures 4 rfl ?_)
    refine ExL.nil ?_
    refine Ex.ret ?_
    refine RetQ.mk () rfl (.tmp rfl (.tmp rfl (.tmp rfl .nil))) (t3 (vI (by first | (rw [hfin]; first | done | rfl))) (vI (by first | (rw [hfin]; first | done | rfl))) (vI (by first | (rw [hfin]; first | done | rfl)))) [] (rfl) rfl (trivial)
  · refine ExL.nil ?_
    refine Ex.cond_f rfl ?_
    refine Ex.skip ?_
    have hcode : (bothV s t).2.2 = 0 := by omega
    have hB := both hcode
    have hBl := hB.le
    have hB0 := hB.lo
    have hB1 := hB.hi
    have hsp := hB.span
    obtain ⟨hf1, hf2, hel⟩ := dr_el hcode
    have hwr := fun k hk => worst_row (s := s) (t := t) (k := k) hcode hk
    obtain ⟨f, hf⟩ : ∃ f, (drV s t).2.1 = f := ⟨_, rfl⟩
    rw [hf]
    rw [hf] at hf1 hel hwr
    refine Ex.regSeq (ExL.pures 1 rfl ?_)
    refine ExL.nil ?_
    refine Ex.seq ?_
    refine Ex.regSeq (ExL.pures 3 rfl ?_)
    refine ExL.nil ?_
    refine Ex.block ?_
    refine Ex.loopK (X := Nat) (fun k => [(10, .int .i64 (wkP s t f k)), (25, .int .i64 k)]) (fun k => []) (fun k => k ≤ (drV s t).1.length) (fun k => (drV s t).1.length - k) 0 [(4, _), (5, _), (6, _), (7, _), (8, _), (23, _), (24, _)] [_] 1 [0] ⟨rfl, rfl, trivial⟩ ⟨rfl, rfl, rfl, rfl, rfl, rfl, rfl, trivial⟩ (rfl) rfl (Nat.zero_le _) (fun k hI => ?_)
    have hI : k ≤ (drV s t).1.length := hI
    refine Ex.regSeq (ExL.pures 0 rfl ?_)
    refine ExL.lss rfl rfl rfl rfl rfl rfl (fun h3 => ?_) (fun h3 => ?_)
    · refine ExL.nil ?_
      refine Ex.seq ?_
      refine Ex.cond_t rfl ?_
      refine Ex.skip ?_
      refine Ex.seq ?_
      refine Ex.block ?_
      have hwl := wk_le s t f k
      have hkl : k < (drV s t).1.length := by omega
      have e1 := hel k hkl
      have e2 := hel (wkP s t f k) (by omega)
      refine Ex.regSeq (ExL.pures 1 rfl ?_)
      refine ExL.free (fr_indexAddrR (sz := 1) 0 rfl rfl rfl rfl rfl rfl (by omega)) rfl rfl rfl ?_
      refine ExL.free (fr_load rfl rfl rfl rfl (by first | exact cellN (Reads.row (i := 0) rfl) (eI_len .i64) 0 0 rfl (by omega) rfl | exact cellF (Reads.row (i := 0) rfl) (eI_len .i64) 0 0 rfl (by omega) rfl)) rfl rfl rfl ?_
      refine ExL.pures 2 rfl ?_
      refine ExL.nil ?_
      refine Ex.drawSeqM rfl ?_
      refine ExD.take (i := 0) rfl (by kernel_rfl) (pureVal_ok rfl) ((List.Sublist.refl _)) rfl rfl rfl ?_
      refine ExD.take (i := 2) rfl (by kernel_rfl) (pureVal_ok rfl) ((List.Sublist.refl _)) rfl rfl rfl ?_
      refine ExD.take (i := 3) rfl (by kernel_rfl) (pureVal_ok rfl) ((List.Sublist.refl _)) rfl rfl rfl ?_
      refine ExD.take (i := 4) rfl (by kernel_rfl) (fr_indexAddrR (sz := 1) 0 rfl rfl rfl rfl rfl rfl (by omega)) ((List.Sublist.refl _)) rfl rfl rfl ?_
      refine ExD.take (i := 5) rfl (by kernel_rfl) (fr_load rfl rfl rfl rfl (cellJ (i := ↑(wkP s t f k)) ((wkP s t f k)) (Reads.row (i := 0) rfl) (eI_len .i64) 0 0 rfl (by omega) (by omega) rfl)) ((List.Sublist.refl _)) rfl rfl rfl ?_
      refine ExD.op (i := 1) rfl (by kernel_rfl) rfl (op_ret rfl rfl rfl (c_absolute _ (by omega)) (fun _ _ => trivial) rfl rfl (fun x4 hx4 => ⟨(List.Sublist.refl _), ?_⟩))
      refine ExD.op (i := 6) rfl (by kernel_rfl) rfl (op_ret rfl rfl rfl (c_absolute _ (by omega)) (fun _ _ => trivial) rfl rfl (fun x5 hx5 => ⟨(List.Sublist.refl _), ?_⟩))
      refine ExD.cmp_gtr (i := 7) rfl (by kernel_rfl) rfl rfl rfl ((List.Sublist.refl _)) rfl rfl rfl (fun h6 => ?_) (fun h6 => ?_)
      · refine ExD.done (by kernel_rfl) ?_
        refine Ex.cond_t rfl ?_
        refine Ex.region (ExL.pures 2 rfl ?_)
        refine ExL.nil ?_
        refine Ex.region (ExL.pures 0 rfl ?_)
        refine ExL.free (by first | exact fr_add64 rfl rfl rfl (by omega) | exact fr_add rfl rfl rfl) rfl rfl rfl ?_
        refine ExL.pures 1 rfl ?_
        refine ExL.nil ?_
        refine Hand.mk (k + 1) 1 [0] ⟨agI (by first | (rw [wk_y (k := k) (by rw [← e1.1, ← e2.1]; omega)]) | (rw [wk_n (k := k) (by rw [← e1.1, ← e2.1]; omega)])), rfl, trivial⟩ ⟨rfl, rfl, rfl, rfl, rfl, rfl, rfl, trivial⟩ (rfl) rfl (by omega) (by omega)
      · refine ExD.done (by kernel_rfl) ?_
        refine Ex.cond_f rfl ?_
        refine Ex.skip ?_
        refine Ex.region (ExL.pures 0 rfl ?_)
        refine ExL.free (by first | exact fr_add64 rfl rfl rfl (by omega) | exact fr_add rfl rfl rfl) rfl rfl rfl ?_
        refine ExL.pures 1 rfl ?_
        refine ExL.nil ?_
        refine Hand.mk (k + 1) 1 [0] ⟨agI (by first | (rw [wk_y (k := k) (by rw [← e1.1, ← e2.1]; omega)]) | (rw [wk_n (k := k) (by rw [← e1.1, ← e2.1]; omega)])), rfl, trivial⟩ ⟨rfl, rfl, rfl, rfl, rfl, rfl, rfl, trivial⟩ (rfl) rfl (by omega) (by omega)
    · refine ExL.nil ?_
      refine Ex.seq ?_
      refine Ex.cond_f rfl ?_
      refine Ex.exit ?_
      have hkn : k = (drV s t).1.length := by omega
      have hwl := wk_le s t f k
      have hfin := hwr k hkn
      refine Ex.drawSeqM rfl ?_
      refine ExD.take (i := 0) rfl (by kernel_rfl) (pureVal_ok rfl) ((List.Sublist.refl _)) rfl rfl rfl ?_
      refine ExD.take (i := 1) rfl (by kernel_rfl) (pureVal_ok rfl) ((List.Sublist.refl _)) rfl rfl rfl ?_
      refine ExD.take (i := 2) rfl (by kernel_rfl) (by first | exact fr_add64 rfl rfl rfl (by omega) | exact fr_add rfl rfl rfl) ((List.Sublist.refl _)) rfl rfl rfl ?_
      refine ExD.take (i := 3) rfl (by kernel_rfl) (pureVal_ok rfl) ((List.Sublist.refl _)) rfl rfl rfl ?_
      refine ExD.take (i := 4) rfl (by kernel_rfl) (pureVal_ok rfl) ((List.Sublist.refl _)) rfl rfl rfl ?_
      refine ExD.take (i := 5) rfl (by kernel_rfl) (fr_indexAddrR (sz := 1) 0 rfl rfl rfl rfl rfl rfl (by omega)) ((List.Sublist.refl _)) rfl rfl rfl ?_
      refine ExD.take (i := 6) rfl (by kernel_rfl) (fr_load rfl rfl rfl rfl (cellJ (i := ↑(wkP s t f k)) ((wkP s t f k)) (Reads.row (i := 0) rfl) (eI_len .i64) 0 0 rfl (by omega) (by omega) rfl)) ((List.Sublist.refl _)) rfl rfl rfl ?_
      refine ExD.take (i := 7) rfl (by kernel_rfl) (pureVal_ok rfl) ((List.Sublist.refl _)) rfl rfl rfl ?_
      refine ExD.take (i := 8) rfl (by kernel_rfl) (pureVal_ok rfl) ((List.Sublist.refl _)) rfl rfl rfl ?_
      refine ExD.take (i := 9) rfl (by kernel_rfl) (pureVal_ok rfl) ((List.Sublist.refl _)) rfl rfl rfl ?_
      refine ExD.done (by kernel_rfl) ?_
      refine Ex.ret ?_
      refine RetQ.mk () rfl (.tmp rfl (.tmp rfl (.tmp rfl .nil))) (t3 (vI (by first | (rw [hfin]; first | done | rfl))) (vI (by first | (rw [hfin]; first | done | rfl))) (vI (by first | (rw [hfin]; first | done | rfl)))) [] (rfl) rfl (trivial)
end Go.Proofs.Ytepahnikcojepaa
