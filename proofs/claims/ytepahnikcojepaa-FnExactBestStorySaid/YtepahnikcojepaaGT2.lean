/- What these functions of the program hand back, each proved by walking its operations. -/
import Derived.Test.YtepahnikcojepaaProg
import Derived.Test.YtepahnikcojepaaFw
import Derived.Test.YtepahnikcojepaaGT1
set_option linter.unusedVariables false
set_option linter.unusedSimpArgs false
set_option maxRecDepth 4000
namespace Go.Proofs.Ytepahnikcojepaa
open Go Go.Sx Go.RowKit Go.W Go.Proofs
attribute [local irreducible] Ex ExL ExD Op1 Free RetQ MutQ Reads CellO SegO LoadsAs
theorem e_62 : Enters Try.prog 62 := Enters.of Try.func62 rfl
theorem c_slMin (s : List Int) (As : Option Addr) (cs : Nat) (hls : s.length ≤ maxLen) (h0 : 0 < s.length) : Ret Try.prog 62 [.slice As s.length cs] (fun w => Rd w As (s.flatMap (eI .i64))) (fun x : Unit => .int .i64 (minL s (s.length - 1))) (fun x => []) (fun x => True) := by
  refine Ret.of e_62 Try.func62 rfl Try.ntmps62 rfl rfl (fun w hpre => ?_)
  have hs := hpre.base
  have hm0 : maxLen = 9223372036854775807 := rfl
  refine Ex.regSeq (ExL.pures 1 rfl ?_)
  refine ExL.nil ?_
  refine Ex.seq ?_
  refine Ex.regSeq (ExL.pures 2 rfl ?_)
  refine ExL.free (fr_lss_f rfl rfl rfl (by omega)) rfl rfl rfl ?_
  refine ExL.nil ?_
  refine Ex.cond_f rfl ?_
  refine Ex.skip ?_
  refine Ex.regSeq (ExL.pures 1 rfl ?_)
  refine ExL.free (fr_indexAddrF (Reads.old hs) (eI_len .i64) rfl rfl rfl rfl rfl rfl (by omega)) rfl rfl rfl ?_
  refine ExL.free (fr_load rfl rfl rfl rfl (cellJ (i := 0) (0) (Reads.old hs) (eI_len .i64) 0 0 rfl (by omega) (by omega) rfl)) rfl rfl rfl ?_
  refine ExL.pures 1 rfl ?_
  refine ExL.nil ?_
  refine Ex.seq ?_
  refine Ex.regSeq (ExL.pures 1 rfl ?_)
  refine ExL.nil ?_
  refine Ex.block ?_
  refine Ex.loopK (X := Nat) (fun k => [(3, .int .i64 (minL s k)), (4, .int .i64 (k + 1))]) (fun k => []) (fun k => k + 1 ≤ s.length) (fun k => s.length - k) 0 [(0, _), (2, _)] [] 0 [] ⟨rfl, agI (by omega), trivial⟩ ⟨rfl, rfl, trivial⟩ (rfl) rfl (by omega) (fun k hI => ?_)
  have hI : k + 1 ≤ s.length := hI
  refine Ex.seq ?_
  refine Ex.regSeq (ExL.pures 3 rfl ?_)
  refine ExL.lss rfl rfl rfl rfl rfl rfl (fun h1 => ?_) (fun h1 => ?_)
  · refine ExL.nil ?_
    refine Ex.cond_t rfl ?_
    refine Ex.skip ?_
    refine Ex.seq ?_
    refine Ex.block ?_
    refine Ex.region (ExL.pures 3 rfl ?_)
    refine ExL.free (fr_indexAddrF (Reads.old hs) (eI_len .i64) rfl rfl rfl rfl rfl rfl (by omega)) rfl rfl rfl ?_
    refine ExL.free (fr_load rfl rfl rfl rfl (cellJ (i := (↑k + 1)) ((k + 1)) (Reads.old hs) (eI_len .i64) 0 0 rfl (by omega) (by omega) rfl)) rfl rfl rfl ?_
    refine ExL.free (fr_min rfl rfl rfl) rfl rfl rfl ?_
    refine ExL.pures 1 rfl ?_
    refine ExL.nil ?_
    refine Ex.region (ExL.pures 1 rfl ?_)
    refine ExL.free (by first | exact fr_add64 rfl rfl rfl (by omega) | exact fr_add rfl rfl rfl) rfl rfl rfl ?_
    refine ExL.pures 1 rfl ?_
    refine ExL.nil ?_
    refine Hand.mk (k + 1) 0 [] ⟨rfl, agI (by omega), trivial⟩ ⟨rfl, rfl, trivial⟩ (rfl) rfl (by omega) (by omega)
  · refine ExL.nil ?_
    refine Ex.cond_f rfl ?_
    refine Ex.exit ?_
    have hkn : s.length - 1 = k := by omega
    refine Ex.regSeq (ExL.pures 2 rfl ?_)
    refine ExL.nil ?_
    refine Ex.ret ?_
    refine RetQ.mk () rfl (.tmp rfl .nil) (tI (by rw [hkn])) [] (rfl) rfl (trivial)
theorem e_63 : Enters Try.prog 63 := Enters.of Try.func63 rfl
theorem c_slMax (s : List Int) (As : Option Addr) (cs : Nat) (hls : s.length ≤ maxLen) (h0 : 0 < s.length) : Ret Try.prog 63 [.slice As s.length cs] (fun w => Rd w As (s.flatMap (eI .i64))) (fun x : Unit => .int .i64 (maxL s (s.length - 1))) (fun x => []) (fun x => True) := by
  refine Ret.of e_63 Try.func63 rfl Try.ntmps63 rfl rfl (fun w hpre => ?_)
  have hs := hpre.base
  have hm0 : maxLen = 9223372036854775807 := rfl
  refine Ex.regSeq (ExL.pures 1 rfl ?_)
  refine ExL.nil ?_
  refine Ex.seq ?_
  refine Ex.regSeq (ExL.pures 2 rfl ?_)
  refine ExL.free (fr_lss_f rfl rfl rfl (by omega)) rfl rfl rfl ?_
  refine ExL.nil ?_
  refine Ex.cond_f rfl ?_
  refine Ex.skip ?_
  refine Ex.regSeq (ExL.pures 1 rfl ?_)
  refine ExL.free (fr_indexAddrF (Reads.old hs) (eI_len .i64) rfl rfl rfl rfl rfl rfl (by omega)) rfl rfl rfl ?_
  refine ExL.free (fr_load rfl rfl rfl rfl (cellJ (i := 0) (0) (Reads.old hs) (eI_len .i64) 0 0 rfl (by omega) (by omega) rfl)) rfl rfl rfl ?_
  refine ExL.pures 1 rfl ?_
  refine ExL.nil ?_
  refine Ex.seq ?_
  refine Ex.regSeq (ExL.pures 1 rfl ?_)
  refine ExL.nil ?_
  refine Ex.block ?_
  refine Ex.loopK (X := Nat) (fun k => [(3, .int .i64 (maxL s k)), (4, .int .i64 (k + 1))]) (fun k => []) (fun k => k + 1 ≤ s.length) (fun k => s.length - k) 0 [(0, _), (2, _)] [] 0 [] ⟨rfl, agI (by omega), trivial⟩ ⟨rfl, rfl, trivial⟩ (rfl) rfl (by omega) (fun k hI => ?_)
  have hI : k + 1 ≤ s.length := hI
  refine Ex.seq ?_
  refine Ex.regSeq (ExL.pures 3 rfl ?_)
  refine ExL.lss rfl rfl rfl rfl rfl rfl (fun h1 => ?_) (fun h1 => ?_)
  · refine ExL.nil ?_
    refine Ex.cond_t rfl ?_
    refine Ex.skip ?_
    refine Ex.seq ?_
    refine Ex.block ?_
    refine Ex.region (ExL.pures 3 rfl ?_)
    refine ExL.free (fr_indexAddrF (Reads.old hs) (eI_len .i64) rfl rfl rfl rfl rfl rfl (by omega)) rfl rfl rfl ?_
    refine ExL.free (fr_load rfl rfl rfl rfl (cellJ (i := (↑k + 1)) ((k + 1)) (Reads.old hs) (eI_len .i64) 0 0 rfl (by omega) (by omega) rfl)) rfl rfl rfl ?_
    refine ExL.free (fr_max rfl rfl rfl) rfl rfl rfl ?_
    refine ExL.pures 1 rfl ?_
    refine ExL.nil ?_
    refine Ex.region (ExL.pures 1 rfl ?_)
    refine ExL.free (by first | exact fr_add64 rfl rfl rfl (by omega) | exact fr_add rfl rfl rfl) rfl rfl rfl ?_
    refine ExL.pures 1 rfl ?_
    refine ExL.nil ?_
    refine Hand.mk (k + 1) 0 [] ⟨rfl, agI (by omega), trivial⟩ ⟨rfl, rfl, trivial⟩ (rfl) rfl (by omega) (by omega)
  · refine ExL.nil ?_
    refine Ex.cond_f rfl ?_
    refine Ex.exit ?_
    have hkn : s.length - 1 = k := by omega
    refine Ex.regSeq (ExL.pures 2 rfl ?_)
    refine ExL.nil ?_
    refine Ex.ret ?_
    refine RetQ.mk () rfl (.tmp rfl .nil) (tI (by rw [hkn])) [] (rfl) rfl (trivial)
theorem e_61 : Enters Try.prog 61 := Enters.of Try.func61 rfl
theorem c_drifts (s : List VP) (As : Option Addr) (cs : Nat) (hls : s.length ≤ maxLen) (t : List VP) (At : Option Addr) (ct : Nat) (hlt : t.length ≤ maxLen) : Ret Try.prog 61 [.slice As s.length cs, .slice At t.length ct] (fun w => Rd w As (s.flatMap encP) ∧ Rd w At (t.flatMap encP)) (fun x : Option Addr × Nat => .tuple #[.slice x.1 (drV s t).1.length x.2, .int .i64 (drV s t).2.1, .int .i64 (drV s t).2.2]) (fun x => [.row (.slice x.1 (drV s t).1.length x.2) 2 1 (drV s t).1.length ((drV s t).1.flatMap (eI .i64))]) (fun x => True) := by
  refine Ret.of e_61 Try.func61 rfl Try.ntmps61 rfl rfl (fun w hpre => ?_)
  have hs := hpre.1.base
  have ht := hpre.2.base
  have hm0 : maxLen = 9223372036854775807 := rfl
  refine Ex.regSeq (ExL.pures 3 rfl ?_)
  refine ExL.nil ?_
  refine Ex.seq ?_
  refine Ex.regSeq (ExL.pures 1 rfl ?_)
  refine ExL.op rfl (op_ret rfl rfl rfl (c_ValidTotals s _ _ (by omega)) (Reads.get (Reads.old hs)) rfl rfl (fun x1 hx1 => ?_))
  refine ExL.pures 2 rfl ?_
  refine ExL.bool (d := 14) rfl (fun hb2 => ?_) (fun hb2 => ?_)
  · replace hb2 := nb_t hb2
    refine ExL.pures 4 rfl ?_
    refine ExL.nil ?_
    refine Ex.cond_t rfl ?_
    refine Ex.regSeq (ExL.pures 3 rfl ?_)
    refine ExL.nil ?_
    refine Ex.nilRow 2 1 ?_
    refine Ex.ret ?_
    refine RetQ.mk (none, 0) rfl (.tmp rfl (.tmp rfl (.tmp rfl .nil))) (t3 (by first | (rw [dr_ok hcode hkn, hf1]; first | done | rfl) | (rw [dr_3 (by rw [(by assumption : validTot s = true), (by assumption : validTot t = true)]; rfl) (by omega) (by omega)]; first | done | rfl) | (rw [dr_6 (by rw [(by assumption : validTot s = true), (by assumption : validTot t = true)]; rfl) (by omega)]; first | done | rfl) | (rw [dr_1 (by rw [(by assumption : validTot s = true), (by assumption : validTot t = false)]; rfl)]; first | done | rfl) | (rw [dr_1 (by rw [(by assumption : validTot s = false)]; rfl)]; first | done | rfl)) (by first | (rw [dr_ok hcode hkn, hf1]; first | done | rfl) | (rw [dr_3 (by rw [(by assumption : validTot s = true), (by assumption : validTot t = true)]; rfl) (by omega) (by omega)]; first | done | rfl) | (rw [dr_6 (by rw [(by assumption : validTot s = true), (by assumption : validTot t = true)]; rfl) (by omega)]; first | done | rfl) | (rw [dr_1 (by rw [(by assumption : validTot s = true), (by assumption : validTot t = false)]; rfl)]; first | done | rfl) | (rw [dr_1 (by rw [(by assumption : validTot s = false)]; rfl)]; first | done | rfl)) (by first | (rw [dr_ok hcode hkn, hf1]; first | done | rfl) | (rw [dr_3 (by rw [(by assumption : validTot s = true), (by assumption : validTot t = true)]; rfl) (by omega) (by omega)]; first | done | rfl) | (rw [dr_6 (by rw [(by assumption : validTot s = true), (by assumption : validTot t = true)]; rfl) (by omega)]; first | done | rfl) | (rw [dr_1 (by rw [(by assumption : validTot s = true), (by assumption : validTot t = false)]; rfl)]; first | done | rfl) | (rw [dr_1 (by rw [(by assumption : validTot s = false)]; rfl)]; first | done | rfl))) [0] (by first | (rw [dr_ok hcode hkn, hf1]; first | done | rfl) | (rw [dr_3 (by rw [(by assumption : validTot s = true), (by assumption : validTot t = true)]; rfl) (by omega) (by omega)]; first | done | rfl) | (rw [dr_6 (by rw [(by assumption : validTot s = true), (by assumption : validTot t = true)]; rfl) (by omega)]; first | done | rfl) | (rw [dr_1 (by rw [(by assumption : validTot s = true), (by assumption : validTot t = false)]; rfl)]; first | done | rfl) | (rw [dr_1 (by rw [(by assumption : validTot s = false)]; rfl)]; first | done | rfl)) rfl (trivial)
  · replace hb2 := nb_f hb2
    refine ExL.pures 1 rfl ?_
    refine ExL.op rfl (op_ret rfl rfl rfl (c_ValidTotals t _ _ (by omega)) (Reads.get (Reads.old ht)) rfl rfl (fun x3 hx3 => ?_))
    refine ExL.pures 2 rfl ?_
    refine ExL.nil ?_
    refine Ex.cond rfl (fun hb4 => ?_) (fun hb4 => ?_)
    · replace hb4 := nb_t hb4
      refine Ex.regSeq (ExL.pures 3 rfl ?_)
      refine ExL.nil ?_
      refine Ex.nilRow 2 1 ?_
      refine Ex.ret ?_
      refine RetQ.mk (none, 0) rfl (.tmp rfl (.tmp rfl (.tmp rfl .nil))) (t3 (by first | (rw [dr_ok hcode hkn, hf1]; first | done | rfl) | (rw [dr_3 (by rw [(by assumption : validTot s = true), (by assumption : validTot t = true)]; rfl) (by omega) (by omega)]; first | done | rfl) | (rw [dr_6 (by rw [(by assumption : validTot s = true), (by assumption : validTot t = true)]; rfl) (by omega)]; first | done | rfl) | (rw [dr_1 (by rw [(by assumption : validTot s = true), (by assumption : validTot t = false)]; rfl)]; first | done | rfl) | (rw [dr_1 (by rw [(by assumption : validTot s = false)]; rfl)]; first | done | rfl)) (by first | (rw [dr_ok hcode hkn, hf1]; first | done | rfl) | (rw [dr_3 (by rw [(by assumption : validTot s = true), (by assumption : validTot t = true)]; rfl) (by omega) (by omega)]; first | done | rfl) | (rw [dr_6 (by rw [(by assumption : validTot s = true), (by assumption : validTot t = true)]; rfl) (by omega)]; first | done | rfl) | (rw [dr_1 (by rw [(by assumption : validTot s = true), (by assumption : validTot t = false)]; rfl)]; first | done | rfl) | (rw [dr_1 (by rw [(by assumption : validTot s = false)]; rfl)]; first | done | rfl)) (by first | (rw [dr_ok hcode hkn, hf1]; first | done | rfl) | (rw [dr_3 (by rw [(by assumption : validTot s = true), (by assumption : validTot t = true)]; rfl) (by omega) (by omega)]; first | done | rfl) | (rw [dr_6 (by rw [(by assumption : validTot s = true), (by assumption : validTot t = true)]; rfl) (by omega)]; first | done | rfl) | (rw [dr_1 (by rw [(by assumption : validTot s = true), (by assumption : validTot t = false)]; rfl)]; first | done | rfl) | (rw [dr_1 (by rw [(by assumption : validTot s = false)]; rfl)]; first | done | rfl))) [0] (by first | (rw [dr_ok hcode hkn, hf1]; first | done | rfl) | (rw [dr_3 (by rw [(by assumption : validTot s = true), (by assumption : validTot t = true)]; rfl) (by omega) (by omega)]; first | done | rfl) | (rw [dr_6 (by rw [(by assumption : validTot s = true), (by assumption : validTot t = true)]; rfl) (by omega)]; first | done | rfl) | (rw [dr_1 (by rw [(by assumption : validTot s = true), (by assumption : validTot t = false)]; rfl)]; first | done | rfl) | (rw [dr_1 (by rw [(by assumption : validTot s = false)]; rfl)]; first | done | rfl)) rfl (trivial)
    · replace hb4 := nb_f hb4
      refine Ex.skip ?_
      refine Ex.regSeq (ExL.pures 2 rfl ?_)
      refine ExL.op rfl (op_buildSlice (sz := 1) rfl rfl rfl rfl rfl rfl rfl rfl (by decide) rfl rfl rfl (fun r5 => ?_))
      refine ExL.op rfl (op_ret rfl rfl rfl (c_commonDays [⟨As, cs, s⟩, ⟨At, ct, t⟩] (tot2 (tot (by assumption)) (tot (by assumption))) _ _ (by first | omega | (simp; unfold maxLen; omega))) (fun w hw => ⟨Reads.get (Reads.row (i := 0) rfl) w hw, rd2 (Reads.get (Reads.old hs) w hw) (Reads.get (Reads.old ht) w hw)⟩) rfl rfl (fun x6 hx6 => ?_))
      refine ExL.pures 5 rfl ?_
      refine ExL.nil ?_
      refine Ex.seq ?_
      refine Ex.block ?_
      have hcl := com_lo2 [⟨As, cs, s⟩, ⟨At, ct, t⟩]
      refine Ex.regSeq (ExL.pures 2 rfl ?_)
      refine ExL.gtr rfl rfl rfl rfl rfl rfl (fun h7 => ?_) (fun h7 => ?_)
      · refine ExL.pures 1 rfl ?_
        refine ExL.nil ?_
        refine Ex.cond_t rfl ?_
        refine Ex.regSeq (ExL.pures 3 rfl ?_)
        refine ExL.nil ?_
        refine Ex.nilRow 2 1 ?_
        refine Ex.ret ?_
        refine RetQ.mk (none, 0) rfl (.tmp rfl (.tmp rfl (.tmp rfl .nil))) (t3 (by first | (rw [dr_ok hcode hkn, hf1]; first | done | rfl) | (rw [dr_3 (by rw [(by assumption : validTot s = true), (by assumption : validTot t = true)]; rfl) (by omega) (by omega)]; first | done | rfl) | (rw [dr_6 (by rw [(by assumption : validTot s = true), (by assumption : validTot t = true)]; rfl) (by omega)]; first | done | rfl) | (rw [dr_1 (by rw [(by assumption : validTot s = true), (by assumption : validTot t = false)]; rfl)]; first | done | rfl) | (rw [dr_1 (by rw [(by assumption : validTot s = false)]; rfl)]; first | done | rfl)) (by first | (rw [dr_ok hcode hkn, hf1]; first | done | rfl) | (rw [dr_3 (by rw [(by assumption : validTot s = true), (by assumption : validTot t = true)]; rfl) (by omega) (by omega)]; first | done | rfl) | (rw [dr_6 (by rw [(by assumption : validTot s = true), (by assumption : validTot t = true)]; rfl) (by omega)]; first | done | rfl) | (rw [dr_1 (by rw [(by assumption : validTot s = true), (by assumption : validTot t = false)]; rfl)]; first | done | rfl) | (rw [dr_1 (by rw [(by assumption : validTot s = false)]; rfl)]; first | done | rfl)) (by first | (rw [dr_ok hcode hkn, hf1]; first | done | rfl) | (rw [dr_3 (by rw [(by assumption : validTot s = true), (by assumption : validTot t = true)]; rfl) (by omega) (by omega)]; first | done | rfl) | (rw [dr_6 (by rw [(by assumption : validTot s = true), (by assumption : validTot t = true)]; rfl) (by omega)]; first | done | rfl) | (rw [dr_1 (by rw [(by assumption : validTot s = true), (by assumption : validTot t = false)]; rfl)]; first | done | rfl) | (rw [dr_1 (by rw [(by assumption : validTot s = false)]; rfl)]; first | done | rfl))) [0] (by first | (rw [dr_ok hcode hkn, hf1]; first | done | rfl) | (rw [dr_3 (by rw [(by assumption : validTot s = true), (by assumption : validTot t = true)]; rfl) (by omega) (by omega)]; first | done | rfl) | (rw [dr_6 (by rw [(by assumption : validTot s = true), (by assumption : validTot t = true)]; rfl) (by omega)]; first | done | rfl) | (rw [dr_1 (by rw [(by assumption : validTot s = true), (by assumption : validTot t = false)]; rfl)]; first | done | rfl) | (rw [dr_1 (by rw [(by assumption : validTot s = false)]; rfl)]; first | done | rfl)) rfl (trivial)
      · refine ExL.pures 1 rfl ?_
        refine ExL.nil ?_
        refine Ex.cond_f rfl ?_
        refine Ex.regSeq (ExL.pures 2 rfl ?_)
        refine ExL.free (by first | exact fr_sub64 rfl rfl rfl (by omega) | exact fr_sub rfl rfl rfl) rfl rfl rfl ?_
        refine ExL.free (by first | exact fr_add64 rfl rfl rfl (by omega) | exact fr_add rfl rfl rfl) rfl rfl rfl ?_
        refine ExL.gtr rfl rfl rfl rfl rfl rfl (fun h8 => ?_) (fun h8 => ?_)
        · refine ExL.pures 1 rfl ?_
          refine ExL.nil ?_
          refine Ex.cond_t rfl ?_
          refine Ex.regSeq (ExL.pures 3 rfl ?_)
          refine ExL.nil ?_
          refine Ex.nilRow 2 1 ?_
          refine Ex.ret ?_
          refine RetQ.mk (none, 0) rfl (.tmp rfl (.tmp rfl (.tmp rfl .nil))) (t3 (by first | (rw [dr_ok hcode hkn, hf1]; first | done | rfl) | (rw [dr_3 (by rw [(by assumption : validTot s = true), (by assumption : validTot t = true)]; rfl) (by omega) (by omega)]; first | done | rfl) | (rw [dr_6 (by rw [(by assumption : validTot s = true), (by assumption : validTot t = true)]; rfl) (by omega)]; first | done | rfl) | (rw [dr_1 (by rw [(by assumption : validTot s = true), (by assumption : validTot t = false)]; rfl)]; first | done | rfl) | (rw [dr_1 (by rw [(by assumption : validTot s = false)]; rfl)]; first | done | rfl)) (by first | (rw [dr_ok hcode hkn, hf1]; first | done | rfl) | (rw [dr_3 (by rw [(by assumption : validTot s = true), (by assumption : validTot t = true)]; rfl) (by omega) (by omega)]; first | done | rfl) | (rw [dr_6 (by rw [(by assumption : validTot s = true), (by assumption : validTot t = true)]; rfl) (by omega)]; first | done | rfl) | (rw [dr_1 (by rw [(by assumption : validTot s = true), (by assumption : validTot t = false)]; rfl)]; first | done | rfl) | (rw [dr_1 (by rw [(by assumption : validTot s = false)]; rfl)]; first | done | rfl)) (by first | (rw [dr_ok hcode hkn, hf1]; first | done | rfl) | (rw [dr_3 (by rw [(by assumption : validTot s = true), (by assumption : validTot t = true)]; rfl) (by omega) (by omega)]; first | done | rfl) | (rw [dr_6 (by rw [(by assumption : validTot s = true), (by assumption : validTot t = true)]; rfl) (by omega)]; first | done | rfl) | (rw [dr_1 (by rw [(by assumption : validTot s = true), (by assumption : validTot t = false)]; rfl)]; first | done | rfl) | (rw [dr_1 (by rw [(by assumption : validTot s = false)]; rfl)]; first | done | rfl))) [0] (by first | (rw [dr_ok hcode hkn, hf1]; first | done | rfl) | (rw [dr_3 (by rw [(by assumption : validTot s = true), (by assumption : validTot t = true)]; rfl) (by omega) (by omega)]; first | done | rfl) | (rw [dr_6 (by rw [(by assumption : validTot s = true), (by assumption : validTot t = true)]; rfl) (by omega)]; first | done | rfl) | (rw [dr_1 (by rw [(by assumption : validTot s = true), (by assumption : validTot t = false)]; rfl)]; first | done | rfl) | (rw [dr_1 (by rw [(by assumption : validTot s = false)]; rfl)]; first | done | rfl)) rfl (trivial)
        · refine ExL.pures 1 rfl ?_
          refine ExL.nil ?_
          refine Ex.cond_f rfl ?_
          refine Ex.skip ?_
          have hvv : (validTot s && validTot t) = true := by simp_all
          have hbo := both_of hvv (by omega) (by omega)
          have hcode : (bothV s t).2.2 = 0 := by rw [hbo]
          have hB := both hcode
          have hf1 : (bothV s t).1 = (comI [⟨As, cs, s⟩, ⟨At, ct, t⟩]).1 := by rw [hbo]
          have hf2 : (bothV s t).2.1 = (comI [⟨As, cs, s⟩, ⟨At, ct, t⟩]).2 := by rw [hbo]
          have hTs := tot hB.vx
          have hTt := tot hB.vy
          have hBl := hB.le
          have hB0 := hB.lo
          have hB1 := hB.hi
          have hB2 := hB.span
          refine Ex.regSeq (ExL.pures 0 rfl ?_)
          refine ExL.op rfl (op_buildSlice (sz := 1) rfl rfl rfl rfl rfl rfl rfl rfl (by decide) rfl rfl rfl (fun r9 => ?_))
          refine ExL.pures 1 rfl ?_
          refine ExL.nil ?_
          refine Ex.seq ?_
          refine Ex.regSeq (ExL.pures 2 rfl ?_)
          refine ExL.nil ?_
          refine Ex.block ?_
          refine Ex.loopA (fun k A c => [(9, .slice A (drL s t (comI [⟨As, cs, s⟩, ⟨At, ct, t⟩]).1 k).length c), (10, .int .i64 ((comI [⟨As, cs, s⟩, ⟨At, ct, t⟩]).1 + (k : Int)))]) (fun k A c => [.row (.slice A (drL s t (comI [⟨As, cs, s⟩, ⟨At, ct, t⟩]).1 k).length c) 2 1 (drL s t (comI [⟨As, cs, s⟩, ⟨At, ct, t⟩]).1 k).length ((drL s t (comI [⟨As, cs, s⟩, ⟨At, ct, t⟩]).1 k).flatMap (eI .i64))]) (fun k => (comI [⟨As, cs, s⟩, ⟨At, ct, t⟩]).1 + (k : Int) ≤ (comI [⟨As, cs, s⟩, ⟨At, ct, t⟩]).2 + 1) (fun k => ((comI [⟨As, cs, s⟩, ⟨At, ct, t⟩]).2 + 1 - (comI [⟨As, cs, s⟩, ⟨At, ct, t⟩]).1).toNat - k) 0 ((some ⟨r9, 0, none⟩)) (0) [(0, _), (1, _), (4, _), (5, _), (6, _), (7, _), (8, _)] [] 2 [0] ⟨rfl, agI (by omega), trivial⟩ ⟨rfl, rfl, rfl, rfl, rfl, rfl, rfl, trivial⟩ (rfl) rfl (by omega) (fun k A c hI => ?_)
          have hI : (comI [⟨As, cs, s⟩, ⟨At, ct, t⟩]).1 + (k : Int) ≤ (comI [⟨As, cs, s⟩, ⟨At, ct, t⟩]).2 + 1 := hI
          have hdl := drL_len s t (comI [⟨As, cs, s⟩, ⟨At, ct, t⟩]).1 k
          refine Ex.seq ?_
          refine Ex.regSeq (ExL.pures 2 rfl ?_)
          refine ExL.leq rfl rfl rfl rfl rfl rfl (fun h10 => ?_) (fun h10 => ?_)
          · refine ExL.nil ?_
            refine Ex.cond_t rfl ?_
            refine Ex.skip ?_
            refine Ex.seq ?_
            refine Ex.block ?_
            have hdx := ow_bd hTs ((comI [⟨As, cs, s⟩, ⟨At, ct, t⟩]).1 + (k : Int))
            have hdy := ow_bd hTt ((comI [⟨As, cs, s⟩, ⟨At, ct, t⟩]).1 + (k : Int))
            have hc1 := hB.cx ((comI [⟨As, cs, s⟩, ⟨At, ct, t⟩]).1 + (k : Int)) (by omega) (by omega)
            have hc2 := hB.cy ((comI [⟨As, cs, s⟩, ⟨At, ct, t⟩]).1 + (k : Int)) (by omega) (by omega)
            rw [ow_c hc1] at hdx
            rw [ow_c hc2] at hdy
            refine Ex.region (ExL.pures 3 rfl ?_)
            refine ExL.op rfl (op_ret rfl rfl rfl (c_countOn s (by assumption) _ _ (by omega) _ (hB.cx _ (by omega) (by omega))) (Reads.get (Reads.old hs)) rfl rfl (fun x11 hx11 => ?_))
            refine ExL.pures 2 rfl ?_
            refine ExL.op rfl (op_ret rfl rfl rfl (c_countOn t (by assumption) _ _ (by omega) _ (hB.cy _ (by omega) (by omega))) (Reads.get (Reads.old ht)) rfl rfl (fun x12 hx12 => ?_))
            refine ExL.free (by first | exact fr_sub64 rfl rfl rfl (by omega) | exact fr_sub rfl rfl rfl) rfl rfl rfl ?_
            refine ExL.op rfl (op_buildSlice (sz := 1) rfl rfl rfl rfl rfl rfl rfl rfl (by decide) rfl rfl rfl (fun r13 => ?_))
            refine ExL.op rfl (op_append (sz := 1) (bytes := 8) (i := 1) rfl rfl rfl rfl (Reads.row (i := 0) rfl) rfl (fun e => nomatch e) rfl rfl rfl rfl (by constructor <;> first | omega | (unfold maxLen; omega)) rfl rfl (fun A14 cA14 => ?_))
            refine ExL.pures 1 rfl ?_
            refine ExL.nil ?_
            refine Ex.region (ExL.pures 1 rfl ?_)
            refine ExL.free (by first | exact fr_add64 rfl rfl rfl (by omega) | exact fr_add rfl rfl rfl) rfl rfl rfl ?_
            refine ExL.pures 1 rfl ?_
            refine ExL.nil ?_
            refine HandA.of (k + 1) (A14) (cA14) 2 [1] ⟨(by rw [drL, List.length_append]; rfl), agI (by omega), trivial⟩ ⟨rfl, rfl, rfl, rfl, rfl, rfl, rfl, trivial⟩ (by rw [drL, List.length_append, List.flatMap_append, drD_on hc1 hc2]; rfl) rfl (by omega) (by omega)
          · refine ExL.nil ?_
            refine Ex.cond_f rfl ?_
            refine Ex.exit ?_
            have hkn : (k : Int) = (bothV s t).2.1 - (bothV s t).1 + 1 := by omega
            refine Ex.regSeq (ExL.pures 5 rfl ?_)
            refine ExL.nil ?_
            refine Ex.ret ?_
            refine RetQ.mk (A, c) rfl (.tmp rfl (.tmp rfl (.tmp rfl .nil))) (t3 (by first | (rw [dr_ok hcode hkn, hf1]; first | done | rfl) | (rw [dr_3 (by rw [(by assumption : validTot s = true), (by assumption : validTot t = true)]; rfl) (by omega) (by omega)]; first | done | rfl) | (rw [dr_6 (by rw [(by assumption : validTot s = true), (by assumption : validTot t = true)]; rfl) (by omega)]; first | done | rfl) | (rw [dr_1 (by rw [(by assumption : validTot s = true), (by assumption : validTot t = false)]; rfl)]; first | done | rfl) | (rw [dr_1 (by rw [(by assumption : validTot s = false)]; rfl)]; first | done | rfl)) (by first | (rw [dr_ok hcode hkn, hf1]; first | done | rfl) | (rw [dr_3 (by rw [(by assumption : validTot s = true), (by assumption : validTot t = true)]; rfl) (by omega) (by omega)]; first | done | rfl) | (rw [dr_6 (by rw [(by assumption : validTot s = true), (by assumption : validTot t = true)]; rfl) (by omega)]; first | done | rfl) | (rw [dr_1 (by rw [(by assumption : validTot s = true), (by assumption : validTot t = false)]; rfl)]; first | done | rfl) | (rw [dr_1 (by rw [(by assumption : validTot s = false)]; rfl)]; first | done | rfl)) (by first | (rw [dr_ok hcode hkn, hf1]; first | done | rfl) | (rw [dr_3 (by rw [(by assumption : validTot s = true), (by assumption : validTot t = true)]; rfl) (by omega) (by omega)]; first | done | rfl) | (rw [dr_6 (by rw [(by assumption : validTot s = true), (by assumption : validTot t = true)]; rfl) (by omega)]; first | done | rfl) | (rw [dr_1 (by rw [(by assumption : validTot s = true), (by assumption : validTot t = false)]; rfl)]; first | done | rfl) | (rw [dr_1 (by rw [(by assumption : validTot s = false)]; rfl)]; first | done | rfl))) [0] (by first | (rw [dr_ok hcode hkn, hf1]; first | done | rfl) | (rw [dr_3 (by rw [(by assumption : validTot s = true), (by assumption : validTot t = true)]; rfl) (by omega) (by omega)]; first | done | rfl) | (rw [dr_6 (by rw [(by assumption : validTot s = true), (by assumption : validTot t = true)]; rfl) (by omega)]; first | done | rfl) | (rw [dr_1 (by rw [(by assumption : validTot s = true), (by assumption : validTot t = false)]; rfl)]; first | done | rfl) | (rw [dr_1 (by rw [(by assumption : validTot s = false)]; rfl)]; first | done | rfl)) rfl (trivial)
theorem e_14 : Enters Try.prog 14 := Enters.of Try.func14 rfl
theorem c_iBestShift (s : List VP) (As : Option Addr) (cs : Nat) (hls : s.length ≤ maxLen) (t : List VP) (At : Option Addr) (ct : Nat) (hlt : t.length ≤ maxLen) : Ret Try.prog 14 [.slice As s.length cs, .slice At t.length ct] (fun w => Rd w As (s.flatMap encP) ∧ Rd w At (t.flatMap encP)) (fun x : Unit => .tuple #[.int .i64 (bestV s t).1, .int .i64 (bestV s t).2.1, .int .i64 (bestV s t).2.2]) (fun x => []) (fun x => True) := by
  refine Ret.of e_14 Try.func14 rfl Try.ntmps14 rfl rfl (fun w hpre => ?_)
  have hs := hpre.1.base
  have ht := hpre.2.base
  have hm0 : maxLen = 9223372036854775807 := rfl
  refine Ex.regSeq (ExL.pures 3 rfl ?_)
  refine ExL.nil ?_
  refine Ex.regSeq (ExL.pures 2 rfl ?_)
  refine ExL.op rfl (op_ret rfl rfl rfl (c_drifts s _ _ (by omega) t _ _ (by omega)) (fun w hw => ⟨Reads.get (Reads.old hs) w hw, Reads.get (Reads.old ht) w hw⟩) rfl rfl (fun x1 hx1 => ?_))
  refine ExL.pures 7 rfl ?_
  refine ExL.nil ?_
  refine Ex.seq ?_
  have hdv := dr_code s t
  refine Ex.regSeq (ExL.pures 1 rfl ?_)
  refine ExL.neq rfl rfl rfl rfl rfl rfl (fun h2 => ?_) (fun h2 => ?_)
  · refine ExL.nil ?_
    refine Ex.cond_t rfl ?_
    have hbb : bestV s t = (0, 0, (drV s t).2.2) := by rw [hdv] at *; exact best_bad (by assumption)
    refine Ex.regSeq (ExL.pures 4 rfl ?_)
    refine ExL.nil ?_
    refine Ex.ret ?_
    refine RetQ.mk () rfl (.tmp rfl (.tmp rfl (.tmp rfl .nil))) (t3 (vI (by first | (rw [hbb]; first | done | rfl))) (vI (by first | (rw [hbb]; first | done | rfl))) (vI (by first | (rw [hbb]; first | done | rfl)))) [] (rfl) rfl (trivial)
  · refine ExL.nil ?_
    refine Ex.cond_f rfl ?_
    refine Ex.skip ?_
    have hcode : (bothV s t).2.2 = 0 := by omega
    obtain ⟨n, hn, hlen, hmn, hmx, hbb⟩ := best_of hcode
    have hB := both hcode
    have hB0 := hB.lo
    have hB1 := hB.hi
    have hlo := loD_bd hB n (by omega)
    have hhi := hiD_bd hB n (by omega)
    rw [← hmn] at hlo
    rw [← hmx] at hhi
    refine Ex.regSeq (ExL.pures 1 rfl ?_)
    refine ExL.op rfl (op_ret rfl rfl rfl (c_slMin ((drV s t).1) _ _ (by first | omega | (simp; omega)) (by first | omega | (simp; omega))) (Reads.get (Reads.row (i := 0) rfl)) rfl rfl (fun x3 hx3 => ?_))
    refine ExL.pures 1 rfl ?_
    refine ExL.op rfl (op_ret rfl rfl rfl (c_slMax ((drV s t).1) _ _ (by first | omega | (simp; omega)) (by first | omega | (simp; omega))) (Reads.get (Reads.row (i := 0) rfl)) rfl rfl (fun x4 hx4 => ?_))
    refine ExL.pures 2 rfl ?_
    refine ExL.nil ?_
    refine Ex.regSeq (ExL.pures 2 rfl ?_)
    refine ExL.free (by first | exact fr_add64 rfl rfl rfl (by omega) | exact fr_add rfl rfl rfl) rfl rfl rfl ?_
    refine ExL.op rfl (op_ret rfl rfl rfl (c_floor _ _ (by omega) (by omega)) (fun _ _ => trivial) rfl rfl (fun x5 hx5 => ?_))
    refine ExL.pures 1 rfl ?_
    refine ExL.nil ?_
    refine Ex.regSeq (ExL.pures 3 rfl ?_)
    refine ExL.free (by first | exact fr_sub64 rfl rfl rfl (by omega) | exact fr_sub rfl rfl rfl) rfl rfl rfl ?_
    refine ExL.pures 2 rfl ?_
    refine ExL.free (by first | exact fr_sub64 rfl rfl rfl (by omega) | exact fr_sub rfl rfl rfl) rfl rfl rfl ?_
    refine ExL.free (fr_max rfl rfl rfl) rfl rfl rfl ?_
    refine ExL.pures 3 rfl ?_
    refine ExL.nil ?_
    refine Ex.ret ?_
    refine RetQ.mk () rfl (.tmp rfl (.tmp rfl (.tmp rfl .nil))) (t3 (vI (by first | (rw [hbb]; first | done | rfl))) (vI (by first | (rw [hbb]; first | done | rfl))) (vI (by first | (rw [hbb]; first | done | rfl)))) [] (rfl) rfl (trivial)
end Go.Proofs.Ytepahnikcojepaa
