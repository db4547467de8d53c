/- What these functions of the program hand back, each proved by walking its operations. -/
import Derived.Test.YtplljnddhkleaaaProg
import Derived.Test.YtplljnddhkleaaaFw
import Derived.Test.YtplljnddhkleaaaM39
import Derived.Test.YtplljnddhkleaaaGPC
set_option linter.unusedVariables false
set_option linter.unusedSimpArgs false
set_option maxRecDepth 4000
namespace Go.Proofs.Ytplljnddhkleaaa
open Go Go.Sx Go.RowKit Go.W Go.Proofs
attribute [local irreducible] Ex ExL ExD Op1 Free RetQ MutQ Reads CellO SegO LoadsAs
theorem e_61 : Enters Try.prog 61 := Enters.of Try.func61 rfl
theorem c_values (s : List Int) (hv : validStack s = true) (As : Option Addr) (cs : Nat) (p : VPh) (hp : OkPh p) (hP : PhOk s p.l) : Ret Try.prog 61 [.slice As s.length cs, .agg (encPh p).toArray] (fun w => Rd w As (s.flatMap (eI .u8))) (fun x : Option Addr × Nat => .slice x.1 (valsP s p).length x.2) (fun x => [.row (.slice x.1 (valsP s p).length x.2) 2 1 (valsP s p).length ((valsP s p).flatMap (eI .i64))]) (fun x => True) := by
  refine Ret.of e_61 Try.func61 rfl Try.ntmps61 rfl rfl (fun w hpre => ?_)
  have hs := hpre.base
  have hS := stk hv
  have h8 := hS.len8
  have hm0 : maxLen = 9223372036854775807 := rfl
  refine Ex.regSeq (ExL.pures 0 rfl ?_)
  refine ExL.op rfl (op_box rfl rfl rfl rfl rfl (fun b1 => ?_))
  refine ExL.pures 1 rfl ?_
  refine ExL.nil ?_
  refine Ex.regSeq (ExL.pures 0 rfl ?_)
  refine ExL.op rfl (op_buildSlice (sz := 1) rfl rfl rfl rfl rfl rfl rfl rfl (by decide) rfl rfl rfl (fun r2 => ?_))
  refine ExL.pures 1 rfl ?_
  refine ExL.nil ?_
  refine Ex.seq ?_
  refine Ex.regSeq (ExL.pures 2 rfl ?_)
  refine ExL.free (by first | exact fr_sub64 rfl rfl rfl (by omega) | exact fr_sub rfl rfl rfl) rfl rfl rfl ?_
  refine ExL.pures 1 rfl ?_
  refine ExL.nil ?_
  refine Ex.block ?_
  refine Ex.loopA (fun t A c => [(5, .slice A (valW s p.l t).length c), (6, .int .i64 ((s.length : Int) - 1 - t))]) (fun t A c => [.row (.slice A (valW s p.l t).length c) 2 1 (valW s p.l t).length ((valW s p.l t).flatMap (eI .i64))]) (fun t => t ≤ s.length) (fun t => s.length - t) 0 ((some ⟨r2, 0, none⟩)) (1) [(0, _), (3, _), (4, _)] [_] 2 [0, 1] ⟨rfl, agI (by omega), trivial⟩ ⟨rfl, rfl, rfl, trivial⟩ (rfl) rfl (Nat.zero_le _) (fun t A c hI => ?_)
  have hI : t ≤ s.length := hI
  refine Ex.seq ?_
  refine Ex.regSeq (ExL.pures 1 rfl ?_)
  refine ExL.geq rfl rfl rfl rfl rfl rfl (fun h3 => ?_) (fun h3 => ?_)
  · refine ExL.nil ?_
    refine Ex.cond_t rfl ?_
    refine Ex.skip ?_
    refine Ex.seq ?_
    refine Ex.block ?_
    have hts : t < s.length := by omega
    have hjs : (s.length - 1 - t) < s.length := by omega
    have hroom := val_room hP hS hts
    have hbj := hS.bases (s.length - 1 - t) hjs
    rw [show (s.length : Int) - 1 - t = ((s.length - 1 - t : Nat) : Int) by omega]
    have hdl := digI_len' (p.l.getD (s.length - 1 - t) zMk)
    refine Ex.regSeq (ExL.pures 0 rfl ?_)
    refine ExL.op rfl (op_buildSlice (sz := 1) rfl rfl rfl rfl rfl rfl rfl rfl (by decide) rfl rfl rfl (fun r4 => ?_))
    refine ExL.pures 1 rfl ?_
    refine ExL.nil ?_
    refine Ex.seq ?_
    refine Ex.regSeq (ExL.pures 3 rfl ?_)
    refine ExL.nil ?_
    refine Ex.block ?_
    refine Ex.loopA (fun q A2 c2 => [(7, .slice A2 (partV (s.getD (s.length - 1 - t) 0) (digI (p.l.getD (s.length - 1 - t) zMk)) (valW s p.l t) q 0).length c2), (23, .int .i64 q)]) (fun q A2 c2 => [.row (.slice A2 (partV (s.getD (s.length - 1 - t) 0) (digI (p.l.getD (s.length - 1 - t) zMk)) (valW s p.l t) q 0).length c2) 2 1 (partV (s.getD (s.length - 1 - t) 0) (digI (p.l.getD (s.length - 1 - t) zMk)) (valW s p.l t) q 0).length ((partV (s.getD (s.length - 1 - t) 0) (digI (p.l.getD (s.length - 1 - t) zMk)) (valW s p.l t) q 0).flatMap (eI .i64))]) (fun q => q ≤ (valW s p.l t).length) (fun q => (valW s p.l t).length - q) 0 ((some ⟨r4, 0, none⟩)) (0) [(0, _), (3, _), (4, _), (5, _), (6, _), (21, _), (22, _)] [_, _] 3 [0, 1, 2] ⟨rfl, rfl, trivial⟩ ⟨rfl, rfl, rfl, rfl, rfl, rfl, rfl, trivial⟩ (rfl) rfl (Nat.zero_le _) (fun q A2 c2 hI => ?_)
    have hI : q ≤ (valW s p.l t).length := hI
    have hvq := valW_at hP hS (j := t) (by omega) q
    have hmq := valW_mul hP hS (j := t) (by omega) q
    have hpl2 := ptv_le (b := (s.getD (s.length - 1 - t) 0)) (ds := (digI (p.l.getD (s.length - 1 - t) zMk))) hI
    refine Ex.regSeq (ExL.pures 0 rfl ?_)
    refine ExL.lss rfl rfl rfl rfl rfl rfl (fun h5 => ?_) (fun h5 => ?_)
    · refine ExL.nil ?_
      refine Ex.seq ?_
      refine Ex.cond_t rfl ?_
      refine Ex.skip ?_
      refine Ex.seq ?_
      refine Ex.block ?_
      refine Ex.regSeq (ExL.pures 0 rfl ?_)
      refine ExL.free (fr_indexAddrR (sz := 1) 1 rfl rfl rfl rfl rfl rfl (by omega)) rfl rfl rfl ?_
      refine ExL.free (fr_load rfl rfl rfl rfl (by first | exact cellN (Reads.row (i := 1) rfl) (eI_len .i64) 0 0 rfl (by omega) rfl | exact cellF (Reads.row (i := 1) rfl) (eI_len .i64) 0 0 rfl (by omega) rfl)) rfl rfl rfl ?_
      refine ExL.pures 1 rfl ?_
      refine ExL.nil ?_
      refine Ex.regSeq (ExL.pures 1 rfl ?_)
      refine ExL.free (fr_indexAddr_b (sz := 2) rfl rfl rfl rfl rfl (by omega)) rfl rfl rfl ?_
      refine ExL.free (fr_loadN rfl rfl rfl rfl rfl (segB (i := 2) rfl encMk_len zMk (by rw [ph_len]; omega))) rfl rfl rfl ?_
      refine ExL.op rfl (op_ret rfl rfl rfl (c_digitsM (p.l.getD (s.length - 1 - t) zMk) (hp (s.length - 1 - t) (by omega))) (fun _ _ => trivial) rfl rfl (fun x6 hx6 => ?_))
      refine ExL.pures 2 rfl ?_
      refine ExL.nil ?_
      refine Ex.block ?_
      have hql : q < (valW s p.l t).length := by omega
      refine Ex.loopA (fun r A3 c3 => [(7, .slice A3 (partV (s.getD (s.length - 1 - t) 0) (digI (p.l.getD (s.length - 1 - t) zMk)) (valW s p.l t) q r).length c3), (32, .int .i64 r)]) (fun r A3 c3 => [.row (.slice A3 (partV (s.getD (s.length - 1 - t) 0) (digI (p.l.getD (s.length - 1 - t) zMk)) (valW s p.l t) q r).length c3) 2 1 (partV (s.getD (s.length - 1 - t) 0) (digI (p.l.getD (s.length - 1 - t) zMk)) (valW s p.l t) q r).length ((partV (s.getD (s.length - 1 - t) 0) (digI (p.l.getD (s.length - 1 - t) zMk)) (valW s p.l t) q r).flatMap (eI .i64))]) (fun r => r ≤ (digI (p.l.getD (s.length - 1 - t) zMk)).length) (fun r => (digI (p.l.getD (s.length - 1 - t) zMk)).length - r) 0 (A2) (c2) [(0, _), (3, _), (4, _), (5, _), (6, _), (9, _), (21, _), (22, _), (23, _), (30, _), (31, _)] [_, _, _] 4 [1, 0, 2, 3] ⟨rfl, rfl, trivial⟩ ⟨rfl, rfl, rfl, rfl, rfl, rfl, rfl, rfl, rfl, rfl, rfl, trivial⟩ (rfl) rfl (Nat.zero_le _) (fun r A3 c3 hI => ?_)
      have hI : r ≤ (digI (p.l.getD (s.length - 1 - t) zMk)).length := hI
      refine Ex.regSeq (ExL.pures 0 rfl ?_)
      refine ExL.lss rfl rfl rfl rfl rfl rfl (fun h7 => ?_) (fun h7 => ?_)
      · refine ExL.nil ?_
        refine Ex.seq ?_
        refine Ex.cond_t rfl ?_
        refine Ex.skip ?_
        refine Ex.seq ?_
        refine Ex.block ?_
        have hrl : r < (digI (p.l.getD (s.length - 1 - t) zMk)).length := by omega
        have hdr := digI_has (getD_mem 0 hrl)
        have hpl3 := ptv_len (s.getD (s.length - 1 - t) 0) (digI (p.l.getD (s.length - 1 - t) zMk)) (valW s p.l t) q r hql hI
        refine Ex.regSeq (ExL.pures 0 rfl ?_)
        refine ExL.free (fr_indexAddrR (sz := 1) 1 rfl rfl rfl rfl rfl rfl (by omega)) rfl rfl rfl ?_
        refine ExL.free (fr_load rfl rfl rfl rfl (by first | exact cellN (Reads.row (i := 1) rfl) (eI_len .i64) 0 0 rfl (by omega) rfl | exact cellF (Reads.row (i := 1) rfl) (eI_len .i64) 0 0 rfl (by omega) rfl)) rfl rfl rfl ?_
        refine ExL.pures 1 rfl ?_
        refine ExL.nil ?_
        refine Ex.region (ExL.pures 4 rfl ?_)
        refine ExL.free (fr_indexAddrF (Reads.old hs) (eI_len .u8) rfl rfl rfl rfl rfl rfl (by omega)) rfl rfl rfl ?_
        refine ExL.free (fr_load rfl rfl rfl rfl (cellJ ((s.length - 1 - t)) (Reads.old hs) (eI_len .u8) 0 0 rfl (by omega) (by omega) rfl)) rfl rfl rfl ?_
        refine ExL.free (by first | exact fr_conv64 rfl rfl rfl rfl (by omega) | exact fr_conv rfl rfl rfl rfl) rfl rfl rfl ?_
        refine ExL.free (by first | exact fr_mul64 rfl rfl rfl (by omega) | exact fr_mul rfl rfl rfl) rfl rfl rfl ?_
        refine ExL.pures 1 rfl ?_
        refine ExL.free (by first | exact fr_add64 rfl rfl rfl (by omega) | exact fr_add rfl rfl rfl) rfl rfl rfl ?_
        refine ExL.op rfl (op_buildSlice (sz := 1) rfl rfl rfl rfl rfl rfl rfl rfl (by decide) rfl rfl rfl (fun r8 => ?_))
        refine ExL.op rfl (op_append (sz := 1) (bytes := 8) (i := 1) rfl rfl rfl rfl (Reads.row (i := 0) rfl) rfl (fun e => nomatch e) rfl rfl rfl rfl (by constructor <;> first | omega | (unfold maxLen; omega)) rfl rfl (fun A9 cA9 => ?_))
        refine ExL.pures 1 rfl ?_
        refine ExL.nil ?_
        refine Ex.region (ExL.pures 0 rfl ?_)
        refine ExL.free (by first | exact fr_add64 rfl rfl rfl (by omega) | exact fr_add rfl rfl rfl) rfl rfl rfl ?_
        refine ExL.pures 1 rfl ?_
        refine ExL.nil ?_
        refine HandA.of (r + 1) (A9) (cA9) 5 [1, 2, 3, 4] ⟨(by rw [ptv_snoc hrl, List.length_append]; rfl), rfl, trivial⟩ ⟨rfl, rfl, rfl, rfl, rfl, rfl, rfl, rfl, rfl, rfl, rfl, trivial⟩ (by rw [ptv_snoc hrl, List.length_append, List.flatMap_append]; rfl) rfl (by omega) (by omega)
      · refine ExL.nil ?_
        refine Ex.seq ?_
        refine Ex.cond_f rfl ?_
        refine Ex.exit ?_
        obtain rfl : r = (digI (p.l.getD (s.length - 1 - t) zMk)).length := (by omega)
        rw [ptv_next hql rfl]
        refine Ex.region (ExL.pures 0 rfl ?_)
        refine ExL.free (by first | exact fr_add64 rfl rfl rfl (by omega) | exact fr_add rfl rfl rfl) rfl rfl rfl ?_
        refine ExL.pures 1 rfl ?_
        refine ExL.nil ?_
        refine HandA.of (q + 1) (A3) (c3) 4 [0, 2, 3] ⟨rfl, rfl, trivial⟩ ⟨rfl, rfl, rfl, rfl, rfl, rfl, rfl, trivial⟩ (rfl) rfl (by omega) (by omega)
    · refine ExL.nil ?_
      refine Ex.seq ?_
      refine Ex.cond_f rfl ?_
      refine Ex.exit ?_
      obtain rfl : q = (valW s p.l t).length := (by omega)
      rw [ptv_all]
      refine Ex.region (ExL.pures 2 rfl ?_)
      refine ExL.nil ?_
      refine Ex.region (ExL.pures 1 rfl ?_)
      refine ExL.free (by first | exact fr_sub64 rfl rfl rfl (by omega) | exact fr_sub rfl rfl rfl) rfl rfl rfl ?_
      refine ExL.pures 1 rfl ?_
      refine ExL.nil ?_
      refine HandA.of (t + 1) (A2) (c2) 3 [0, 2] ⟨(by first | rfl | (rw [ptv_all]; rfl)), agI (by omega), trivial⟩ ⟨rfl, rfl, rfl, trivial⟩ (by first | rfl | (rw [ptv_all]; rfl)) rfl (by omega) (by omega)
  · refine ExL.nil ?_
    refine Ex.cond_f rfl ?_
    refine Ex.exit ?_
    obtain rfl : t = s.length := (by omega)
    refine Ex.regSeq (ExL.pures 2 rfl ?_)
    refine ExL.nil ?_
    refine Ex.ret ?_
    refine RetQ.mk (A, c) rfl (.tmp rfl .nil) (rfl) [0] (rfl) rfl (trivial)
theorem e_59 : Enters Try.prog 59 := Enters.of Try.func59 rfl
theorem c_l05Values (s : List Int) (hv : validStack s = true) (As : Option Addr) (cs : Nat) (p : VPh) (hp : OkPh p) (b q : Nat) (hP : PhOk s p.l) : Ret Try.prog 59 [.slice As s.length cs, .pointer (some ⟨b, q, none⟩)] (fun w => Rd w As (s.flatMap (eI .u8)) ∧ Rd w (some ⟨b, q, none⟩) (encPh p)) (fun x : Option Addr × Nat => .slice x.1 (valsP s p).length x.2) (fun x => [.row (.slice x.1 (valsP s p).length x.2) 2 1 (valsP s p).length ((valsP s p).flatMap (eI .i64))]) (fun x => True) := by
  refine Ret.of e_59 Try.func59 rfl Try.ntmps59 rfl rfl (fun w hpre => ?_)
  have hpt := hpre.2.base
  have hs := hpre.1.base
  have hS := stk hv
  have h8 := hS.len8
  have hm0 : maxLen = 9223372036854775807 := rfl
  refine Ex.regSeq (ExL.pures 1 rfl ?_)
  refine ExL.nil ?_
  refine Ex.regSeq (ExL.pures 0 rfl ?_)
  refine ExL.op rfl (op_buildSlice (sz := 1) rfl rfl rfl rfl rfl rfl rfl rfl (by decide) rfl rfl rfl (fun r1 => ?_))
  refine ExL.pures 1 rfl ?_
  refine ExL.nil ?_
  refine Ex.seq ?_
  refine Ex.regSeq (ExL.pures 2 rfl ?_)
  refine ExL.free (by first | exact fr_sub64 rfl rfl rfl (by omega) | exact fr_sub rfl rfl rfl) rfl rfl rfl ?_
  refine ExL.pures 1 rfl ?_
  refine ExL.nil ?_
  refine Ex.block ?_
  refine Ex.loopA (fun t A c => [(5, .slice A (valW s p.l t).length c), (6, .int .i64 ((s.length : Int) - 1 - t))]) (fun t A c => [.row (.slice A (valW s p.l t).length c) 2 1 (valW s p.l t).length ((valW s p.l t).flatMap (eI .i64))]) (fun t => t ≤ s.length) (fun t => s.length - t) 0 ((some ⟨r1, 0, none⟩)) (1) [(0, _), (1, _), (4, _)] [] 1 [0] ⟨rfl, agI (by omega), trivial⟩ ⟨rfl, rfl, rfl, trivial⟩ (rfl) rfl (Nat.zero_le _) (fun t A c hI => ?_)
  have hI : t ≤ s.length := hI
  refine Ex.seq ?_
  refine Ex.regSeq (ExL.pures 1 rfl ?_)
  refine ExL.geq rfl rfl rfl rfl rfl rfl (fun h2 => ?_) (fun h2 => ?_)
  · refine ExL.nil ?_
    refine Ex.cond_t rfl ?_
    refine Ex.skip ?_
    refine Ex.seq ?_
    refine Ex.block ?_
    have hts : t < s.length := by omega
    have hjs : (s.length - 1 - t) < s.length := by omega
    have hroom := val_room hP hS hts
    have hbj := hS.bases (s.length - 1 - t) hjs
    rw [show (s.length : Int) - 1 - t = ((s.length - 1 - t : Nat) : Int) by omega]
    have hdl := digI_len' (p.l.getD (s.length - 1 - t) zMk)
    refine Ex.regSeq (ExL.pures 0 rfl ?_)
    refine ExL.op rfl (op_buildSlice (sz := 1) rfl rfl rfl rfl rfl rfl rfl rfl (by decide) rfl rfl rfl (fun r3 => ?_))
    refine ExL.pures 1 rfl ?_
    refine ExL.nil ?_
    refine Ex.seq ?_
    refine Ex.regSeq (ExL.pures 1 rfl ?_)
    refine ExL.nil ?_
    refine Ex.block ?_
    refine Ex.loopA (fun q A2 c2 => [(7, .slice A2 (partV (s.getD (s.length - 1 - t) 0) (digI (p.l.getD (s.length - 1 - t) zMk)) (valW s p.l t) q 0).length c2), (8, .int .i64 q)]) (fun q A2 c2 => [.row (.slice A2 (partV (s.getD (s.length - 1 - t) 0) (digI (p.l.getD (s.length - 1 - t) zMk)) (valW s p.l t) q 0).length c2) 2 1 (partV (s.getD (s.length - 1 - t) 0) (digI (p.l.getD (s.length - 1 - t) zMk)) (valW s p.l t) q 0).length ((partV (s.getD (s.length - 1 - t) 0) (digI (p.l.getD (s.length - 1 - t) zMk)) (valW s p.l t) q 0).flatMap (eI .i64))]) (fun q => q ≤ (valW s p.l t).length) (fun q => (valW s p.l t).length - q) 0 ((some ⟨r3, 0, none⟩)) (0) [(0, _), (1, _), (4, _), (5, _), (6, _)] [_] 2 [0, 1] ⟨rfl, rfl, trivial⟩ ⟨rfl, rfl, rfl, rfl, rfl, trivial⟩ (rfl) rfl (Nat.zero_le _) (fun q A2 c2 hI => ?_)
    have hI : q ≤ (valW s p.l t).length := hI
    have hvq := valW_at hP hS (j := t) (by omega) q
    have hmq := valW_mul hP hS (j := t) (by omega) q
    have hpl2 := ptv_le (b := (s.getD (s.length - 1 - t) 0)) (ds := (digI (p.l.getD (s.length - 1 - t) zMk))) hI
    refine Ex.seq ?_
    refine Ex.regSeq (ExL.pures 3 rfl ?_)
    refine ExL.lss rfl rfl rfl rfl rfl rfl (fun h4 => ?_) (fun h4 => ?_)
    · refine ExL.nil ?_
      refine Ex.cond_t rfl ?_
      refine Ex.skip ?_
      refine Ex.seq ?_
      refine Ex.block ?_
      refine Ex.regSeq (ExL.pures 1 rfl ?_)
      refine ExL.nil ?_
      refine Ex.block ?_
      have hql : q < (valW s p.l t).length := by omega
      refine Ex.loopA (fun r A3 c3 => [(7, .slice A3 (partS (s.getD (s.length - 1 - t) 0) (p.l.getD (s.length - 1 - t) zMk) (valW s p.l t) q r).length c3), (9, .int .i64 r)]) (fun r A3 c3 => [.row (.slice A3 (partS (s.getD (s.length - 1 - t) 0) (p.l.getD (s.length - 1 - t) zMk) (valW s p.l t) q r).length c3) 2 1 (partS (s.getD (s.length - 1 - t) 0) (p.l.getD (s.length - 1 - t) zMk) (valW s p.l t) q r).length ((partS (s.getD (s.length - 1 - t) 0) (p.l.getD (s.length - 1 - t) zMk) (valW s p.l t) q r).flatMap (eI .i64))]) (fun r => (r : Int) ≤ (s.getD (s.length - 1 - t) 0)) (fun r => (s.getD (s.length - 1 - t) 0).toNat - r) 0 (A2) (c2) [(0, _), (1, _), (4, _), (5, _), (6, _), (8, _)] [_] 2 [0, 1] ⟨rfl, rfl, trivial⟩ ⟨rfl, rfl, rfl, rfl, rfl, rfl, trivial⟩ (rfl) rfl (by omega) (fun r A3 c3 hI => ?_)
      have hI : (r : Int) ≤ (s.getD (s.length - 1 - t) 0) := hI
      refine Ex.seq ?_
      refine Ex.regSeq (ExL.pures 3 rfl ?_)
      refine ExL.free (fr_indexAddrF (Reads.old hs) (eI_len .u8) rfl rfl rfl rfl rfl rfl (by omega)) rfl rfl rfl ?_
      refine ExL.free (fr_load rfl rfl rfl rfl (cellJ ((s.length - 1 - t)) (Reads.old hs) (eI_len .u8) 0 0 rfl (by omega) (by omega) rfl)) rfl rfl rfl ?_
      refine ExL.free (by first | exact fr_conv64 rfl rfl rfl rfl (by omega) | exact fr_conv rfl rfl rfl rfl) rfl rfl rfl ?_
      refine ExL.lss rfl rfl rfl rfl rfl rfl (fun h5 => ?_) (fun h5 => ?_)
      · refine ExL.nil ?_
        refine Ex.cond_t rfl ?_
        refine Ex.skip ?_
        refine Ex.seq ?_
        refine Ex.block ?_
        have hpl3 := pts_len (b := (s.getD (s.length - 1 - t) 0)) (m := (p.l.getD (s.length - 1 - t) zMk)) (d := r) hql (by omega)
        refine Ex.regSeq (ExL.pures 3 rfl ?_)
        refine ExL.free (fr_indexAddr_b (sz := 2) rfl rfl rfl rfl rfl (by omega)) rfl rfl rfl ?_
        refine ExL.free (fr_loadN rfl rfl rfl rfl rfl (segOld (Reads.old hpt) encMk_len zMk rfl (by rw [ph_len]; omega))) rfl rfl rfl ?_
        refine ExL.pures 1 rfl ?_
        refine ExL.op rfl (op_ret rfl rfl rfl (c_l05Has (p.l.getD (s.length - 1 - t) zMk) (hp (s.length - 1 - t) (by omega)) _ (by omega)) (fun _ _ => trivial) rfl rfl (fun x6 hx6 => ?_))
        refine ExL.nil ?_
        refine Ex.cond rfl (fun hb7 => ?_) (fun hb7 => ?_)
        · refine Ex.drawI [1] rfl rfl ?_
          refine ExD.take (i := 0) rfl (by kernel_rfl) (pureVal_ok rfl) ((List.Sublist.cons _ (List.Sublist.refl _))) rfl rfl rfl ?_
          refine ExD.take (i := 1) rfl (by kernel_rfl) (pureVal_ok rfl) ((List.Sublist.cons _ (List.Sublist.refl _))) rfl rfl rfl ?_
          refine ExD.take (i := 2) rfl (by kernel_rfl) (pureVal_ok rfl) ((List.Sublist.cons _ (List.Sublist.refl _))) rfl rfl rfl ?_
          refine ExD.take (i := 3) rfl (by kernel_rfl) (fr_indexAddrR (sz := 1) 0 rfl rfl rfl rfl rfl rfl (by omega)) ((List.Sublist.cons _ (List.Sublist.refl _))) rfl rfl rfl ?_
          refine ExD.take (i := 4) rfl (by kernel_rfl) (fr_load rfl rfl rfl rfl (by first | exact cellN (Reads.row (i := 0) rfl) (eI_len .i64) 0 0 rfl (by omega) rfl | exact cellF (Reads.row (i := 0) rfl) (eI_len .i64) 0 0 rfl (by omega) rfl)) ((List.Sublist.cons _ (List.Sublist.refl _))) rfl rfl rfl ?_
          refine ExD.take (i := 5) rfl (by kernel_rfl) (pureVal_ok rfl) ((List.Sublist.cons _ (List.Sublist.refl _))) rfl rfl rfl ?_
          refine ExD.take (i := 6) rfl (by kernel_rfl) (pureVal_ok rfl) ((List.Sublist.cons _ (List.Sublist.refl _))) rfl rfl rfl ?_
          refine ExD.take (i := 7) rfl (by kernel_rfl) (fr_indexAddrF (Reads.old hs) (eI_len .u8) rfl rfl rfl rfl rfl rfl (by omega)) ((List.Sublist.cons _ (List.Sublist.refl _))) rfl rfl rfl ?_
          refine ExD.take (i := 8) rfl (by kernel_rfl) (fr_load rfl rfl rfl rfl (cellJ ((s.length - 1 - t)) (Reads.old hs) (eI_len .u8) 0 0 rfl (by omega) (by omega) rfl)) ((List.Sublist.cons _ (List.Sublist.refl _))) rfl rfl rfl ?_
          refine ExD.take (i := 9) rfl (by kernel_rfl) (by first | exact fr_conv64 rfl rfl rfl rfl (by omega) | exact fr_conv rfl rfl rfl rfl) ((List.Sublist.cons _ (List.Sublist.refl _))) rfl rfl rfl ?_
          refine ExD.take (i := 10) rfl (by kernel_rfl) (by first | exact fr_mul64 rfl rfl rfl (by omega) | exact fr_mul rfl rfl rfl) ((List.Sublist.cons _ (List.Sublist.refl _))) rfl rfl rfl ?_
          refine ExD.take (i := 11) rfl (by kernel_rfl) (pureVal_ok rfl) ((List.Sublist.cons _ (List.Sublist.refl _))) rfl rfl rfl ?_
          refine ExD.take (i := 12) rfl (by kernel_rfl) (by first | exact fr_add64 rfl rfl rfl (by omega) | exact fr_add rfl rfl rfl) ((List.Sublist.cons _ (List.Sublist.refl _))) rfl rfl rfl ?_
          refine ExD.op (i := 13) rfl (by kernel_rfl) rfl (op_buildSlice (sz := 1) rfl rfl rfl rfl rfl rfl rfl rfl (by decide) rfl rfl rfl (fun r8 => ⟨(List.Sublist.cons _ (List.Sublist.cons _ (List.Sublist.refl _))), ?_⟩))
          refine ExD.op (i := 14) rfl (by kernel_rfl) rfl (op_append (sz := 1) (bytes := 8) (i := 1) rfl rfl rfl rfl (Reads.row (i := 0) rfl) rfl (fun e => nomatch e) rfl rfl rfl rfl (by constructor <;> first | omega | (unfold maxLen; omega)) rfl rfl (fun A9 cA9 => ⟨(List.Sublist.cons _ (List.Sublist.cons _ (List.Sublist.refl _))), ?_⟩))
          refine ExD.take (i := 15) rfl (by kernel_rfl) (pureVal_ok rfl) ((List.Sublist.cons _ (List.Sublist.cons _ (List.Sublist.refl _)))) rfl rfl rfl ?_
          refine ExD.done (by kernel_rfl) ?_
          refine Ex.region (ExL.pures 1 rfl ?_)
          refine ExL.free (by first | exact fr_add64 rfl rfl rfl (by omega) | exact fr_add rfl rfl rfl) rfl rfl rfl ?_
          refine ExL.pures 1 rfl ?_
          refine ExL.nil ?_
          refine HandA.of (r + 1) (A9) (cA9) 3 [1, 2] ⟨(by first | (rw [pts_n (by simp_all)]; first | done | rfl) | (rw [pts_y (by simp_all), List.length_append]; rfl)), rfl, trivial⟩ ⟨rfl, rfl, rfl, rfl, rfl, rfl, trivial⟩ (by first | (rw [pts_n (by simp_all)]; first | done | rfl) | (rw [pts_y (by simp_all), List.length_append, List.flatMap_append]; rfl)) rfl (by omega) (by omega)
        · refine Ex.skip ?_
          refine Ex.region (ExL.pures 1 rfl ?_)
          refine ExL.free (by first | exact fr_add64 rfl rfl rfl (by omega) | exact fr_add rfl rfl rfl) rfl rfl rfl ?_
          refine ExL.pures 1 rfl ?_
          refine ExL.nil ?_
          refine HandA.of (r + 1) (A3) (c3) 2 [0, 1] ⟨(by first | (rw [pts_n (by simp_all)]; first | done | rfl) | (rw [pts_y (by simp_all), List.length_append]; rfl)), rfl, trivial⟩ ⟨rfl, rfl, rfl, rfl, rfl, rfl, trivial⟩ (by first | (rw [pts_n (by simp_all)]; first | done | rfl) | (rw [pts_y (by simp_all), List.length_append, List.flatMap_append]; rfl)) rfl (by omega) (by omega)
      · refine ExL.nil ?_
        refine Ex.cond_f rfl ?_
        refine Ex.exit ?_
        have hre : ∀ e, e < 128 → hasM (p.l.getD (s.length - 1 - t) zMk) e = true → e < r := fun e he hh => by have := hP.lt _ hjs e he hh; omega
        rw [pts_next hql (by omega) hre]
        refine Ex.region (ExL.pures 1 rfl ?_)
        refine ExL.free (by first | exact fr_add64 rfl rfl rfl (by omega) | exact fr_add rfl rfl rfl) rfl rfl rfl ?_
        refine ExL.pures 1 rfl ?_
        refine ExL.nil ?_
        refine HandA.of (q + 1) (A3) (c3) 2 [0, 1] ⟨rfl, rfl, trivial⟩ ⟨rfl, rfl, rfl, rfl, rfl, trivial⟩ (rfl) rfl (by omega) (by omega)
    · refine ExL.nil ?_
      refine Ex.cond_f rfl ?_
      refine Ex.exit ?_
      obtain rfl : q = (valW s p.l t).length := (by omega)
      rw [ptv_all]
      refine Ex.region (ExL.pures 2 rfl ?_)
      refine ExL.nil ?_
      refine Ex.region (ExL.pures 1 rfl ?_)
      refine ExL.free (by first | exact fr_sub64 rfl rfl rfl (by omega) | exact fr_sub rfl rfl rfl) rfl rfl rfl ?_
      refine ExL.pures 1 rfl ?_
      refine ExL.nil ?_
      refine HandA.of (t + 1) (A2) (c2) 2 [0] ⟨(by first | rfl | (rw [ptv_all]; rfl)), agI (by omega), trivial⟩ ⟨rfl, rfl, rfl, trivial⟩ (by first | rfl | (rw [ptv_all]; rfl)) rfl (by omega) (by omega)
  · refine ExL.nil ?_
    refine Ex.cond_f rfl ?_
    refine Ex.exit ?_
    obtain rfl : t = s.length := (by omega)
    refine Ex.regSeq (ExL.pures 2 rfl ?_)
    refine ExL.nil ?_
    refine Ex.ret ?_
    refine RetQ.mk (A, c) rfl (.tmp rfl .nil) (rfl) [0] (rfl) rfl (trivial)
theorem e_20 : Enters Try.prog 20 := Enters.of Try.func20 rfl
theorem c_iValuesIn (s : List Int) (hu : Nums 255 s) (As : Option Addr) (cs : Nat) (hls : s.length ≤ maxLen) (p : VPh) (hp : OkPh p) : Ret Try.prog 20 [.slice As s.length cs, .agg (encPh p).toArray] (fun w => Rd w As (s.flatMap (eI .u8))) (fun x : Option Addr × Nat => .tuple #[.slice x.1 (vinV s p).1.length x.2, .int .i64 (vinV s p).2]) (fun x => [.row (.slice x.1 (vinV s p).1.length x.2) 2 1 (vinV s p).1.length ((vinV s p).1.flatMap (eI .i64))]) (fun x => True) := by
  refine Ret.of e_20 Try.func20 rfl Try.ntmps20 rfl rfl (fun w hpre => ?_)
  have hs := hpre.base
  have hm0 : maxLen = 9223372036854775807 := rfl
  refine Ex.regSeq (ExL.pures 0 rfl ?_)
  refine ExL.op rfl (op_box rfl rfl rfl rfl rfl (fun b1 => ?_))
  refine ExL.pures 2 rfl ?_
  refine ExL.nil ?_
  refine Ex.seq ?_
  refine Ex.block ?_
  refine Ex.regSeq (ExL.pures 1 rfl ?_)
  refine ExL.free (fr_loadN rfl rfl rfl rfl rfl (SegO.whole (i := 0) rfl)) rfl rfl rfl ?_
  refine ExL.op rfl (op_ret rfl rfl rfl (c_iValidPhoto s (by assumption) _ _ (by omega) p hp) (Reads.get (Reads.old hs)) rfl rfl (fun x2 hx2 => ?_))
  refine ExL.pures 2 rfl ?_
  refine ExL.nil ?_
  refine Ex.cond rfl (fun hb3 => ?_) (fun hb3 => ?_)
  · replace hb3 := nb_t hb3
    refine Ex.regSeq (ExL.pures 2 rfl ?_)
    refine ExL.nil ?_
    refine Ex.nilRow 2 1 ?_
    refine Ex.ret ?_
    refine RetQ.mk (none, 0) rfl (.tmp rfl (.tmp rfl .nil)) (t2 (by first | (rw [vi_1 (by assumption)]; first | done | rfl) | (rw [vi_3 (by assumption) (by omega)]; first | done | rfl) | (rw [vi_0 (by assumption) (by omega)]; first | done | rfl)) (by first | (rw [vi_1 (by assumption)]; first | done | rfl) | (rw [vi_3 (by assumption) (by omega)]; first | done | rfl) | (rw [vi_0 (by assumption) (by omega)]; first | done | rfl))) [0] (by first | (rw [vi_1 (by assumption)]; first | done | rfl) | (rw [vi_3 (by assumption) (by omega)]; first | done | rfl) | (rw [vi_0 (by assumption) (by omega)]; first | done | rfl)) rfl (trivial)
  · replace hb3 := nb_f hb3
    obtain ⟨hv, hS, hP⟩ := vph hp (by assumption)
    have h8 := hS.len8
    have hz := hS.size_
    have hle := hS.le
    have hps := hS.pos
    refine Ex.regSeq (ExL.pures 2 rfl ?_)
    refine ExL.op rfl (op_ret rfl rfl rfl (c_choices s (by first | assumption | exact stk (by assumption)) p (by assumption) hp _ _ s.length (by omega)) (Reads.get (Reads.blk (i := 0) rfl)) rfl rfl (fun x4 hx4 => ?_))
    refine ExL.gtr rfl rfl rfl rfl rfl rfl (fun h5 => ?_) (fun h5 => ?_)
    · refine ExL.pures 1 rfl ?_
      refine ExL.nil ?_
      refine Ex.cond_t rfl ?_
      refine Ex.regSeq (ExL.pures 2 rfl ?_)
      refine ExL.nil ?_
      refine Ex.nilRow 2 1 ?_
      refine Ex.ret ?_
      refine RetQ.mk (none, 0) rfl (.tmp rfl (.tmp rfl .nil)) (t2 (by first | (rw [vi_1 (by assumption)]; first | done | rfl) | (rw [vi_3 (by assumption) (by omega)]; first | done | rfl) | (rw [vi_0 (by assumption) (by omega)]; first | done | rfl)) (by first | (rw [vi_1 (by assumption)]; first | done | rfl) | (rw [vi_3 (by assumption) (by omega)]; first | done | rfl) | (rw [vi_0 (by assumption) (by omega)]; first | done | rfl))) [0] (by first | (rw [vi_1 (by assumption)]; first | done | rfl) | (rw [vi_3 (by assumption) (by omega)]; first | done | rfl) | (rw [vi_0 (by assumption) (by omega)]; first | done | rfl)) rfl (trivial)
    · refine ExL.pures 1 rfl ?_
      refine ExL.nil ?_
      refine Ex.cond_f rfl ?_
      refine Ex.skip ?_
      refine Ex.regSeq (ExL.pures 1 rfl ?_)
      refine ExL.free (fr_loadN rfl rfl rfl rfl rfl (SegO.whole (i := 0) rfl)) rfl rfl rfl ?_
      refine ExL.op rfl (op_ret rfl rfl rfl (c_values s (by first | assumption | simp_all) _ _ p hp (by assumption)) (Reads.get (Reads.old hs)) rfl rfl (fun x6 hx6 => ?_))
      refine ExL.pures 2 rfl ?_
      refine ExL.nil ?_
      refine Ex.ret ?_
      refine RetQ.mk (x6.1, x6.2) rfl (.tmp rfl (.tmp rfl .nil)) (t2 (by first | (rw [vi_1 (by assumption)]; first | done | rfl) | (rw [vi_3 (by assumption) (by omega)]; first | done | rfl) | (rw [vi_0 (by assumption) (by omega)]; first | done | rfl)) (by first | (rw [vi_1 (by assumption)]; first | done | rfl) | (rw [vi_3 (by assumption) (by omega)]; first | done | rfl) | (rw [vi_0 (by assumption) (by omega)]; first | done | rfl))) [0] (by first | (rw [vi_1 (by assumption)]; first | done | rfl) | (rw [vi_3 (by assumption) (by omega)]; first | done | rfl) | (rw [vi_0 (by assumption) (by omega)]; first | done | rfl)) rfl (trivial)
theorem e_19 : Enters Try.prog 19 := Enters.of Try.func19 rfl
theorem c_sValuesIn (s : List Int) (hu : Nums 255 s) (As : Option Addr) (cs : Nat) (hls : s.length ≤ maxLen) (p : VPh) (hp : OkPh p) : Ret Try.prog 19 [.slice As s.length cs, .agg (encPh p).toArray] (fun w => Rd w As (s.flatMap (eI .u8))) (fun x : Option Addr × Nat => .tuple #[.slice x.1 (vinV s p).1.length x.2, .int .i64 (vinV s p).2]) (fun x => [.row (.slice x.1 (vinV s p).1.length x.2) 2 1 (vinV s p).1.length ((vinV s p).1.flatMap (eI .i64))]) (fun x => True) := by
  refine Ret.of e_19 Try.func19 rfl Try.ntmps19 rfl rfl (fun w hpre => ?_)
  have hs := hpre.base
  have hm0 : maxLen = 9223372036854775807 := rfl
  refine Ex.regSeq (ExL.pures 0 rfl ?_)
  refine ExL.op rfl (op_box rfl rfl rfl rfl rfl (fun b1 => ?_))
  refine ExL.pures 2 rfl ?_
  refine ExL.nil ?_
  refine Ex.seq ?_
  refine Ex.regSeq (ExL.pures 1 rfl ?_)
  refine ExL.free (fr_loadN rfl rfl rfl rfl rfl (SegO.whole (i := 0) rfl)) rfl rfl rfl ?_
  refine ExL.op rfl (op_ret rfl rfl rfl (c_sValidPhoto s (by assumption) _ _ (by omega) p hp) (Reads.get (Reads.old hs)) rfl rfl (fun x2 hx2 => ?_))
  refine ExL.pures 1 rfl ?_
  refine ExL.nil ?_
  refine Ex.cond rfl (fun hb3 => ?_) (fun hb3 => ?_)
  · replace hb3 := nb_t hb3
    refine Ex.regSeq (ExL.pures 0 rfl ?_)
    refine ExL.op rfl (op_buildSlice (sz := 1) rfl rfl rfl rfl rfl rfl rfl rfl (by decide) rfl rfl rfl (fun r4 => ?_))
    refine ExL.pures 2 rfl ?_
    refine ExL.nil ?_
    refine Ex.ret ?_
    refine RetQ.mk ((some ⟨r4, 0, none⟩), 0) rfl (.tmp rfl (.tmp rfl .nil)) (t2 (by first | (rw [vi_1 (by assumption)]; first | done | rfl) | (rw [vi_3 (by assumption) (by omega)]; first | done | rfl) | (rw [vi_0 (by assumption) (by omega)]; first | done | rfl)) (by first | (rw [vi_1 (by assumption)]; first | done | rfl) | (rw [vi_3 (by assumption) (by omega)]; first | done | rfl) | (rw [vi_0 (by assumption) (by omega)]; first | done | rfl))) [0] (by first | (rw [vi_1 (by assumption)]; first | done | rfl) | (rw [vi_3 (by assumption) (by omega)]; first | done | rfl) | (rw [vi_0 (by assumption) (by omega)]; first | done | rfl)) rfl (trivial)
  · replace hb3 := nb_f hb3
    refine Ex.skip ?_
    refine Ex.seq ?_
    obtain ⟨hv, hS, hP⟩ := vph hp (by assumption)
    have h8 := hS.len8
    have hz := hS.size_
    have hle := hS.le
    have hps := hS.pos
    refine Ex.regSeq (ExL.pures 2 rfl ?_)
    refine ExL.op rfl (op_ret rfl rfl rfl (c_l05Choices s (by first | assumption | exact stk (by assumption)) p (by assumption) hp _ _ s.length (by omega)) (Reads.get (Reads.blk (i := 0) rfl)) rfl rfl (fun x5 hx5 => ?_))
    refine ExL.gtr rfl rfl rfl rfl rfl rfl (fun h6 => ?_) (fun h6 => ?_)
    · refine ExL.nil ?_
      refine Ex.cond_t rfl ?_
      refine Ex.regSeq (ExL.pures 0 rfl ?_)
      refine ExL.op rfl (op_buildSlice (sz := 1) rfl rfl rfl rfl rfl rfl rfl rfl (by decide) rfl rfl rfl (fun r7 => ?_))
      refine ExL.pures 2 rfl ?_
      refine ExL.nil ?_
      refine Ex.ret ?_
      refine RetQ.mk ((some ⟨r7, 0, none⟩), 0) rfl (.tmp rfl (.tmp rfl .nil)) (t2 (by first | (rw [vi_1 (by assumption)]; first | done | rfl) | (rw [vi_3 (by assumption) (by omega)]; first | done | rfl) | (rw [vi_0 (by assumption) (by omega)]; first | done | rfl)) (by first | (rw [vi_1 (by assumption)]; first | done | rfl) | (rw [vi_3 (by assumption) (by omega)]; first | done | rfl) | (rw [vi_0 (by assumption) (by omega)]; first | done | rfl))) [0] (by first | (rw [vi_1 (by assumption)]; first | done | rfl) | (rw [vi_3 (by assumption) (by omega)]; first | done | rfl) | (rw [vi_0 (by assumption) (by omega)]; first | done | rfl)) rfl (trivial)
    · refine ExL.nil ?_
      refine Ex.cond_f rfl ?_
      refine Ex.skip ?_
      refine Ex.regSeq (ExL.pures 1 rfl ?_)
      refine ExL.op rfl (op_ret rfl rfl rfl (c_l05Values s (by first | assumption | simp_all) _ _ p hp _ _ (by assumption)) (fun w hw => ⟨Reads.get (Reads.old hs) w hw, Reads.get (Reads.blk (i := 0) rfl) w hw⟩) rfl rfl (fun x8 hx8 => ?_))
      refine ExL.pures 2 rfl ?_
      refine ExL.nil ?_
      refine Ex.ret ?_
      refine RetQ.mk (x8.1, x8.2) rfl (.tmp rfl (.tmp rfl .nil)) (t2 (by first | (rw [vi_1 (by assumption)]; first | done | rfl) | (rw [vi_3 (by assumption) (by omega)]; first | done | rfl) | (rw [vi_0 (by assumption) (by omega)]; first | done | rfl)) (by first | (rw [vi_1 (by assumption)]; first | done | rfl) | (rw [vi_3 (by assumption) (by omega)]; first | done | rfl) | (rw [vi_0 (by assumption) (by omega)]; first | done | rfl))) [0] (by first | (rw [vi_1 (by assumption)]; first | done | rfl) | (rw [vi_3 (by assumption) (by omega)]; first | done | rfl) | (rw [vi_0 (by assumption) (by omega)]; first | done | rfl)) rfl (trivial)
end Go.Proofs.Ytplljnddhkleaaa
