/- Several texts, one behind the other. -/
import Derived.Test.YtdgfalhfmboalaaGreatDoorProg
import Derived.Test.YtdgfalhfmboalaaGreatDoorXaa
import Derived.Test.YtdgfalhfmboalaaGreatDoorXab
import Derived.Test.YtdgfalhfmboalaaGreatDoorXba
import Derived.Test.YtdgfalhfmboalaaGreatDoorXbb
/- What these functions of the program hand back, each proved by walking its operations. -/
set_option linter.unusedVariables false
set_option linter.unusedSimpArgs false
set_option maxRecDepth 4000
namespace Go.Proofs.YtdgfalhfmboalaaGreatDoor
open Go Go.Sx Go.RowKit Go.W Go.Proofs
attribute [local irreducible] Ex ExL ExD Op1 Free RetQ MutQ Reads CellO SegO LoadsAs
theorem e_58 : Enters Tryz.prog 58 := Enters.of Tryz.func58 rfl
theorem c_values (s : List Int) (hv : validStack s = true) (As : Option Addr) (cs : Nat) (p : VPh) (hp : OkPh p) (hP : PhOk s p.l) : Ret Tryz.prog 58 [.slice As s.length cs, .agg (encPh p).toArray] (fun w => Rd w As (s.flatMap (eI .u8))) (fun x : Option Addr × Nat => .slice x.1 (valsP s p).length x.2) (fun x => [.row (.slice x.1 (valsP s p).length x.2) 2 1 (valsP s p).length ((valsP s p).flatMap (eI .i64))]) (fun x => True) := by
  refine Ret.of e_58 Tryz.func58 rfl Tryz.ntmps58 rfl rfl (fun w hpre => ?_)
  have hs := hpre.base
  have hS := stk hv
  have h8 := hS.len8
  have hm0 : maxLen = 9223372036854775807 := rfl
  refine Ex.regSeq (ExL.pures 0 rfl ?_)
  refine ExL.op rfl (op_box rfl rfl rfl rfl rfl (fun b1 => ?_))
  refine ExL.pures 1 rfl ?_
  refine ExL.nil ?_
  refine Ex.regSeq (ExL.pures 0 rfl ?_)
  refine ExL.op rfl (op_buildSlice (sz := 1) rfl rfl rfl rfl rfl rfl rfl rfl (by decide) rfl rfl rfl (fun r2 => ?_))
  refine ExL.pures 1 rfl ?_
  refine ExL.nil ?_
  refine Ex.seq ?_
  refine Ex.regSeq (ExL.pures 2 rfl ?_)
  refine ExL.free (by first | exact fr_sub64 rfl rfl rfl (by omega) | exact fr_sub rfl rfl rfl) rfl rfl rfl ?_
  refine ExL.pures 1 rfl ?_
  refine ExL.nil ?_
  refine Ex.block ?_
  refine Ex.loopA (fun t A c => [(5, .slice A (valW s p.l t).length c), (6, .int .i64 ((s.length : Int) - 1 - t))]) (fun t A c => [.row (.slice A (valW s p.l t).length c) 2 1 (valW s p.l t).length ((valW s p.l t).flatMap (eI .i64))]) (fun t => t ≤ s.length) (fun t => s.length - t) 0 ((some ⟨r2, 0, none⟩)) (1) [(0, _), (3, _), (4, _)] [_] 2 [0, 1] ⟨rfl, agI (by omega), trivial⟩ ⟨rfl, rfl, rfl, trivial⟩ (rfl) rfl (Nat.zero_le _) (fun t A c hI => ?_)
  have hI : t ≤ s.length := hI
  refine Ex.seq ?_
  refine Ex.regSeq (ExL.pures 1 rfl ?_)
  refine ExL.geq rfl rfl rfl rfl rfl rfl (fun h3 => ?_) (fun h3 => ?_)
  · refine ExL.nil ?_
    refine Ex.cond_t rfl ?_
    refine Ex.skip ?_
    refine Ex.seq ?_
    refine Ex.block ?_
    have hts : t < s.length := by omega
    have hjs : (s.length - 1 - t) < s.length := by omega
    have hroom := val_room hP hS hts
    have hbj := hS.bases (s.length - 1 - t) hjs
    rw [show (s.length : Int) - 1 - t = ((s.length - 1 - t : Nat) : Int) by omega]
    have hdl := digI_len' (p.l.getD (s.length - 1 - t) zMk)
    refine Ex.regSeq (ExL.pures 0 rfl ?_)
    refine ExL.op rfl (op_buildSlice (sz := 1) rfl rfl rfl rfl rfl rfl rfl rfl (by decide) rfl rfl rfl (fun r4 => ?_))
    refine ExL.pures 1 rfl ?_
    refine ExL.nil ?_
    refine Ex.seq ?_
    refine Ex.regSeq (ExL.pures 3 rfl ?_)
    refine ExL.nil ?_
    refine Ex.block ?_
    refine Ex.loopA (fun q A2 c2 => [(7, .slice A2 (partV (s.getD (s.length - 1 - t) 0) (digI (p.l.getD (s.length - 1 - t) zMk)) (valW s p.l t) q 0).length c2), (23, .int .i64 q)]) (fun q A2 c2 => [.row (.slice A2 (partV (s.getD (s.length - 1 - t) 0) (digI (p.l.getD (s.length - 1 - t) zMk)) (valW s p.l t) q 0).length c2) 2 1 (partV (s.getD (s.length - 1 - t) 0) (digI (p.l.getD (s.length - 1 - t) zMk)) (valW s p.l t) q 0).length ((partV (s.getD (s.length - 1 - t) 0) (digI (p.l.getD (s.length - 1 - t) zMk)) (valW s p.l t) q 0).flatMap (eI .i64))]) (fun q => q ≤ (valW s p.l t).length) (fun q => (valW s p.l t).length - q) 0 ((some ⟨r4, 0, none⟩)) (0) [(0, _), (3, _), (4, _), (5, _), (6, _), (21, _), (22, _)] [_, _] 3 [0, 1, 2] ⟨rfl, rfl, trivial⟩ ⟨rfl, rfl, rfl, rfl, rfl, rfl, rfl, trivial⟩ (rfl) rfl (Nat.zero_le _) (fun q A2 c2 hI => ?_)
    have hI : q ≤ (valW s p.l t).length := hI
    have hvq := valW_at hP hS (j := t) (by omega) q
    have hmq := valW_mul hP hS (j := t) (by omega) q
    have hpl2 := ptv_le (b := (s.getD (s.length - 1 - t) 0)) (ds := (digI (p.l.getD (s.length - 1 - t) zMk))) hI
    refine Ex.regSeq (ExL.pures 0 rfl ?_)
    refine ExL.lss rfl rfl rfl rfl rfl rfl (fun h5 => ?_) (fun h5 => ?_)
    · refine ExL.nil ?_
      refine Ex.seq ?_
      refine Ex.cond_t rfl ?_
      refine Ex.skip ?_
      refine Ex.seq ?_
      refine Ex.block ?_
      refine Ex.regSeq (ExL.pures 0 rfl ?_)
      refine ExL.free (fr_indexAddrR (sz := 1) 1 rfl rfl rfl rfl rfl rfl (by omega)) rfl rfl rfl ?_
      refine ExL.free (fr_load rfl rfl rfl rfl (by first | exact cellN (Reads.row (i := 1) rfl) (eI_len .i64) 0 0 rfl (by omega) rfl | exact cellF (Reads.row (i := 1) rfl) (eI_len .i64) 0 0 rfl (by omega) rfl)) rfl rfl rfl ?_
      refine ExL.pures 1 rfl ?_
      refine ExL.nil ?_
      refine Ex.regSeq (ExL.pures 1 rfl ?_)
      refine ExL.free (fr_indexAddr_b (sz := 2) rfl rfl rfl rfl rfl (by omega)) rfl rfl rfl ?_
      refine ExL.free (fr_loadN rfl rfl rfl rfl rfl (segB (i := 2) rfl encMk_len zMk (by rw [ph_len]; omega))) rfl rfl rfl ?_
      refine ExL.op rfl (op_ret rfl rfl rfl (c_digitsM (p.l.getD (s.length - 1 - t) zMk) (hp (s.length - 1 - t) (by omega))) (fun _ _ => trivial) rfl rfl (fun x6 hx6 => ?_))
      refine ExL.pures 2 rfl ?_
      refine ExL.nil ?_
      refine Ex.block ?_
      have hql : q < (valW s p.l t).length := by omega
      refine Ex.loopA (fun r A3 c3 => [(7, .slice A3 (partV (s.getD (s.length - 1 - t) 0) (digI (p.l.getD (s.length - 1 - t) zMk)) (valW s p.l t) q r).length c3), (32, .int .i64 r)]) (fun r A3 c3 => [.row (.slice A3 (partV (s.getD (s.length - 1 - t) 0) (digI (p.l.getD (s.length - 1 - t) zMk)) (valW s p.l t) q r).length c3) 2 1 (partV (s.getD (s.length - 1 - t) 0) (digI (p.l.getD (s.length - 1 - t) zMk)) (valW s p.l t) q r).length ((partV (s.getD (s.length - 1 - t) 0) (digI (p.l.getD (s.length - 1 - t) zMk)) (valW s p.l t) q r).flatMap (eI .i64))]) (fun r => r ≤ (digI (p.l.getD (s.length - 1 - t) zMk)).length) (fun r => (digI (p.l.getD (s.length - 1 - t) zMk)).length - r) 0 (A2) (c2) [(0, _), (3, _), (4, _), (5, _), (6, _), (9, _), (21, _), (22, _), (23, _), (30, _), (31, _)] [_, _, _] 4 [1, 0, 2, 3] ⟨rfl, rfl, trivial⟩ ⟨rfl, rfl, rfl, rfl, rfl, rfl, rfl, rfl, rfl, rfl, rfl, trivial⟩ (rfl) rfl (Nat.zero_le _) (fun r A3 c3 hI => ?_)
      have hI : r ≤ (digI (p.l.getD (s.length - 1 - t) zMk)).length := hI
      refine Ex.regSeq (ExL.pures 0 rfl ?_)
      refine ExL.lss rfl rfl rfl rfl rfl rfl (fun h7 => ?_) (fun h7 => ?_)
      · refine ExL.nil ?_
        refine Ex.seq ?_
        refine Ex.cond_t rfl ?_
        refine Ex.skip ?_
        refine Ex.seq ?_
        refine Ex.block ?_
        have hrl : r < (digI (p.l.getD (s.length - 1 - t) zMk)).length := by omega
        have hdr := digI_has (getD_mem 0 hrl)
        have hpl3 := ptv_len (s.getD (s.length - 1 - t) 0) (digI (p.l.getD (s.length - 1 - t) zMk)) (valW s p.l t) q r hql hI
        refine Ex.regSeq (ExL.pures 0 rfl ?_)
        refine ExL.free (fr_indexAddrR (sz := 1) 1 rfl rfl rfl rfl rfl rfl (by omega)) rfl rfl rfl ?_
        refine ExL.free (fr_load rfl rfl rfl rfl (by first | exact cellN (Reads.row (i := 1) rfl) (eI_len .i64) 0 0 rfl (by omega) rfl | exact cellF (Reads.row (i := 1) rfl) (eI_len .i64) 0 0 rfl (by omega) rfl)) rfl rfl rfl ?_
        refine ExL.pures 1 rfl ?_
        refine ExL.nil ?_
        refine Ex.region (ExL.pures 4 rfl ?_)
        refine ExL.free (fr_indexAddrF (Reads.old hs) (eI_len .u8) rfl rfl rfl rfl rfl rfl (by omega)) rfl rfl rfl ?_
        refine ExL.free (fr_load rfl rfl rfl rfl (cellJ ((s.length - 1 - t)) (Reads.old hs) (eI_len .u8) 0 0 rfl (by omega) (by omega) rfl)) rfl rfl rfl ?_
        refine ExL.free (by first | exact fr_conv64 rfl rfl rfl rfl (by omega) | exact fr_conv rfl rfl rfl rfl) rfl rfl rfl ?_
        refine ExL.free (by first | exact fr_mul64 rfl rfl rfl (by omega) | exact fr_mul rfl rfl rfl) rfl rfl rfl ?_
        refine ExL.pures 1 rfl ?_
        refine ExL.free (by first | exact fr_add64 rfl rfl rfl (by omega) | exact fr_add rfl rfl rfl) rfl rfl rfl ?_
        refine ExL.op rfl (op_buildSlice (sz := 1) rfl rfl rfl rfl rfl rfl rfl rfl (by decide) rfl rfl rfl (fun r8 => ?_))
        refine ExL.op rfl (op_append (sz := 1) (bytes := 8) (i := 1) rfl rfl rfl rfl (Reads.row (i := 0) rfl) rfl (fun e => nomatch e) rfl rfl rfl rfl (by constructor <;> first | omega | (unfold maxLen; omega)) rfl rfl (fun A9 cA9 => ?_))
        refine ExL.pures 1 rfl ?_
        refine ExL.nil ?_
        refine Ex.region (ExL.pures 0 rfl ?_)
        refine ExL.free (by first | exact fr_add64 rfl rfl rfl (by omega) | exact fr_add rfl rfl rfl) rfl rfl rfl ?_
        refine ExL.pures 1 rfl ?_
        refine ExL.nil ?_
        refine HandA.of (r + 1) (A9) (cA9) 5 [1, 2, 3, 4] ⟨(by rw [ptv_snoc hrl, List.length_append]; rfl), rfl, trivial⟩ ⟨rfl, rfl, rfl, rfl, rfl, rfl, rfl, rfl, rfl, rfl, rfl, trivial⟩ (by rw [ptv_snoc hrl, List.length_append, List.flatMap_append]; rfl) rfl (by omega) (by omega)
      · refine ExL.nil ?_
        refine Ex.seq ?_
        refine Ex.cond_f rfl ?_
        refine Ex.exit ?_
        obtain rfl : r = (digI (p.l.getD (s.length - 1 - t) zMk)).length := (by omega)
        rw [ptv_next hql rfl]
        refine Ex.region (ExL.pures 0 rfl ?_)
        refine ExL.free (by first | exact fr_add64 rfl rfl rfl (by omega) | exact fr_add rfl rfl rfl) rfl rfl rfl ?_
        refine ExL.pures 1 rfl ?_
        refine ExL.nil ?_
        refine HandA.of (q + 1) (A3) (c3) 4 [0, 2, 3] ⟨rfl, rfl, trivial⟩ ⟨rfl, rfl, rfl, rfl, rfl, rfl, rfl, trivial⟩ (rfl) rfl (by omega) (by omega)
    · refine ExL.nil ?_
      refine Ex.seq ?_
      refine Ex.cond_f rfl ?_
      refine Ex.exit ?_
      obtain rfl : q = (valW s p.l t).length := (by omega)
      rw [ptv_all]
      refine Ex.region (ExL.pures 2 rfl ?_)
      refine ExL.nil ?_
      refine Ex.region (ExL.pures 1 rfl ?_)
      refine ExL.free (by first | exact fr_sub64 rfl rfl rfl (by omega) | exact fr_sub rfl rfl rfl) rfl rfl rfl ?_
      refine ExL.pures 1 rfl ?_
      refine ExL.nil ?_
      refine HandA.of (t + 1) (A2) (c2) 3 [0, 2] ⟨(by first | rfl | (rw [ptv_all]; rfl)), agI (by omega), trivial⟩ ⟨rfl, rfl, rfl, trivial⟩ (by first | rfl | (rw [ptv_all]; rfl)) rfl (by omega) (by omega)
  · refine ExL.nil ?_
    refine Ex.cond_f rfl ?_
    refine Ex.exit ?_
    obtain rfl : t = s.length := (by omega)
    refine Ex.regSeq (ExL.pures 2 rfl ?_)
    refine ExL.nil ?_
    refine Ex.ret ?_
    refine RetQ.mk (A, c) rfl (.tmp rfl .nil) (rfl) [0] (rfl) rfl (trivial)
theorem e_59 : Enters Tryz.prog 59 := Enters.of Tryz.func59 rfl
theorem c_l05Values (s : List Int) (hv : validStack s = true) (As : Option Addr) (cs : Nat) (p : VPh) (hp : OkPh p) (b q : Nat) (hP : PhOk s p.l) : Ret Tryz.prog 59 [.slice As s.length cs, .pointer (some ⟨b, q, none⟩)] (fun w => Rd w As (s.flatMap (eI .u8)) ∧ Rd w (some ⟨b, q, none⟩) (encPh p)) (fun x : Option Addr × Nat => .slice x.1 (valsP s p).length x.2) (fun x => [.row (.slice x.1 (valsP s p).length x.2) 2 1 (valsP s p).length ((valsP s p).flatMap (eI .i64))]) (fun x => True) := by
  refine Ret.of e_59 Tryz.func59 rfl Tryz.ntmps59 rfl rfl (fun w hpre => ?_)
  have hpt := hpre.2.base
  have hs := hpre.1.base
  have hS := stk hv
  have h8 := hS.len8
  have hm0 : maxLen = 9223372036854775807 := rfl
  refine Ex.regSeq (ExL.pures 1 rfl ?_)
  refine ExL.nil ?_
  refine Ex.regSeq (ExL.pures 0 rfl ?_)
  refine ExL.op rfl (op_buildSlice (sz := 1) rfl rfl rfl rfl rfl rfl rfl rfl (by decide) rfl rfl rfl (fun r1 => ?_))
  refine ExL.pures 1 rfl ?_
  refine ExL.nil ?_
  refine Ex.seq ?_
  refine Ex.regSeq (ExL.pures 2 rfl ?_)
  refine ExL.free (by first | exact fr_sub64 rfl rfl rfl (by omega) | exact fr_sub rfl rfl rfl) rfl rfl rfl ?_
  refine ExL.pures 1 rfl ?_
  refine ExL.nil ?_
  refine Ex.block ?_
  refine Ex.loopA (fun t A c => [(5, .slice A (valW s p.l t).length c), (6, .int .i64 ((s.length : Int) - 1 - t))]) (fun t A c => [.row (.slice A (valW s p.l t).length c) 2 1 (valW s p.l t).length ((valW s p.l t).flatMap (eI .i64))]) (fun t => t ≤ s.length) (fun t => s.length - t) 0 ((some ⟨r1, 0, none⟩)) (1) [(0, _), (1, _), (4, _)] [] 1 [0] ⟨rfl, agI (by omega), trivial⟩ ⟨rfl, rfl, rfl, trivial⟩ (rfl) rfl (Nat.zero_le _) (fun t A c hI => ?_)
  have hI : t ≤ s.length := hI
  refine Ex.seq ?_
  refine Ex.regSeq (ExL.pures 1 rfl ?_)
  refine ExL.geq rfl rfl rfl rfl rfl rfl (fun h2 => ?_) (fun h2 => ?_)
  · refine ExL.nil ?_
    refine Ex.cond_t rfl ?_
    refine Ex.skip ?_
    refine Ex.seq ?_
    refine Ex.block ?_
    have hts : t < s.length := by omega
    have hjs : (s.length - 1 - t) < s.length := by omega
    have hroom := val_room hP hS hts
    have hbj := hS.bases (s.length - 1 - t) hjs
    rw [show (s.length : Int) - 1 - t = ((s.length - 1 - t : Nat) : Int) by omega]
    have hdl := digI_len' (p.l.getD (s.length - 1 - t) zMk)
    refine Ex.regSeq (ExL.pures 0 rfl ?_)
    refine ExL.op rfl (op_buildSlice (sz := 1) rfl rfl rfl rfl rfl rfl rfl rfl (by decide) rfl rfl rfl (fun r3 => ?_))
    refine ExL.pures 1 rfl ?_
    refine ExL.nil ?_
    refine Ex.seq ?_
    refine Ex.regSeq (ExL.pures 1 rfl ?_)
    refine ExL.nil ?_
    refine Ex.block ?_
    refine Ex.loopA (fun q A2 c2 => [(7, .slice A2 (partV (s.getD (s.length - 1 - t) 0) (digI (p.l.getD (s.length - 1 - t) zMk)) (valW s p.l t) q 0).length c2), (8, .int .i64 q)]) (fun q A2 c2 => [.row (.slice A2 (partV (s.getD (s.length - 1 - t) 0) (digI (p.l.getD (s.length - 1 - t) zMk)) (valW s p.l t) q 0).length c2) 2 1 (partV (s.getD (s.length - 1 - t) 0) (digI (p.l.getD (s.length - 1 - t) zMk)) (valW s p.l t) q 0).length ((partV (s.getD (s.length - 1 - t) 0) (digI (p.l.getD (s.length - 1 - t) zMk)) (valW s p.l t) q 0).flatMap (eI .i64))]) (fun q => q ≤ (valW s p.l t).length) (fun q => (valW s p.l t).length - q) 0 ((some ⟨r3, 0, none⟩)) (0) [(0, _), (1, _), (4, _), (5, _), (6, _)] [_] 2 [0, 1] ⟨rfl, rfl, trivial⟩ ⟨rfl, rfl, rfl, rfl, rfl, trivial⟩ (rfl) rfl (Nat.zero_le _) (fun q A2 c2 hI => ?_)
    have hI : q ≤ (valW s p.l t).length := hI
    have hvq := valW_at hP hS (j := t) (by omega) q
    have hmq := valW_mul hP hS (j := t) (by omega) q
    have hpl2 := ptv_le (b := (s.getD (s.length - 1 - t) 0)) (ds := (digI (p.l.getD (s.length - 1 - t) zMk))) hI
    refine Ex.seq ?_
    refine Ex.regSeq (ExL.pures 3 rfl ?_)
    refine ExL.lss rfl rfl rfl rfl rfl rfl (fun h4 => ?_) (fun h4 => ?_)
    · refine ExL.nil ?_
      refine Ex.cond_t rfl ?_
      refine Ex.skip ?_
      refine Ex.seq ?_
      refine Ex.block ?_
      refine Ex.regSeq (ExL.pures 1 rfl ?_)
      refine ExL.nil ?_
      refine Ex.block ?_
      have hql : q < (valW s p.l t).length := by omega
      refine Ex.loopA (fun r A3 c3 => [(7, .slice A3 (partS (s.getD (s.length - 1 - t) 0) (p.l.getD (s.length - 1 - t) zMk) (valW s p.l t) q r).length c3), (9, .int .i64 r)]) (fun r A3 c3 => [.row (.slice A3 (partS (s.getD (s.length - 1 - t) 0) (p.l.getD (s.length - 1 - t) zMk) (valW s p.l t) q r).length c3) 2 1 (partS (s.getD (s.length - 1 - t) 0) (p.l.getD (s.length - 1 - t) zMk) (valW s p.l t) q r).length ((partS (s.getD (s.length - 1 - t) 0) (p.l.getD (s.length - 1 - t) zMk) (valW s p.l t) q r).flatMap (eI .i64))]) (fun r => (r : Int) ≤ (s.getD (s.length - 1 - t) 0)) (fun r => (s.getD (s.length - 1 - t) 0).toNat - r) 0 (A2) (c2) [(0, _), (1, _), (4, _), (5, _), (6, _), (8, _)] [_] 2 [0, 1] ⟨rfl, rfl, trivial⟩ ⟨rfl, rfl, rfl, rfl, rfl, rfl, trivial⟩ (rfl) rfl (by omega) (fun r A3 c3 hI => ?_)
      have hI : (r : Int) ≤ (s.getD (s.length - 1 - t) 0) := hI
      refine Ex.seq ?_
      refine Ex.regSeq (ExL.pures 3 rfl ?_)
      refine ExL.free (fr_indexAddrF (Reads.old hs) (eI_len .u8) rfl rfl rfl rfl rfl rfl (by omega)) rfl rfl rfl ?_
      refine ExL.free (fr_load rfl rfl rfl rfl (cellJ ((s.length - 1 - t)) (Reads.old hs) (eI_len .u8) 0 0 rfl (by omega) (by omega) rfl)) rfl rfl rfl ?_
      refine ExL.free (by first | exact fr_conv64 rfl rfl rfl rfl (by omega) | exact fr_conv rfl rfl rfl rfl) rfl rfl rfl ?_
      refine ExL.lss rfl rfl rfl rfl rfl rfl (fun h5 => ?_) (fun h5 => ?_)
      · refine ExL.nil ?_
        refine Ex.cond_t rfl ?_
        refine Ex.skip ?_
        refine Ex.seq ?_
        refine Ex.block ?_
        have hpl3 := pts_len (b := (s.getD (s.length - 1 - t) 0)) (m := (p.l.getD (s.length - 1 - t) zMk)) (d := r) hql (by omega)
        refine Ex.regSeq (ExL.pures 3 rfl ?_)
        refine ExL.free (fr_indexAddr_b (sz := 2) rfl rfl rfl rfl rfl (by omega)) rfl rfl rfl ?_
        refine ExL.free (fr_loadN rfl rfl rfl rfl rfl (segOld (Reads.old hpt) encMk_len zMk rfl (by rw [ph_len]; omega))) rfl rfl rfl ?_
        refine ExL.pures 1 rfl ?_
        refine ExL.op rfl (op_ret rfl rfl rfl (c_l05Has (p.l.getD (s.length - 1 - t) zMk) (hp (s.length - 1 - t) (by omega)) _ (by omega)) (fun _ _ => trivial) rfl rfl (fun x6 hx6 => ?_))
        refine ExL.nil ?_
        refine Ex.cond rfl (fun hb7 => ?_) (fun hb7 => ?_)
        · refine Ex.drawI [1] rfl rfl ?_
          refine ExD.take (i := 0) rfl (by kernel_rfl) (pureVal_ok rfl) ((List.Sublist.cons _ (List.Sublist.refl _))) rfl rfl rfl ?_
          refine ExD.take (i := 1) rfl (by kernel_rfl) (pureVal_ok rfl) ((List.Sublist.cons _ (List.Sublist.refl _))) rfl rfl rfl ?_
          refine ExD.take (i := 2) rfl (by kernel_rfl) (pureVal_ok rfl) ((List.Sublist.cons _ (List.Sublist.refl _))) rfl rfl rfl ?_
          refine ExD.take (i := 3) rfl (by kernel_rfl) (fr_indexAddrR (sz := 1) 0 rfl rfl rfl rfl rfl rfl (by omega)) ((List.Sublist.cons _ (List.Sublist.refl _))) rfl rfl rfl ?_
          refine ExD.take (i := 4) rfl (by kernel_rfl) (fr_load rfl rfl rfl rfl (by first | exact cellN (Reads.row (i := 0) rfl) (eI_len .i64) 0 0 rfl (by omega) rfl | exact cellF (Reads.row (i := 0) rfl) (eI_len .i64) 0 0 rfl (by omega) rfl)) ((List.Sublist.cons _ (List.Sublist.refl _))) rfl rfl rfl ?_
          refine ExD.take (i := 5) rfl (by kernel_rfl) (pureVal_ok rfl) ((List.Sublist.cons _ (List.Sublist.refl _))) rfl rfl rfl ?_
          refine ExD.take (i := 6) rfl (by kernel_rfl) (pureVal_ok rfl) ((List.Sublist.cons _ (List.Sublist.refl _))) rfl rfl rfl ?_
          refine ExD.take (i := 7) rfl (by kernel_rfl) (fr_indexAddrF (Reads.old hs) (eI_len .u8) rfl rfl rfl rfl rfl rfl (by omega)) ((List.Sublist.cons _ (List.Sublist.refl _))) rfl rfl rfl ?_
          refine ExD.take (i := 8) rfl (by kernel_rfl) (fr_load rfl rfl rfl rfl (cellJ ((s.length - 1 - t)) (Reads.old hs) (eI_len .u8) 0 0 rfl (by omega) (by omega) rfl)) ((List.Sublist.cons _ (List.Sublist.refl _))) rfl rfl rfl ?_
          refine ExD.take (i := 9) rfl (by kernel_rfl) (by first | exact fr_conv64 rfl rfl rfl rfl (by omega) | exact fr_conv rfl rfl rfl rfl) ((List.Sublist.cons _ (List.Sublist.refl _))) rfl rfl rfl ?_
          refine ExD.take (i := 10) rfl (by kernel_rfl) (by first | exact fr_mul64 rfl rfl rfl (by omega) | exact fr_mul rfl rfl rfl) ((List.Sublist.cons _ (List.Sublist.refl _))) rfl rfl rfl ?_
          refine ExD.take (i := 11) rfl (by kernel_rfl) (pureVal_ok rfl) ((List.Sublist.cons _ (List.Sublist.refl _))) rfl rfl rfl ?_
          refine ExD.take (i := 12) rfl (by kernel_rfl) (by first | exact fr_add64 rfl rfl rfl (by omega) | exact fr_add rfl rfl rfl) ((List.Sublist.cons _ (List.Sublist.refl _))) rfl rfl rfl ?_
          refine ExD.op (i := 13) rfl (by kernel_rfl) rfl (op_buildSlice (sz := 1) rfl rfl rfl rfl rfl rfl rfl rfl (by decide) rfl rfl rfl (fun r8 => ⟨(List.Sublist.cons _ (List.Sublist.cons _ (List.Sublist.refl _))), ?_⟩))
          refine ExD.op (i := 14) rfl (by kernel_rfl) rfl (op_append (sz := 1) (bytes := 8) (i := 1) rfl rfl rfl rfl (Reads.row (i := 0) rfl) rfl (fun e => nomatch e) rfl rfl rfl rfl (by constructor <;> first | omega | (unfold maxLen; omega)) rfl rfl (fun A9 cA9 => ⟨(List.Sublist.cons _ (List.Sublist.cons _ (List.Sublist.refl _))), ?_⟩))
          refine ExD.take (i := 15) rfl (by kernel_rfl) (pureVal_ok rfl) ((List.Sublist.cons _ (List.Sublist.cons _ (List.Sublist.refl _)))) rfl rfl rfl ?_
          refine ExD.done (by kernel_rfl) ?_
          refine Ex.region (ExL.pures 1 rfl ?_)
          refine ExL.free (by first | exact fr_add64 rfl rfl rfl (by omega) | exact fr_add rfl rfl rfl) rfl rfl rfl ?_
          refine ExL.pures 1 rfl ?_
          refine ExL.nil ?_
          refine HandA.of (r + 1) (A9) (cA9) 3 [1, 2] ⟨(by first | (rw [pts_n (by simp_all)]; first | done | rfl) | (rw [pts_y (by simp_all), List.length_append]; rfl)), rfl, trivial⟩ ⟨rfl, rfl, rfl, rfl, rfl, rfl, trivial⟩ (by first | (rw [pts_n (by simp_all)]; first | done | rfl) | (rw [pts_y (by simp_all), List.length_append, List.flatMap_append]; rfl)) rfl (by omega) (by omega)
        · refine Ex.skip ?_
          refine Ex.region (ExL.pures 1 rfl ?_)
          refine ExL.free (by first | exact fr_add64 rfl rfl rfl (by omega) | exact fr_add rfl rfl rfl) rfl rfl rfl ?_
          refine ExL.pures 1 rfl ?_
          refine ExL.nil ?_
          refine HandA.of (r + 1) (A3) (c3) 2 [0, 1] ⟨(by first | (rw [pts_n (by simp_all)]; first | done | rfl) | (rw [pts_y (by simp_all), List.length_append]; rfl)), rfl, trivial⟩ ⟨rfl, rfl, rfl, rfl, rfl, rfl, trivial⟩ (by first | (rw [pts_n (by simp_all)]; first | done | rfl) | (rw [pts_y (by simp_all), List.length_append, List.flatMap_append]; rfl)) rfl (by omega) (by omega)
      · refine ExL.nil ?_
        refine Ex.cond_f rfl ?_
        refine Ex.exit ?_
        have hre : ∀ e, e < 128 → hasM (p.l.getD (s.length - 1 - t) zMk) e = true → e < r := fun e he hh => by have := hP.lt _ hjs e he hh; omega
        rw [pts_next hql (by omega) hre]
        refine Ex.region (ExL.pures 1 rfl ?_)
        refine ExL.free (by first | exact fr_add64 rfl rfl rfl (by omega) | exact fr_add rfl rfl rfl) rfl rfl rfl ?_
        refine ExL.pures 1 rfl ?_
        refine ExL.nil ?_
        refine HandA.of (q + 1) (A3) (c3) 2 [0, 1] ⟨rfl, rfl, trivial⟩ ⟨rfl, rfl, rfl, rfl, rfl, trivial⟩ (rfl) rfl (by omega) (by omega)
    · refine ExL.nil ?_
      refine Ex.cond_f rfl ?_
      refine Ex.exit ?_
      obtain rfl : q = (valW s p.l t).length := (by omega)
      rw [ptv_all]
      refine Ex.region (ExL.pures 2 rfl ?_)
      refine ExL.nil ?_
      refine Ex.region (ExL.pures 1 rfl ?_)
      refine ExL.free (by first | exact fr_sub64 rfl rfl rfl (by omega) | exact fr_sub rfl rfl rfl) rfl rfl rfl ?_
      refine ExL.pures 1 rfl ?_
      refine ExL.nil ?_
      refine HandA.of (t + 1) (A2) (c2) 2 [0] ⟨(by first | rfl | (rw [ptv_all]; rfl)), agI (by omega), trivial⟩ ⟨rfl, rfl, rfl, trivial⟩ (by first | rfl | (rw [ptv_all]; rfl)) rfl (by omega) (by omega)
  · refine ExL.nil ?_
    refine Ex.cond_f rfl ?_
    refine Ex.exit ?_
    obtain rfl : t = s.length := (by omega)
    refine Ex.regSeq (ExL.pures 2 rfl ?_)
    refine ExL.nil ?_
    refine Ex.ret ?_
    refine RetQ.mk (A, c) rfl (.tmp rfl .nil) (rfl) [0] (rfl) rfl (trivial)
theorem e_17 : Enters Tryz.prog 17 := Enters.of Tryz.func17 rfl
theorem c_iValuesIn (s : List Int) (hu : Nums 255 s) (As : Option Addr) (cs : Nat) (hls : s.length ≤ maxLen) (p : VPh) (hp : OkPh p) : Ret Tryz.prog 17 [.slice As s.length cs, .agg (encPh p).toArray] (fun w => Rd w As (s.flatMap (eI .u8))) (fun x : Option Addr × Nat => .tuple #[.slice x.1 (vinV s p).1.length x.2, .int .i64 (vinV s p).2]) (fun x => [.row (.slice x.1 (vinV s p).1.length x.2) 2 1 (vinV s p).1.length ((vinV s p).1.flatMap (eI .i64))]) (fun x => True) := by
  refine Ret.of e_17 Tryz.func17 rfl Tryz.ntmps17 rfl rfl (fun w hpre => ?_)
  have hs := hpre.base
  have hm0 : maxLen = 9223372036854775807 := rfl
  refine Ex.regSeq (ExL.pures 0 rfl ?_)
  refine ExL.op rfl (op_box rfl rfl rfl rfl rfl (fun b1 => ?_))
  refine ExL.pures 2 rfl ?_
  refine ExL.nil ?_
  refine Ex.seq ?_
  refine Ex.block ?_
  refine Ex.regSeq (ExL.pures 1 rfl ?_)
  refine ExL.free (fr_loadN rfl rfl rfl rfl rfl (SegO.whole (i := 0) rfl)) rfl rfl rfl ?_
  refine ExL.op rfl (op_ret rfl rfl rfl (c_iValidPhoto s (by assumption) _ _ (by omega) p hp) (Reads.get (Reads.old hs)) rfl rfl (fun x2 hx2 => ?_))
  refine ExL.pures 2 rfl ?_
  refine ExL.nil ?_
  refine Ex.cond rfl (fun hb3 => ?_) (fun hb3 => ?_)
  · replace hb3 := nb_t hb3
    refine Ex.regSeq (ExL.pures 2 rfl ?_)
    refine ExL.nil ?_
    refine Ex.nilRow 2 1 ?_
    refine Ex.ret ?_
    refine RetQ.mk (none, 0) rfl (.tmp rfl (.tmp rfl .nil)) (t2 (by first | (rw [vi_1 (by assumption)]; first | done | rfl) | (rw [vi_3 (by assumption) (by omega)]; first | done | rfl) | (rw [vi_0 (by assumption) (by omega)]; first | done | rfl)) (by first | (rw [vi_1 (by assumption)]; first | done | rfl) | (rw [vi_3 (by assumption) (by omega)]; first | done | rfl) | (rw [vi_0 (by assumption) (by omega)]; first | done | rfl))) [0] (by first | (rw [vi_1 (by assumption)]; first | done | rfl) | (rw [vi_3 (by assumption) (by omega)]; first | done | rfl) | (rw [vi_0 (by assumption) (by omega)]; first | done | rfl)) rfl (trivial)
  · replace hb3 := nb_f hb3
    obtain ⟨hv, hS, hP⟩ := vph hp (by assumption)
    have h8 := hS.len8
    have hz := hS.size_
    have hle := hS.le
    have hps := hS.pos
    refine Ex.regSeq (ExL.pures 2 rfl ?_)
    refine ExL.op rfl (op_ret rfl rfl rfl (c_choices s (by first | assumption | exact stk (by assumption)) p (by assumption) hp _ _ s.length (by omega)) (Reads.get (Reads.blk (i := 0) rfl)) rfl rfl (fun x4 hx4 => ?_))
    refine ExL.gtr rfl rfl rfl rfl rfl rfl (fun h5 => ?_) (fun h5 => ?_)
    · refine ExL.pures 1 rfl ?_
      refine ExL.nil ?_
      refine Ex.cond_t rfl ?_
      refine Ex.regSeq (ExL.pures 2 rfl ?_)
      refine ExL.nil ?_
      refine Ex.nilRow 2 1 ?_
      refine Ex.ret ?_
      refine RetQ.mk (none, 0) rfl (.tmp rfl (.tmp rfl .nil)) (t2 (by first | (rw [vi_1 (by assumption)]; first | done | rfl) | (rw [vi_3 (by assumption) (by omega)]; first | done | rfl) | (rw [vi_0 (by assumption) (by omega)]; first | done | rfl)) (by first | (rw [vi_1 (by assumption)]; first | done | rfl) | (rw [vi_3 (by assumption) (by omega)]; first | done | rfl) | (rw [vi_0 (by assumption) (by omega)]; first | done | rfl))) [0] (by first | (rw [vi_1 (by assumption)]; first | done | rfl) | (rw [vi_3 (by assumption) (by omega)]; first | done | rfl) | (rw [vi_0 (by assumption) (by omega)]; first | done | rfl)) rfl (trivial)
    · refine ExL.pures 1 rfl ?_
      refine ExL.nil ?_
      refine Ex.cond_f rfl ?_
      refine Ex.skip ?_
      refine Ex.regSeq (ExL.pures 1 rfl ?_)
      refine ExL.free (fr_loadN rfl rfl rfl rfl rfl (SegO.whole (i := 0) rfl)) rfl rfl rfl ?_
      refine ExL.op rfl (op_ret rfl rfl rfl (c_values s (by first | assumption | simp_all) _ _ p hp (by assumption)) (Reads.get (Reads.old hs)) rfl rfl (fun x6 hx6 => ?_))
      refine ExL.pures 2 rfl ?_
      refine ExL.nil ?_
      refine Ex.ret ?_
      refine RetQ.mk (x6.1, x6.2) rfl (.tmp rfl (.tmp rfl .nil)) (t2 (by first | (rw [vi_1 (by assumption)]; first | done | rfl) | (rw [vi_3 (by assumption) (by omega)]; first | done | rfl) | (rw [vi_0 (by assumption) (by omega)]; first | done | rfl)) (by first | (rw [vi_1 (by assumption)]; first | done | rfl) | (rw [vi_3 (by assumption) (by omega)]; first | done | rfl) | (rw [vi_0 (by assumption) (by omega)]; first | done | rfl))) [0] (by first | (rw [vi_1 (by assumption)]; first | done | rfl) | (rw [vi_3 (by assumption) (by omega)]; first | done | rfl) | (rw [vi_0 (by assumption) (by omega)]; first | done | rfl)) rfl (trivial)
theorem e_18 : Enters Tryz.prog 18 := Enters.of Tryz.func18 rfl
theorem c_sValuesIn (s : List Int) (hu : Nums 255 s) (As : Option Addr) (cs : Nat) (hls : s.length ≤ maxLen) (p : VPh) (hp : OkPh p) : Ret Tryz.prog 18 [.slice As s.length cs, .agg (encPh p).toArray] (fun w => Rd w As (s.flatMap (eI .u8))) (fun x : Option Addr × Nat => .tuple #[.slice x.1 (vinV s p).1.length x.2, .int .i64 (vinV s p).2]) (fun x => [.row (.slice x.1 (vinV s p).1.length x.2) 2 1 (vinV s p).1.length ((vinV s p).1.flatMap (eI .i64))]) (fun x => True) := by
  refine Ret.of e_18 Tryz.func18 rfl Tryz.ntmps18 rfl rfl (fun w hpre => ?_)
  have hs := hpre.base
  have hm0 : maxLen = 9223372036854775807 := rfl
  refine Ex.regSeq (ExL.pures 0 rfl ?_)
  refine ExL.op rfl (op_box rfl rfl rfl rfl rfl (fun b1 => ?_))
  refine ExL.pures 2 rfl ?_
  refine ExL.nil ?_
  refine Ex.seq ?_
  refine Ex.regSeq (ExL.pures 1 rfl ?_)
  refine ExL.free (fr_loadN rfl rfl rfl rfl rfl (SegO.whole (i := 0) rfl)) rfl rfl rfl ?_
  refine ExL.op rfl (op_ret rfl rfl rfl (c_sValidPhoto s (by assumption) _ _ (by omega) p hp) (Reads.get (Reads.old hs)) rfl rfl (fun x2 hx2 => ?_))
  refine ExL.pures 1 rfl ?_
  refine ExL.nil ?_
  refine Ex.cond rfl (fun hb3 => ?_) (fun hb3 => ?_)
  · replace hb3 := nb_t hb3
    refine Ex.regSeq (ExL.pures 0 rfl ?_)
    refine ExL.op rfl (op_buildSlice (sz := 1) rfl rfl rfl rfl rfl rfl rfl rfl (by decide) rfl rfl rfl (fun r4 => ?_))
    refine ExL.pures 2 rfl ?_
    refine ExL.nil ?_
    refine Ex.ret ?_
    refine RetQ.mk ((some ⟨r4, 0, none⟩), 0) rfl (.tmp rfl (.tmp rfl .nil)) (t2 (by first | (rw [vi_1 (by assumption)]; first | done | rfl) | (rw [vi_3 (by assumption) (by omega)]; first | done | rfl) | (rw [vi_0 (by assumption) (by omega)]; first | done | rfl)) (by first | (rw [vi_1 (by assumption)]; first | done | rfl) | (rw [vi_3 (by assumption) (by omega)]; first | done | rfl) | (rw [vi_0 (by assumption) (by omega)]; first | done | rfl))) [0] (by first | (rw [vi_1 (by assumption)]; first | done | rfl) | (rw [vi_3 (by assumption) (by omega)]; first | done | rfl) | (rw [vi_0 (by assumption) (by omega)]; first | done | rfl)) rfl (trivial)
  · replace hb3 := nb_f hb3
    refine Ex.skip ?_
    refine Ex.seq ?_
    obtain ⟨hv, hS, hP⟩ := vph hp (by assumption)
    have h8 := hS.len8
    have hz := hS.size_
    have hle := hS.le
    have hps := hS.pos
    refine Ex.regSeq (ExL.pures 2 rfl ?_)
    refine ExL.op rfl (op_ret rfl rfl rfl (c_l05Choices s (by first | assumption | exact stk (by assumption)) p (by assumption) hp _ _ s.length (by omega)) (Reads.get (Reads.blk (i := 0) rfl)) rfl rfl (fun x5 hx5 => ?_))
    refine ExL.gtr rfl rfl rfl rfl rfl rfl (fun h6 => ?_) (fun h6 => ?_)
    · refine ExL.nil ?_
      refine Ex.cond_t rfl ?_
      refine Ex.regSeq (ExL.pures 0 rfl ?_)
      refine ExL.op rfl (op_buildSlice (sz := 1) rfl rfl rfl rfl rfl rfl rfl rfl (by decide) rfl rfl rfl (fun r7 => ?_))
      refine ExL.pures 2 rfl ?_
      refine ExL.nil ?_
      refine Ex.ret ?_
      refine RetQ.mk ((some ⟨r7, 0, none⟩), 0) rfl (.tmp rfl (.tmp rfl .nil)) (t2 (by first | (rw [vi_1 (by assumption)]; first | done | rfl) | (rw [vi_3 (by assumption) (by omega)]; first | done | rfl) | (rw [vi_0 (by assumption) (by omega)]; first | done | rfl)) (by first | (rw [vi_1 (by assumption)]; first | done | rfl) | (rw [vi_3 (by assumption) (by omega)]; first | done | rfl) | (rw [vi_0 (by assumption) (by omega)]; first | done | rfl))) [0] (by first | (rw [vi_1 (by assumption)]; first | done | rfl) | (rw [vi_3 (by assumption) (by omega)]; first | done | rfl) | (rw [vi_0 (by assumption) (by omega)]; first | done | rfl)) rfl (trivial)
    · refine ExL.nil ?_
      refine Ex.cond_f rfl ?_
      refine Ex.skip ?_
      refine Ex.regSeq (ExL.pures 1 rfl ?_)
      refine ExL.op rfl (op_ret rfl rfl rfl (c_l05Values s (by first | assumption | simp_all) _ _ p hp _ _ (by assumption)) (fun w hw => ⟨Reads.get (Reads.old hs) w hw, Reads.get (Reads.blk (i := 0) rfl) w hw⟩) rfl rfl (fun x8 hx8 => ?_))
      refine ExL.pures 2 rfl ?_
      refine ExL.nil ?_
      refine Ex.ret ?_
      refine RetQ.mk (x8.1, x8.2) rfl (.tmp rfl (.tmp rfl .nil)) (t2 (by first | (rw [vi_1 (by assumption)]; first | done | rfl) | (rw [vi_3 (by assumption) (by omega)]; first | done | rfl) | (rw [vi_0 (by assumption) (by omega)]; first | done | rfl)) (by first | (rw [vi_1 (by assumption)]; first | done | rfl) | (rw [vi_3 (by assumption) (by omega)]; first | done | rfl) | (rw [vi_0 (by assumption) (by omega)]; first | done | rfl))) [0] (by first | (rw [vi_1 (by assumption)]; first | done | rfl) | (rw [vi_3 (by assumption) (by omega)]; first | done | rfl) | (rw [vi_0 (by assumption) (by omega)]; first | done | rfl)) rfl (trivial)
end Go.Proofs.YtdgfalhfmboalaaGreatDoor

/- What these functions of the program hand back, each proved by walking its operations. -/
set_option linter.unusedVariables false
set_option linter.unusedSimpArgs false
set_option maxRecDepth 4000
namespace Go.Proofs.YtdgfalhfmboalaaGreatDoor
open Go Go.Sx Go.RowKit Go.W Go.Proofs
attribute [local irreducible] Ex ExL ExD Op1 Free RetQ MutQ Reads CellO SegO LoadsAs
theorem e_63 : Enters Tryz.prog 63 := Enters.of Tryz.func63 rfl
set_option maxHeartbeats 1600000 in
theorem c_nextS (s : List Int) (hv : validStack s = true) (As : Option Addr) (cs : Nat) (hcs : s.length ≤ cs) (p : VPh) (hp : OkPh p) (hP : PhOk s p.l) (v : Int) (hv0 : 0 ≤ v ∧ v < prod s) : Ret Tryz.prog 63 [.slice As s.length cs, .agg (encPh p).toArray, .int .i64 v] (fun w => Rd w As (s.flatMap (eI .u8))) (fun x : Unit => .tuple #[.int .i64 (nextV s p.l (dig (digs s v)).l).1, .bool (nextV s p.l (dig (digs s v)).l).2]) (fun x => []) (fun x => True) := by
  refine Ret.of e_63 Tryz.func63 rfl Tryz.ntmps63 rfl rfl (fun w hpre => ?_)
  have hs := hpre.base
  have hS := stk hv
  have h8 := hS.len8
  have hm0 : maxLen = 9223372036854775807 := rfl
  have hz := hS.size_
  have hle := hS.le
  have hnv := digs_num (v := v) hS.bases
  have hdv := digs_valid (v := v) hS
  rw [← dig_l (digs_len s v)] at hnv hdv
  have hD := digOk h8 hnv hdv
  have hpl8 := ph_len p
  have hdl8 : (dig (digs s v)).l.length = 8 := dig_len _
  refine Ex.regSeq (ExL.pures 0 rfl ?_)
  refine ExL.op rfl (op_box rfl rfl rfl rfl rfl (fun b1 => ?_))
  refine ExL.pures 2 rfl ?_
  refine ExL.nil ?_
  refine Ex.regSeq (ExL.pures 2 rfl ?_)
  refine ExL.op rfl (op_ret rfl rfl rfl (c_digits s (by first | assumption | simp_all) _ _ _ (by omega)) (Reads.get (Reads.old hs)) rfl rfl (fun x2 hx2 => ?_))
  refine ExL.op rfl (op_alloc rfl rfl rfl rfl rfl (fun b3 => ?_))
  refine ExL.op rfl (op_storeC (i := 0) rfl rfl rfl rfl rfl rfl rfl rfl rfl rfl ?_)
  refine ExL.nil ?_
  refine Ex.seq ?_
  refine Ex.regSeq (ExL.pures 1 rfl ?_)
  refine ExL.free (fr_loadN rfl rfl rfl rfl rfl (SegO.whole (i := 1) rfl)) rfl rfl rfl ?_
  refine ExL.free (fr_loadN rfl rfl rfl rfl rfl (SegO.whole (i := 0) rfl)) rfl rfl rfl ?_
  refine ExL.op rfl (op_ret rfl rfl rfl (c_showsP s (by first | assumption | simp_all) _ _ p hp (dig (digs s v)) (by assumption) (by first | assumption | simp_all)) (Reads.get (Reads.old hs)) rfl rfl (fun x4 hx4 => ?_))
  refine ExL.nil ?_
  refine Ex.cond rfl (fun hb5 => ?_) (fun hb5 => ?_)
  · have hnx := nx_sv hS hv0.1 hv0.2 (show showsM s p.l (dig (digs s v)).l = true by assumption)
    refine Ex.regSeq (ExL.pures 3 rfl ?_)
    refine ExL.nil ?_
    refine Ex.ret ?_
    refine RetQ.mk () rfl (.tmp rfl (.tmp rfl .nil)) (t2 (vI (by first | (rw [hnx]; first | done | rfl) | (rw [nx_n hsh (by omega) hall]; first | done | rfl))) (vB (by first | (rw [hnx]; first | done | rfl) | (rw [nx_n hsh (by omega) hall]; first | done | rfl)))) [] (rfl) rfl (trivial)
  · refine Ex.skip ?_
    refine Ex.seq ?_
    have hsh : showsM s p.l (dig (digs s v)).l = false := by assumption
    refine Ex.regSeq (ExL.pures 3 rfl ?_)
    refine ExL.nil ?_
    refine Ex.block ?_
    refine Ex.loopK (X := Nat) (fun i => [(22, .int .i64 i)]) (fun i => [.blk b3 (((dig (digs s v)).l).flatMap (eI .u8)) 34]) (fun i => i ≤ s.length ∧ ∀ j, j < i → cand s.length p.l (dig (digs s v)).l j = false) (fun i => s.length - i) 0 [(0, _), (4, _), (8, _), (21, _)] [_] 2 [0, 1] ⟨rfl, trivial⟩ ⟨rfl, rfl, rfl, rfl, trivial⟩ (rfl) rfl ⟨Nat.zero_le _, fun j hj => by omega⟩ (fun i hI => ?_)
    have hI : i ≤ s.length ∧ ∀ j, j < i → cand s.length p.l (dig (digs s v)).l j = false := hI
    obtain ⟨hi0, hall⟩ := hI
    refine Ex.regSeq (ExL.pures 0 rfl ?_)
    refine ExL.lss rfl rfl rfl rfl rfl rfl (fun h6 => ?_) (fun h6 => ?_)
    · refine ExL.nil ?_
      refine Ex.seq ?_
      refine Ex.cond_t rfl ?_
      refine Ex.skip ?_
      refine Ex.seq ?_
      refine Ex.block ?_
      refine Ex.regSeq (ExL.pures 2 rfl ?_)
      refine ExL.nil ?_
      refine Ex.seq ?_
      have hil : i < s.length := by omega
      have hrl : (List.replicate (i + 1) zMk).length = i + 1 := List.length_replicate
      have hrd : (List.replicate (i + 1) (0 : Int)).length = i + 1 := List.length_replicate
      refine Ex.cutM [(50, .bool (!showsM (s.drop (i + 1)) (phot (p.l.drop (i + 1) ++ List.replicate (i + 1) zMk)).l (dig ((dig (digs s v)).l.drop (i + 1) ++ List.replicate (i + 1) (0 : Int))).l))] [(0, _), (4, _), (8, _), (9, _), (21, _), (22, _)] ⟨rfl, rfl, rfl, rfl, rfl, rfl, trivial⟩ rfl ?_ ?_
      · refine ExD.take (i := 0) rfl (by kernel_rfl) (pureVal_ok rfl) ((List.Sublist.refl _)) rfl rfl rfl ?_
        refine ExD.take (i := 1) rfl (by kernel_rfl) (pureVal_ok rfl) ((List.Sublist.refl _)) rfl rfl rfl ?_
        refine ExD.take (i := 2) rfl (by kernel_rfl) (by first | exact fr_add64 rfl rfl rfl (by omega) | exact fr_add rfl rfl rfl) ((List.Sublist.refl _)) rfl rfl rfl ?_
        refine ExD.take (i := 3) rfl (by kernel_rfl) (fr_slice_lx (sz := 1) (i + 1) (by push_cast; rfl) rfl rfl rfl rfl rfl (by omega) (n' := (s.drop (i + 1)).length) (by rw [List.length_drop])) ((List.Sublist.refl _)) rfl rfl rfl ?_
        refine ExD.take (i := 4) rfl (by kernel_rfl) (pureVal_ok rfl) ((List.Sublist.refl _)) rfl rfl rfl ?_
        refine ExD.take (i := 5) rfl (by kernel_rfl) (by first | exact fr_add64 rfl rfl rfl (by omega) | exact fr_add rfl rfl rfl) ((List.Sublist.refl _)) rfl rfl rfl ?_
        refine ExD.take (i := 6) rfl (by kernel_rfl) (fr_sliceArr_l (sz := 2) (i + 1) (by push_cast; rfl) rfl rfl rfl rfl rfl (by omega) (n' := (p.l.drop (i + 1)).length) (by rw [List.length_drop]; omega)) ((List.Sublist.refl _)) rfl rfl rfl ?_
        refine ExD.take (i := 7) rfl (by kernel_rfl) (pureVal_ok rfl) ((List.Sublist.refl _)) rfl rfl rfl ?_
        refine ExD.take (i := 8) rfl (by kernel_rfl) (Free.val (((List.replicate (i + 1) zMk).length : Nat) : Int) (fr_add64 rfl rfl rfl (by omega)) (by omega)) ((List.Sublist.refl _)) rfl rfl rfl ?_
        refine ExD.take (i := 14) rfl (by kernel_rfl) (pureVal_ok rfl) ((List.Sublist.refl _)) rfl rfl rfl ?_
        refine ExD.take (i := 15) rfl (by kernel_rfl) (by first | exact fr_add64 rfl rfl rfl (by omega) | exact fr_add rfl rfl rfl) ((List.Sublist.refl _)) rfl rfl rfl ?_
        refine ExD.take (i := 16) rfl (by kernel_rfl) (fr_sliceArr_l (sz := 1) (i + 1) (by push_cast; rfl) rfl rfl rfl rfl rfl (by omega) (n' := ((dig (digs s v)).l.drop (i + 1)).length) (by rw [List.length_drop]; omega)) ((List.Sublist.refl _)) rfl rfl rfl ?_
        refine ExD.take (i := 17) rfl (by kernel_rfl) (pureVal_ok rfl) ((List.Sublist.refl _)) rfl rfl rfl ?_
        refine ExD.take (i := 18) rfl (by kernel_rfl) (Free.val (((List.replicate (i + 1) (0 : Int)).length : Nat) : Int) (fr_add64 rfl rfl rfl (by omega)) (by omega)) ((List.Sublist.refl _)) rfl rfl rfl ?_
        refine ExD.fork (i := 9) (j := 19) rfl rfl (by kernel_rfl) rfl rfl (op_makeSlice (sz := 16) rfl rfl rfl rfl rfl rfl rfl rfl (⟨by omega, by unfold maxLen; omega⟩) rfl rfl (fun r7 => ⟨(List.Sublist.cons _ (List.Sublist.refl _)), ?_⟩)) (op_makeSlice (sz := 1) rfl rfl rfl rfl rfl rfl rfl rfl (⟨by omega, by unfold maxLen; omega⟩) rfl rfl (fun r8 => ⟨(List.Sublist.cons _ (List.Sublist.refl _)), ?_⟩))
        · refine ExD.fork (i := 10) (j := 19) rfl rfl (by kernel_rfl) rfl rfl (op_buildSlice (sz := 1) rfl rfl rfl rfl rfl rfl rfl rfl (by decide) rfl rfl rfl (fun r9 => ⟨(List.Sublist.cons _ (List.Sublist.cons _ (List.Sublist.refl _))), ?_⟩)) (op_makeSlice (sz := 1) rfl rfl rfl rfl rfl rfl rfl rfl (⟨by omega, by unfold maxLen; omega⟩) rfl rfl (fun r10 => ⟨(List.Sublist.cons _ (List.Sublist.cons _ (List.Sublist.refl _))), ?_⟩))
          · refine ExD.fork (i := 11) (j := 19) rfl rfl (by kernel_rfl) rfl rfl (op_ret rfl rfl rfl (c_ConcatM ([⟨(cutA (some ⟨b1, 0, none⟩) 8 (i + 1) 2), (8 - (i + 1)), (p.l.drop (i + 1))⟩, ⟨(some ⟨r7, 0, none⟩), (List.replicate (i + 1) zMk).length, (List.replicate (i + 1) zMk)⟩] : List (VX VMk)) _ _ (by rw [catX_l (n := 8) (by show (List.drop _ _).length + (List.replicate _ _).length = 8; rw [List.length_drop, List.length_replicate]; omega)]; omega) (by show 2 ≤ 1000000; omega) (some2 cut_some (fun h => nomatch h))) (fun w hw => ⟨Reads.get (Reads.row (i := 0) rfl) w hw, reads2 (Reads.get (Reads.dropL (l := p.l) (c := 8) (Reads.blk (i := 3) rfl) encMk_len (by omega) (i + 1)) w hw) (Reads.get (readsZ (z := zMk) (i := 1) rfl rfl encMk_len rfl List.length_replicate) w hw)⟩) rfl rfl (fun x11 hx11 => ⟨(List.Sublist.cons _ (List.Sublist.cons _ (List.Sublist.cons _ (List.Sublist.refl _)))), ?_⟩)) (op_makeSlice (sz := 1) rfl rfl rfl rfl rfl rfl rfl rfl (⟨by omega, by unfold maxLen; omega⟩) rfl rfl (fun r12 => ⟨(List.Sublist.cons _ (List.Sublist.cons _ (List.Sublist.cons _ (List.Sublist.refl _)))), ?_⟩))
            · refine ExD.take (i := 12) rfl (by kernel_rfl) (fr_sliceToArray (N := 8) rfl rfl rfl (by rw [catX_l (n := 8) (by show (List.drop _ _).length + (List.replicate _ _).length = 8; rw [List.length_drop, List.length_replicate]; omega)]; omega)) ((List.Sublist.cons _ (List.Sublist.cons _ (List.Sublist.cons _ (List.Sublist.refl _))))) rfl rfl rfl ?_
              refine ExD.fork (i := 13) (j := 19) rfl rfl (by kernel_rfl) rfl rfl (Op1.of_free (fr_loadN rfl rfl rfl rfl rfl (segAll (seg := encPh (phot (p.l.drop (i + 1) ++ List.replicate (i + 1) zMk))) (Reads.row (i := 0) rfl) (catP (i := i) (ph_len p) (by omega) rfl rfl) (fun h => absurd (show 16 = 0 from congrArg List.length h) (by decide)))) rfl rfl ⟨(List.Sublist.cons _ (List.Sublist.cons _ (List.Sublist.cons _ (List.Sublist.refl _)))), ?_⟩) (op_makeSlice (sz := 1) rfl rfl rfl rfl rfl rfl rfl rfl (⟨by omega, by unfold maxLen; omega⟩) rfl rfl (fun r13 => ⟨(List.Sublist.cons _ (List.Sublist.cons _ (List.Sublist.cons _ (List.Sublist.cons _ (List.Sublist.refl _))))), ?_⟩))
              · refine ExD.op (i := 19) rfl (by kernel_rfl) rfl (op_makeSlice (sz := 1) rfl rfl rfl rfl rfl rfl rfl rfl (⟨by omega, by unfold maxLen; omega⟩) rfl rfl (fun r14 => ⟨(List.Sublist.cons _ (List.Sublist.cons _ (List.Sublist.cons _ (List.Sublist.cons _ (List.Sublist.refl _))))), ?_⟩))
                refine ExD.op (i := 20) rfl (by kernel_rfl) rfl (op_buildSlice (sz := 1) rfl rfl rfl rfl rfl rfl rfl rfl (by decide) rfl rfl rfl (fun r15 => ⟨(List.Sublist.cons _ (List.Sublist.cons _ (List.Sublist.cons _ (List.Sublist.cons _ (List.Sublist.cons _ (List.Sublist.refl _)))))), ?_⟩))
                refine ExD.op (i := 21) rfl (by kernel_rfl) rfl (op_ret rfl rfl rfl (c_ConcatU ([⟨(cutA (some ⟨b3, 0, none⟩) 8 (i + 1) 1), (8 - (i + 1)), ((dig (digs s v)).l.drop (i + 1))⟩, ⟨(some ⟨r14, 0, none⟩), (List.replicate (i + 1) (0 : Int)).length, (List.replicate (i + 1) (0 : Int))⟩] : List (VX Int)) _ _ (by rw [catX_l (n := 8) (by show (List.drop _ _).length + (List.replicate _ _).length = 8; rw [List.length_drop, List.length_replicate]; omega)]; omega) (by show 2 ≤ 1000000; omega) (some2 cut_some (fun h => nomatch h))) (fun w hw => ⟨Reads.get (Reads.row (i := 0) rfl) w hw, reads2 (Reads.get (Reads.dropL (l := (dig (digs s v)).l) (c := 8) (Reads.blk (i := 5) rfl) (eI_len .u8) (by omega) (i + 1)) w hw) (Reads.get (readsZ (z := (0 : Int)) (i := 1) rfl rfl (eI_len .u8) rfl List.length_replicate) w hw)⟩) rfl rfl (fun x16 hx16 => ⟨(List.Sublist.cons _ (List.Sublist.cons _ (List.Sublist.cons _ (List.Sublist.cons _ (List.Sublist.cons _ (List.Sublist.cons _ (List.Sublist.refl _))))))), ?_⟩))
                refine ExD.take (i := 22) rfl (by kernel_rfl) (fr_sliceToArray (N := 8) rfl rfl rfl (by rw [catX_l (n := 8) (by show (List.drop _ _).length + (List.replicate _ _).length = 8; rw [List.length_drop, List.length_replicate]; omega)]; omega)) ((List.Sublist.cons _ (List.Sublist.cons _ (List.Sublist.cons _ (List.Sublist.cons _ (List.Sublist.cons _ (List.Sublist.cons _ (List.Sublist.refl _)))))))) rfl rfl rfl ?_
                refine ExD.op (i := 23) rfl (by kernel_rfl) rfl (Op1.of_free (fr_loadN rfl rfl rfl rfl rfl (segAll (seg := encD (dig ((dig (digs s v)).l.drop (i + 1) ++ List.replicate (i + 1) (0 : Int)))) (Reads.row (i := 0) rfl) (catD (i := i) (dig_len _) (by omega) rfl rfl) (fun h => absurd (show 8 = 0 from congrArg List.length h) (by decide)))) rfl rfl ⟨(List.Sublist.cons _ (List.Sublist.cons _ (List.Sublist.cons _ (List.Sublist.cons _ (List.Sublist.cons _ (List.Sublist.cons _ (List.Sublist.refl _))))))), ?_⟩)
                refine ExD.op (i := 24) rfl (by kernel_rfl) rfl (op_ret rfl rfl rfl (c_showsW (s.drop (i + 1)) _ _ (by rw [List.length_drop]; omega) (phot (p.l.drop (i + 1) ++ List.replicate (i + 1) zMk)) (okTail hp (by omega)) (dig ((dig (digs s v)).l.drop (i + 1) ++ List.replicate (i + 1) (0 : Int))) (dgTail hS hD (dig_len _) hil)) (Reads.get (Reads.dropL (Reads.old hs) (eI_len .u8) hcs (i + 1))) rfl rfl (fun x17 hx17 => ⟨(List.Sublist.cons _ (List.Sublist.cons _ (List.Sublist.cons _ (List.Sublist.cons _ (List.Sublist.cons _ (List.Sublist.cons _ (List.Sublist.refl _))))))), ?_⟩))
                refine ExD.take (i := 25) rfl (by kernel_rfl) (pureVal_ok rfl) ((List.Sublist.cons _ (List.Sublist.cons _ (List.Sublist.cons _ (List.Sublist.cons _ (List.Sublist.cons _ (List.Sublist.cons _ (List.Sublist.refl _)))))))) rfl rfl rfl ?_
                refine ExD.done (by kernel_rfl) ?_
                exact ⟨⟨rfl, rfl, rfl, rfl, rfl, rfl, rfl, trivial⟩, 8, [6, 7], rfl, rfl⟩
              · refine ExD.fork (i := 13) (j := 20) rfl rfl (by kernel_rfl) rfl rfl (Op1.of_free (fr_loadN rfl rfl rfl rfl rfl (segAll (seg := encPh (phot (p.l.drop (i + 1) ++ List.replicate (i + 1) zMk))) (Reads.row (i := 1) rfl) (catP (i := i) (ph_len p) (by omega) rfl rfl) (fun h => absurd (show 16 = 0 from congrArg List.length h) (by decide)))) rfl rfl ⟨(List.Sublist.cons _ (List.Sublist.cons _ (List.Sublist.cons _ (List.Sublist.cons _ (List.Sublist.refl _))))), ?_⟩) (op_buildSlice (sz := 1) rfl rfl rfl rfl rfl rfl rfl rfl (by decide) rfl rfl rfl (fun r18 => ⟨(List.Sublist.cons _ (List.Sublist.cons _ (List.Sublist.cons _ (List.Sublist.cons _ (List.Sublist.cons _ (List.Sublist.refl _)))))), ?_⟩))
                · refine ExD.op (i := 20) rfl (by kernel_rfl) rfl (op_buildSlice (sz := 1) rfl rfl rfl rfl rfl rfl rfl rfl (by decide) rfl rfl rfl (fun r19 => ⟨(List.Sublist.cons _ (List.Sublist.cons _ (List.Sublist.cons _ (List.Sublist.cons _ (List.Sublist.cons _ (List.Sublist.refl _)))))), ?_⟩))
                  refine ExD.op (i := 21) rfl (by kernel_rfl) rfl (op_ret rfl rfl rfl (c_ConcatU ([⟨(cutA (some ⟨b3, 0, none⟩) 8 (i + 1) 1), (8 - (i + 1)), ((dig (digs s v)).l.drop (i + 1))⟩, ⟨(some ⟨r13, 0, none⟩), (List.replicate (i + 1) (0 : Int)).length, (List.replicate (i + 1) (0 : Int))⟩] : List (VX Int)) _ _ (by rw [catX_l (n := 8) (by show (List.drop _ _).length + (List.replicate _ _).length = 8; rw [List.length_drop, List.length_replicate]; omega)]; omega) (by show 2 ≤ 1000000; omega) (some2 cut_some (fun h => nomatch h))) (fun w hw => ⟨Reads.get (Reads.row (i := 0) rfl) w hw, reads2 (Reads.get (Reads.dropL (l := (dig (digs s v)).l) (c := 8) (Reads.blk (i := 5) rfl) (eI_len .u8) (by omega) (i + 1)) w hw) (Reads.get (readsZ (z := (0 : Int)) (i := 1) rfl rfl (eI_len .u8) rfl List.length_replicate) w hw)⟩) rfl rfl (fun x20 hx20 => ⟨(List.Sublist.cons _ (List.Sublist.cons _ (List.Sublist.cons _ (List.Sublist.cons _ (List.Sublist.cons _ (List.Sublist.cons _ (List.Sublist.refl _))))))), ?_⟩))
                  refine ExD.take (i := 22) rfl (by kernel_rfl) (fr_sliceToArray (N := 8) rfl rfl rfl (by rw [catX_l (n := 8) (by show (List.drop _ _).length + (List.replicate _ _).length = 8; rw [List.length_drop, List.length_replicate]; omega)]; omega)) ((List.Sublist.cons _ (List.Sublist.cons _ (List.Sublist.cons _ (List.Sublist.cons _ (List.Sublist.cons _ (List.Sublist.cons _ (List.Sublist.refl _)))))))) rfl rfl rfl ?_
                  refine ExD.op (i := 23) rfl (by kernel_rfl) rfl (Op1.of_free (fr_loadN rfl rfl rfl rfl rfl (segAll (seg := encD (dig ((dig (digs s v)).l.drop (i + 1) ++ List.replicate (i + 1) (0 : Int)))) (Reads.row (i := 0) rfl) (catD (i := i) (dig_len _) (by omega) rfl rfl) (fun h => absurd (show 8 = 0 from congrArg List.length h) (by decide)))) rfl rfl ⟨(List.Sublist.cons _ (List.Sublist.cons _ (List.Sublist.cons _ (List.Sublist.cons _ (List.Sublist.cons _ (List.Sublist.cons _ (List.Sublist.refl _))))))), ?_⟩)
                  refine ExD.op (i := 24) rfl (by kernel_rfl) rfl (op_ret rfl rfl rfl (c_showsW (s.drop (i + 1)) _ _ (by rw [List.length_drop]; omega) (phot (p.l.drop (i + 1) ++ List.replicate (i + 1) zMk)) (okTail hp (by omega)) (dig ((dig (digs s v)).l.drop (i + 1) ++ List.replicate (i + 1) (0 : Int))) (dgTail hS hD (dig_len _) hil)) (Reads.get (Reads.dropL (Reads.old hs) (eI_len .u8) hcs (i + 1))) rfl rfl (fun x21 hx21 => ⟨(List.Sublist.cons _ (List.Sublist.cons _ (List.Sublist.cons _ (List.Sublist.cons _ (List.Sublist.cons _ (List.Sublist.cons _ (List.Sublist.refl _))))))), ?_⟩))
                  refine ExD.take (i := 25) rfl (by kernel_rfl) (pureVal_ok rfl) ((List.Sublist.cons _ (List.Sublist.cons _ (List.Sublist.cons _ (List.Sublist.cons _ (List.Sublist.cons _ (List.Sublist.cons _ (List.Sublist.refl _)))))))) rfl rfl rfl ?_
                  refine ExD.done (by kernel_rfl) ?_
                  exact ⟨⟨rfl, rfl, rfl, rfl, rfl, rfl, rfl, trivial⟩, 8, [6, 7], rfl, rfl⟩
                · refine ExD.fork (i := 13) (j := 21) rfl rfl (by kernel_rfl) rfl rfl (Op1.of_free (fr_loadN rfl rfl rfl rfl rfl (segAll (seg := encPh (phot (p.l.drop (i + 1) ++ List.replicate (i + 1) zMk))) (Reads.row (i := 2) rfl) (catP (i := i) (ph_len p) (by omega) rfl rfl) (fun h => absurd (show 16 = 0 from congrArg List.length h) (by decide)))) rfl rfl ⟨(List.Sublist.cons _ (List.Sublist.cons _ (List.Sublist.cons _ (List.Sublist.cons _ (List.Sublist.cons _ (List.Sublist.refl _)))))), ?_⟩) (op_ret rfl rfl rfl (c_ConcatU ([⟨(cutA (some ⟨b3, 0, none⟩) 8 (i + 1) 1), (8 - (i + 1)), ((dig (digs s v)).l.drop (i + 1))⟩, ⟨(some ⟨r13, 0, none⟩), (List.replicate (i + 1) (0 : Int)).length, (List.replicate (i + 1) (0 : Int))⟩] : List (VX Int)) _ _ (by rw [catX_l (n := 8) (by show (List.drop _ _).length + (List.replicate _ _).length = 8; rw [List.length_drop, List.length_replicate]; omega)]; omega) (by show 2 ≤ 1000000; omega) (some2 cut_some (fun h => nomatch h))) (fun w hw => ⟨Reads.get (Reads.row (i := 0) rfl) w hw, reads2 (Reads.get (Reads.dropL (l := (dig (digs s v)).l) (c := 8) (Reads.blk (i := 5) rfl) (eI_len .u8) (by omega) (i + 1)) w hw) (Reads.get (readsZ (z := (0 : Int)) (i := 1) rfl rfl (eI_len .u8) rfl List.length_replicate) w hw)⟩) rfl rfl (fun x22 hx22 => ⟨(List.Sublist.cons _ (List.Sublist.cons _ (List.Sublist.cons _ (List.Sublist.cons _ (List.Sublist.cons _ (List.Sublist.cons _ (List.Sublist.refl _))))))), ?_⟩))
                  · refine ExD.op (i := 21) rfl (by kernel_rfl) rfl (op_ret rfl rfl rfl (c_ConcatU ([⟨(cutA (some ⟨b3, 0, none⟩) 8 (i + 1) 1), (8 - (i + 1)), ((dig (digs s v)).l.drop (i + 1))⟩, ⟨(some ⟨r13, 0, none⟩), (List.replicate (i + 1) (0 : Int)).length, (List.replicate (i + 1) (0 : Int))⟩] : List (VX Int)) _ _ (by rw [catX_l (n := 8) (by show (List.drop _ _).length + (List.replicate _ _).length = 8; rw [List.length_drop, List.length_replicate]; omega)]; omega) (by show 2 ≤ 1000000; omega) (some2 cut_some (fun h => nomatch h))) (fun w hw => ⟨Reads.get (Reads.row (i := 0) rfl) w hw, reads2 (Reads.get (Reads.dropL (l := (dig (digs s v)).l) (c := 8) (Reads.blk (i := 5) rfl) (eI_len .u8) (by omega) (i + 1)) w hw) (Reads.get (readsZ (z := (0 : Int)) (i := 1) rfl rfl (eI_len .u8) rfl List.length_replicate) w hw)⟩) rfl rfl (fun x23 hx23 => ⟨(List.Sublist.cons _ (List.Sublist.cons _ (List.Sublist.cons _ (List.Sublist.cons _ (List.Sublist.cons _ (List.Sublist.cons _ (List.Sublist.refl _))))))), ?_⟩))
                    refine ExD.take (i := 22) rfl (by kernel_rfl) (fr_sliceToArray (N := 8) rfl rfl rfl (by rw [catX_l (n := 8) (by show (List.drop _ _).length + (List.replicate _ _).length = 8; rw [List.length_drop, List.length_replicate]; omega)]; omega)) ((List.Sublist.cons _ (List.Sublist.cons _ (List.Sublist.cons _ (List.Sublist.cons _ (List.Sublist.cons _ (List.Sublist.cons _ (List.Sublist.refl _)))))))) rfl rfl rfl ?_
                    refine ExD.op (i := 23) rfl (by kernel_rfl) rfl (Op1.of_free (fr_loadN rfl rfl rfl rfl rfl (segAll (seg := encD (dig ((dig (digs s v)).l.drop (i + 1) ++ List.replicate (i + 1) (0 : Int)))) (Reads.row (i := 0) rfl) (catD (i := i) (dig_len _) (by omega) rfl rfl) (fun h => absurd (show 8 = 0 from congrArg List.length h) (by decide)))) rfl rfl ⟨(List.Sublist.cons _ (List.Sublist.cons _ (List.Sublist.cons _ (List.Sublist.cons _ (List.Sublist.cons _ (List.Sublist.cons _ (List.Sublist.refl _))))))), ?_⟩)
                    refine ExD.op (i := 24) rfl (by kernel_rfl) rfl (op_ret rfl rfl rfl (c_showsW (s.drop (i + 1)) _ _ (by rw [List.length_drop]; omega) (phot (p.l.drop (i + 1) ++ List.replicate (i + 1) zMk)) (okTail hp (by omega)) (dig ((dig (digs s v)).l.drop (i + 1) ++ List.replicate (i + 1) (0 : Int))) (dgTail hS hD (dig_len _) hil)) (Reads.get (Reads.dropL (Reads.old hs) (eI_len .u8) hcs (i + 1))) rfl rfl (fun x24 hx24 => ⟨(List.Sublist.cons _ (List.Sublist.cons _ (List.Sublist.cons _ (List.Sublist.cons _ (List.Sublist.cons _ (List.Sublist.cons _ (List.Sublist.refl _))))))), ?_⟩))
                    refine ExD.take (i := 25) rfl (by kernel_rfl) (pureVal_ok rfl) ((List.Sublist.cons _ (List.Sublist.cons _ (List.Sublist.cons _ (List.Sublist.cons _ (List.Sublist.cons _ (List.Sublist.cons _ (List.Sublist.refl _)))))))) rfl rfl rfl ?_
                    refine ExD.done (by kernel_rfl) ?_
                    exact ⟨⟨rfl, rfl, rfl, rfl, rfl, rfl, rfl, trivial⟩, 8, [6, 7], rfl, rfl⟩
                  · refine ExD.take (i := 22) rfl (by kernel_rfl) (fr_sliceToArray (N := 8) rfl rfl rfl (by rw [catX_l (n := 8) (by show (List.drop _ _).length + (List.replicate _ _).length = 8; rw [List.length_drop, List.length_replicate]; omega)]; omega)) ((List.Sublist.cons _ (List.Sublist.cons _ (List.Sublist.cons _ (List.Sublist.cons _ (List.Sublist.cons _ (List.Sublist.cons _ (List.Sublist.refl _)))))))) rfl rfl rfl ?_
                    refine ExD.fork (i := 13) (j := 23) rfl rfl (by kernel_rfl) rfl rfl (Op1.of_free (fr_loadN rfl rfl rfl rfl rfl (segAll (seg := encPh (phot (p.l.drop (i + 1) ++ List.replicate (i + 1) zMk))) (Reads.row (i := 3) rfl) (catP (i := i) (ph_len p) (by omega) rfl rfl) (fun h => absurd (show 16 = 0 from congrArg List.length h) (by decide)))) rfl rfl ⟨(List.Sublist.cons _ (List.Sublist.cons _ (List.Sublist.cons _ (List.Sublist.cons _ (List.Sublist.cons _ (List.Sublist.cons _ (List.Sublist.refl _))))))), ?_⟩) (Op1.of_free (fr_loadN rfl rfl rfl rfl rfl (segAll (seg := encD (dig ((dig (digs s v)).l.drop (i + 1) ++ List.replicate (i + 1) (0 : Int)))) (Reads.row (i := 0) rfl) (catD (i := i) (dig_len _) (by omega) rfl rfl) (fun h => absurd (show 8 = 0 from congrArg List.length h) (by decide)))) rfl rfl ⟨(List.Sublist.cons _ (List.Sublist.cons _ (List.Sublist.cons _ (List.Sublist.cons _ (List.Sublist.cons _ (List.Sublist.cons _ (List.Sublist.refl _))))))), ?_⟩)
                    · refine ExD.op (i := 23) rfl (by kernel_rfl) rfl (Op1.of_free (fr_loadN rfl rfl rfl rfl rfl (segAll (seg := encD (dig ((dig (digs s v)).l.drop (i + 1) ++ List.replicate (i + 1) (0 : Int)))) (Reads.row (i := 0) rfl) (catD (i := i) (dig_len _) (by omega) rfl rfl) (fun h => absurd (show 8 = 0 from congrArg List.length h) (by decide)))) rfl rfl ⟨(List.Sublist.cons _ (List.Sublist.cons _ (List.Sublist.cons _ (List.Sublist.cons _ (List.Sublist.cons _ (List.Sublist.cons _ (List.Sublist.refl _))))))), ?_⟩)
                      refine ExD.op (i := 24) rfl (by kernel_rfl) rfl (op_ret rfl rfl rfl (c_showsW (s.drop (i + 1)) _ _ (by rw [List.length_drop]; omega) (phot (p.l.drop (i + 1) ++ List.replicate (i + 1) zMk)) (okTail hp (by omega)) (dig ((dig (digs s v)).l.drop (i + 1) ++ List.replicate (i + 1) (0 : Int))) (dgTail hS hD (dig_len _) hil)) (Reads.get (Reads.dropL (Reads.old hs) (eI_len .u8) hcs (i + 1))) rfl rfl (fun x25 hx25 => ⟨(List.Sublist.cons _ (List.Sublist.cons _ (List.Sublist.cons _ (List.Sublist.cons _ (List.Sublist.cons _ (List.Sublist.cons _ (List.Sublist.refl _))))))), ?_⟩))
                      refine ExD.take (i := 25) rfl (by kernel_rfl) (pureVal_ok rfl) ((List.Sublist.cons _ (List.Sublist.cons _ (List.Sublist.cons _ (List.Sublist.cons _ (List.Sublist.cons _ (List.Sublist.cons _ (List.Sublist.refl _)))))))) rfl rfl rfl ?_
                      refine ExD.done (by kernel_rfl) ?_
                      exact ⟨⟨rfl, rfl, rfl, rfl, rfl, rfl, rfl, trivial⟩, 8, [6, 7], rfl, rfl⟩
                    · refine ExD.op (i := 13) rfl (by kernel_rfl) rfl (Op1.of_free (fr_loadN rfl rfl rfl rfl rfl (segAll (seg := encPh (phot (p.l.drop (i + 1) ++ List.replicate (i + 1) zMk))) (Reads.row (i := 3) rfl) (catP (i := i) (ph_len p) (by omega) rfl rfl) (fun h => absurd (show 16 = 0 from congrArg List.length h) (by decide)))) rfl rfl ⟨(List.Sublist.cons _ (List.Sublist.cons _ (List.Sublist.cons _ (List.Sublist.cons _ (List.Sublist.cons _ (List.Sublist.cons _ (List.Sublist.refl _))))))), ?_⟩)
                      refine ExD.op (i := 24) rfl (by kernel_rfl) rfl (op_ret rfl rfl rfl (c_showsW (s.drop (i + 1)) _ _ (by rw [List.length_drop]; omega) (phot (p.l.drop (i + 1) ++ List.replicate (i + 1) zMk)) (okTail hp (by omega)) (dig ((dig (digs s v)).l.drop (i + 1) ++ List.replicate (i + 1) (0 : Int))) (dgTail hS hD (dig_len _) hil)) (Reads.get (Reads.dropL (Reads.old hs) (eI_len .u8) hcs (i + 1))) rfl rfl (fun x26 hx26 => ⟨(List.Sublist.cons _ (List.Sublist.cons _ (List.Sublist.cons _ (List.Sublist.cons _ (List.Sublist.cons _ (List.Sublist.cons _ (List.Sublist.refl _))))))), ?_⟩))
                      refine ExD.take (i := 25) rfl (by kernel_rfl) (pureVal_ok rfl) ((List.Sublist.cons _ (List.Sublist.cons _ (List.Sublist.cons _ (List.Sublist.cons _ (List.Sublist.cons _ (List.Sublist.cons _ (List.Sublist.refl _)))))))) rfl rfl rfl ?_
                      refine ExD.done (by kernel_rfl) ?_
                      exact ⟨⟨rfl, rfl, rfl, rfl, rfl, rfl, rfl, trivial⟩, 8, [6, 7], rfl, rfl⟩
            · refine ExD.fork (i := 11) (j := 20) rfl rfl (by kernel_rfl) rfl rfl (op_ret rfl rfl rfl (c_ConcatM ([⟨(cutA (some ⟨b1, 0, none⟩) 8 (i + 1) 2), (8 - (i + 1)), (p.l.drop (i + 1))⟩, ⟨(some ⟨r7, 0, none⟩), (List.replicate (i + 1) zMk).length, (List.replicate (i + 1) zMk)⟩] : List (VX VMk)) _ _ (by rw [catX_l (n := 8) (by show (List.drop _ _).length + (List.replicate _ _).length = 8; rw [List.length_drop, List.length_replicate]; omega)]; omega) (by show 2 ≤ 1000000; omega) (some2 cut_some (fun h => nomatch h))) (fun w hw => ⟨Reads.get (Reads.row (i := 1) rfl) w hw, reads2 (Reads.get (Reads.dropL (l := p.l) (c := 8) (Reads.blk (i := 4) rfl) encMk_len (by omega) (i + 1)) w hw) (Reads.get (readsZ (z := zMk) (i := 2) rfl rfl encMk_len rfl List.length_replicate) w hw)⟩) rfl rfl (fun x27 hx27 => ⟨(List.Sublist.cons _ (List.Sublist.cons _ (List.Sublist.cons _ (List.Sublist.cons _ (List.Sublist.refl _))))), ?_⟩)) (op_buildSlice (sz := 1) rfl rfl rfl rfl rfl rfl rfl rfl (by decide) rfl rfl rfl (fun r28 => ⟨(List.Sublist.cons _ (List.Sublist.cons _ (List.Sublist.cons _ (List.Sublist.cons _ (List.Sublist.refl _))))), ?_⟩))
              · refine ExD.take (i := 12) rfl (by kernel_rfl) (fr_sliceToArray (N := 8) rfl rfl rfl (by rw [catX_l (n := 8) (by show (List.drop _ _).length + (List.replicate _ _).length = 8; rw [List.length_drop, List.length_replicate]; omega)]; omega)) ((List.Sublist.cons _ (List.Sublist.cons _ (List.Sublist.cons _ (List.Sublist.cons _ (List.Sublist.refl _)))))) rfl rfl rfl ?_
                refine ExD.fork (i := 13) (j := 20) rfl rfl (by kernel_rfl) rfl rfl (Op1.of_free (fr_loadN rfl rfl rfl rfl rfl (segAll (seg := encPh (phot (p.l.drop (i + 1) ++ List.replicate (i + 1) zMk))) (Reads.row (i := 0) rfl) (catP (i := i) (ph_len p) (by omega) rfl rfl) (fun h => absurd (show 16 = 0 from congrArg List.length h) (by decide)))) rfl rfl ⟨(List.Sublist.cons _ (List.Sublist.cons _ (List.Sublist.cons _ (List.Sublist.cons _ (List.Sublist.refl _))))), ?_⟩) (op_buildSlice (sz := 1) rfl rfl rfl rfl rfl rfl rfl rfl (by decide) rfl rfl rfl (fun r29 => ⟨(List.Sublist.cons _ (List.Sublist.cons _ (List.Sublist.cons _ (List.Sublist.cons _ (List.Sublist.cons _ (List.Sublist.refl _)))))), ?_⟩))
                · refine ExD.op (i := 20) rfl (by kernel_rfl) rfl (op_buildSlice (sz := 1) rfl rfl rfl rfl rfl rfl rfl rfl (by decide) rfl rfl rfl (fun r30 => ⟨(List.Sublist.cons _ (List.Sublist.cons _ (List.Sublist.cons _ (List.Sublist.cons _ (List.Sublist.cons _ (List.Sublist.refl _)))))), ?_⟩))
                  refine ExD.op (i := 21) rfl (by kernel_rfl) rfl (op_ret rfl rfl rfl (c_ConcatU ([⟨(cutA (some ⟨b3, 0, none⟩) 8 (i + 1) 1), (8 - (i + 1)), ((dig (digs s v)).l.drop (i + 1))⟩, ⟨(some ⟨r12, 0, none⟩), (List.replicate (i + 1) (0 : Int)).length, (List.replicate (i + 1) (0 : Int))⟩] : List (VX Int)) _ _ (by rw [catX_l (n := 8) (by show (List.drop _ _).length + (List.replicate _ _).length = 8; rw [List.length_drop, List.length_replicate]; omega)]; omega) (by show 2 ≤ 1000000; omega) (some2 cut_some (fun h => nomatch h))) (fun w hw => ⟨Reads.get (Reads.row (i := 0) rfl) w hw, reads2 (Reads.get (Reads.dropL (l := (dig (digs s v)).l) (c := 8) (Reads.blk (i := 5) rfl) (eI_len .u8) (by omega) (i + 1)) w hw) (Reads.get (readsZ (z := (0 : Int)) (i := 2) rfl rfl (eI_len .u8) rfl List.length_replicate) w hw)⟩) rfl rfl (fun x31 hx31 => ⟨(List.Sublist.cons _ (List.Sublist.cons _ (List.Sublist.cons _ (List.Sublist.cons _ (List.Sublist.cons _ (List.Sublist.cons _ (List.Sublist.refl _))))))), ?_⟩))
                  refine ExD.take (i := 22) rfl (by kernel_rfl) (fr_sliceToArray (N := 8) rfl rfl rfl (by rw [catX_l (n := 8) (by show (List.drop _ _).length + (List.replicate _ _).length = 8; rw [List.length_drop, List.length_replicate]; omega)]; omega)) ((List.Sublist.cons _ (List.Sublist.cons _ (List.Sublist.cons _ (List.Sublist.cons _ (List.Sublist.cons _ (List.Sublist.cons _ (List.Sublist.refl _)))))))) rfl rfl rfl ?_
                  refine ExD.op (i := 23) rfl (by kernel_rfl) rfl (Op1.of_free (fr_loadN rfl rfl rfl rfl rfl (segAll (seg := encD (dig ((dig (digs s v)).l.drop (i + 1) ++ List.replicate (i + 1) (0 : Int)))) (Reads.row (i := 0) rfl) (catD (i := i) (dig_len _) (by omega) rfl rfl) (fun h => absurd (show 8 = 0 from congrArg List.length h) (by decide)))) rfl rfl ⟨(List.Sublist.cons _ (List.Sublist.cons _ (List.Sublist.cons _ (List.Sublist.cons _ (List.Sublist.cons _ (List.Sublist.cons _ (List.Sublist.refl _))))))), ?_⟩)
                  refine ExD.op (i := 24) rfl (by kernel_rfl) rfl (op_ret rfl rfl rfl (c_showsW (s.drop (i + 1)) _ _ (by rw [List.length_drop]; omega) (phot (p.l.drop (i + 1) ++ List.replicate (i + 1) zMk)) (okTail hp (by omega)) (dig ((dig (digs s v)).l.drop (i + 1) ++ List.replicate (i + 1) (0 : Int))) (dgTail hS hD (dig_len _) hil)) (Reads.get (Reads.dropL (Reads.old hs) (eI_len .u8) hcs (i + 1))) rfl rfl (fun x32 hx32 => ⟨(List.Sublist.cons _ (List.Sublist.cons _ (List.Sublist.cons _ (List.Sublist.cons _ (List.Sublist.cons _ (List.Sublist.cons _ (List.Sublist.refl _))))))), ?_⟩))
                  refine ExD.take (i := 25) rfl (by kernel_rfl) (pureVal_ok rfl) ((List.Sublist.cons _ (List.Sublist.cons _ (List.Sublist.cons _ (List.Sublist.cons _ (List.Sublist.cons _ (List.Sublist.cons _ (List.Sublist.refl _)))))))) rfl rfl rfl ?_
                  refine ExD.done (by kernel_rfl) ?_
                  exact ⟨⟨rfl, rfl, rfl, rfl, rfl, rfl, rfl, trivial⟩, 8, [6, 7], rfl, rfl⟩
                · refine ExD.fork (i := 13) (j := 21) rfl rfl (by kernel_rfl) rfl rfl (Op1.of_free (fr_loadN rfl rfl rfl rfl rfl (segAll (seg := encPh (phot (p.l.drop (i + 1) ++ List.replicate (i + 1) zMk))) (Reads.row (i := 1) rfl) (catP (i := i) (ph_len p) (by omega) rfl rfl) (fun h => absurd (show 16 = 0 from congrArg List.length h) (by decide)))) rfl rfl ⟨(List.Sublist.cons _ (List.Sublist.cons _ (List.Sublist.cons _ (List.Sublist.cons _ (List.Sublist.cons _ (List.Sublist.refl _)))))), ?_⟩) (op_ret rfl rfl rfl (c_ConcatU ([⟨(cutA (some ⟨b3, 0, none⟩) 8 (i + 1) 1), (8 - (i + 1)), ((dig (digs s v)).l.drop (i + 1))⟩, ⟨(some ⟨r12, 0, none⟩), (List.replicate (i + 1) (0 : Int)).length, (List.replicate (i + 1) (0 : Int))⟩] : List (VX Int)) _ _ (by rw [catX_l (n := 8) (by show (List.drop _ _).length + (List.replicate _ _).length = 8; rw [List.length_drop, List.length_replicate]; omega)]; omega) (by show 2 ≤ 1000000; omega) (some2 cut_some (fun h => nomatch h))) (fun w hw => ⟨Reads.get (Reads.row (i := 0) rfl) w hw, reads2 (Reads.get (Reads.dropL (l := (dig (digs s v)).l) (c := 8) (Reads.blk (i := 5) rfl) (eI_len .u8) (by omega) (i + 1)) w hw) (Reads.get (readsZ (z := (0 : Int)) (i := 2) rfl rfl (eI_len .u8) rfl List.length_replicate) w hw)⟩) rfl rfl (fun x33 hx33 => ⟨(List.Sublist.cons _ (List.Sublist.cons _ (List.Sublist.cons _ (List.Sublist.cons _ (List.Sublist.cons _ (List.Sublist.cons _ (List.Sublist.refl _))))))), ?_⟩))
                  · refine ExD.op (i := 21) rfl (by kernel_rfl) rfl (op_ret rfl rfl rfl (c_ConcatU ([⟨(cutA (some ⟨b3, 0, none⟩) 8 (i + 1) 1), (8 - (i + 1)), ((dig (digs s v)).l.drop (i + 1))⟩, ⟨(some ⟨r12, 0, none⟩), (List.replicate (i + 1) (0 : Int)).length, (List.replicate (i + 1) (0 : Int))⟩] : List (VX Int)) _ _ (by rw [catX_l (n := 8) (by show (List.drop _ _).length + (List.replicate _ _).length = 8; rw [List.length_drop, List.length_replicate]; omega)]; omega) (by show 2 ≤ 1000000; omega) (some2 cut_some (fun h => nomatch h))) (fun w hw => ⟨Reads.get (Reads.row (i := 0) rfl) w hw, reads2 (Reads.get (Reads.dropL (l := (dig (digs s v)).l) (c := 8) (Reads.blk (i := 5) rfl) (eI_len .u8) (by omega) (i + 1)) w hw) (Reads.get (readsZ (z := (0 : Int)) (i := 2) rfl rfl (eI_len .u8) rfl List.length_replicate) w hw)⟩) rfl rfl (fun x34 hx34 => ⟨(List.Sublist.cons _ (List.Sublist.cons _ (List.Sublist.cons _ (List.Sublist.cons _ (List.Sublist.cons _ (List.Sublist.cons _ (List.Sublist.refl _))))))), ?_⟩))
                    refine ExD.take (i := 22) rfl (by kernel_rfl) (fr_sliceToArray (N := 8) rfl rfl rfl (by rw [catX_l (n := 8) (by show (List.drop _ _).length + (List.replicate _ _).length = 8; rw [List.length_drop, List.length_replicate]; omega)]; omega)) ((List.Sublist.cons _ (List.Sublist.cons _ (List.Sublist.cons _ (List.Sublist.cons _ (List.Sublist.cons _ (List.Sublist.cons _ (List.Sublist.refl _)))))))) rfl rfl rfl ?_
                    refine ExD.op (i := 23) rfl (by kernel_rfl) rfl (Op1.of_free (fr_loadN rfl rfl rfl rfl rfl (segAll (seg := encD (dig ((dig (digs s v)).l.drop (i + 1) ++ List.replicate (i + 1) (0 : Int)))) (Reads.row (i := 0) rfl) (catD (i := i) (dig_len _) (by omega) rfl rfl) (fun h => absurd (show 8 = 0 from congrArg List.length h) (by decide)))) rfl rfl ⟨(List.Sublist.cons _ (List.Sublist.cons _ (List.Sublist.cons _ (List.Sublist.cons _ (List.Sublist.cons _ (List.Sublist.cons _ (List.Sublist.refl _))))))), ?_⟩)
                    refine ExD.op (i := 24) rfl (by kernel_rfl) rfl (op_ret rfl rfl rfl (c_showsW (s.drop (i + 1)) _ _ (by rw [List.length_drop]; omega) (phot (p.l.drop (i + 1) ++ List.replicate (i + 1) zMk)) (okTail hp (by omega)) (dig ((dig (digs s v)).l.drop (i + 1) ++ List.replicate (i + 1) (0 : Int))) (dgTail hS hD (dig_len _) hil)) (Reads.get (Reads.dropL (Reads.old hs) (eI_len .u8) hcs (i + 1))) rfl rfl (fun x35 hx35 => ⟨(List.Sublist.cons _ (List.Sublist.cons _ (List.Sublist.cons _ (List.Sublist.cons _ (List.Sublist.cons _ (List.Sublist.cons _ (List.Sublist.refl _))))))), ?_⟩))
                    refine ExD.take (i := 25) rfl (by kernel_rfl) (pureVal_ok rfl) ((List.Sublist.cons _ (List.Sublist.cons _ (List.Sublist.cons _ (List.Sublist.cons _ (List.Sublist.cons _ (List.Sublist.cons _ (List.Sublist.refl _)))))))) rfl rfl rfl ?_
                    refine ExD.done (by kernel_rfl) ?_
                    exact ⟨⟨rfl, rfl, rfl, rfl, rfl, rfl, rfl, trivial⟩, 8, [6, 7], rfl, rfl⟩
                  · refine ExD.take (i := 22) rfl (by kernel_rfl) (fr_sliceToArray (N := 8) rfl rfl rfl (by rw [catX_l (n := 8) (by show (List.drop _ _).length + (List.replicate _ _).length = 8; rw [List.length_drop, List.length_replicate]; omega)]; omega)) ((List.Sublist.cons _ (List.Sublist.cons _ (List.Sublist.cons _ (List.Sublist.cons _ (List.Sublist.cons _ (List.Sublist.cons _ (List.Sublist.refl _)))))))) rfl rfl rfl ?_
                    refine ExD.fork (i := 13) (j := 23) rfl rfl (by kernel_rfl) rfl rfl (Op1.of_free (fr_loadN rfl rfl rfl rfl rfl (segAll (seg := encPh (phot (p.l.drop (i + 1) ++ List.replicate (i + 1) zMk))) (Reads.row (i := 2) rfl) (catP (i := i) (ph_len p) (by omega) rfl rfl) (fun h => absurd (show 16 = 0 from congrArg List.length h) (by decide)))) rfl rfl ⟨(List.Sublist.cons _ (List.Sublist.cons _ (List.Sublist.cons _ (List.Sublist.cons _ (List.Sublist.cons _ (List.Sublist.cons _ (List.Sublist.refl _))))))), ?_⟩) (Op1.of_free (fr_loadN rfl rfl rfl rfl rfl (segAll (seg := encD (dig ((dig (digs s v)).l.drop (i + 1) ++ List.replicate (i + 1) (0 : Int)))) (Reads.row (i := 0) rfl) (catD (i := i) (dig_len _) (by omega) rfl rfl) (fun h => absurd (show 8 = 0 from congrArg List.length h) (by decide)))) rfl rfl ⟨(List.Sublist.cons _ (List.Sublist.cons _ (List.Sublist.cons _ (List.Sublist.cons _ (List.Sublist.cons _ (List.Sublist.cons _ (List.Sublist.refl _))))))), ?_⟩)
                    · refine ExD.op (i := 23) rfl (by kernel_rfl) rfl (Op1.of_free (fr_loadN rfl rfl rfl rfl rfl (segAll (seg := encD (dig ((dig (digs s v)).l.drop (i + 1) ++ List.replicate (i + 1) (0 : Int)))) (Reads.row (i := 0) rfl) (catD (i := i) (dig_len _) (by omega) rfl rfl) (fun h => absurd (show 8 = 0 from congrArg List.length h) (by decide)))) rfl rfl ⟨(List.Sublist.cons _ (List.Sublist.cons _ (List.Sublist.cons _ (List.Sublist.cons _ (List.Sublist.cons _ (List.Sublist.cons _ (List.Sublist.refl _))))))), ?_⟩)
                      refine ExD.op (i := 24) rfl (by kernel_rfl) rfl (op_ret rfl rfl rfl (c_showsW (s.drop (i + 1)) _ _ (by rw [List.length_drop]; omega) (phot (p.l.drop (i + 1) ++ List.replicate (i + 1) zMk)) (okTail hp (by omega)) (dig ((dig (digs s v)).l.drop (i + 1) ++ List.replicate (i + 1) (0 : Int))) (dgTail hS hD (dig_len _) hil)) (Reads.get (Reads.dropL (Reads.old hs) (eI_len .u8) hcs (i + 1))) rfl rfl (fun x36 hx36 => ⟨(List.Sublist.cons _ (List.Sublist.cons _ (List.Sublist.cons _ (List.Sublist.cons _ (List.Sublist.cons _ (List.Sublist.cons _ (List.Sublist.refl _))))))), ?_⟩))
                      refine ExD.take (i := 25) rfl (by kernel_rfl) (pureVal_ok rfl) ((List.Sublist.cons _ (List.Sublist.cons _ (List.Sublist.cons _ (List.Sublist.cons _ (List.Sublist.cons _ (List.Sublist.cons _ (List.Sublist.refl _)))))))) rfl rfl rfl ?_
                      refine ExD.done (by kernel_rfl) ?_
                      exact ⟨⟨rfl, rfl, rfl, rfl, rfl, rfl, rfl, trivial⟩, 8, [6, 7], rfl, rfl⟩
                    · refine ExD.op (i := 13) rfl (by kernel_rfl) rfl (Op1.of_free (fr_loadN rfl rfl rfl rfl rfl (segAll (seg := encPh (phot (p.l.drop (i + 1) ++ List.replicate (i + 1) zMk))) (Reads.row (i := 2) rfl) (catP (i := i) (ph_len p) (by omega) rfl rfl) (fun h => absurd (show 16 = 0 from congrArg List.length h) (by decide)))) rfl rfl ⟨(List.Sublist.cons _ (List.Sublist.cons _ (List.Sublist.cons _ (List.Sublist.cons _ (List.Sublist.cons _ (List.Sublist.cons _ (List.Sublist.refl _))))))), ?_⟩)
                      refine ExD.op (i := 24) rfl (by kernel_rfl) rfl (op_ret rfl rfl rfl (c_showsW (s.drop (i + 1)) _ _ (by rw [List.length_drop]; omega) (phot (p.l.drop (i + 1) ++ List.replicate (i + 1) zMk)) (okTail hp (by omega)) (dig ((dig (digs s v)).l.drop (i + 1) ++ List.replicate (i + 1) (0 : Int))) (dgTail hS hD (dig_len _) hil)) (Reads.get (Reads.dropL (Reads.old hs) (eI_len .u8) hcs (i + 1))) rfl rfl (fun x37 hx37 => ⟨(List.Sublist.cons _ (List.Sublist.cons _ (List.Sublist.cons _ (List.Sublist.cons _ (List.Sublist.cons _ (List.Sublist.cons _ (List.Sublist.refl _))))))), ?_⟩))
                      refine ExD.take (i := 25) rfl (by kernel_rfl) (pureVal_ok rfl) ((List.Sublist.cons _ (List.Sublist.cons _ (List.Sublist.cons _ (List.Sublist.cons _ (List.Sublist.cons _ (List.Sublist.cons _ (List.Sublist.refl _)))))))) rfl rfl rfl ?_
                      refine ExD.done (by kernel_rfl) ?_
                      exact ⟨⟨rfl, rfl, rfl, rfl, rfl, rfl, rfl, trivial⟩, 8, [6, 7], rfl, rfl⟩
              · refine ExD.op (i := 11) rfl (by kernel_rfl) rfl (op_ret rfl rfl rfl (c_ConcatM ([⟨(cutA (some ⟨b1, 0, none⟩) 8 (i + 1) 2), (8 - (i + 1)), (p.l.drop (i + 1))⟩, ⟨(some ⟨r7, 0, none⟩), (List.replicate (i + 1) zMk).length, (List.replicate (i + 1) zMk)⟩] : List (VX VMk)) _ _ (by rw [catX_l (n := 8) (by show (List.drop _ _).length + (List.replicate _ _).length = 8; rw [List.length_drop, List.length_replicate]; omega)]; omega) (by show 2 ≤ 1000000; omega) (some2 cut_some (fun h => nomatch h))) (fun w hw => ⟨Reads.get (Reads.row (i := 2) rfl) w hw, reads2 (Reads.get (Reads.dropL (l := p.l) (c := 8) (Reads.blk (i := 5) rfl) encMk_len (by omega) (i + 1)) w hw) (Reads.get (readsZ (z := zMk) (i := 3) rfl rfl encMk_len rfl List.length_replicate) w hw)⟩) rfl rfl (fun x38 hx38 => ⟨(List.Sublist.cons _ (List.Sublist.cons _ (List.Sublist.cons _ (List.Sublist.cons _ (List.Sublist.cons _ (List.Sublist.refl _)))))), ?_⟩))
                refine ExD.take (i := 12) rfl (by kernel_rfl) (fr_sliceToArray (N := 8) rfl rfl rfl (by rw [catX_l (n := 8) (by show (List.drop _ _).length + (List.replicate _ _).length = 8; rw [List.length_drop, List.length_replicate]; omega)]; omega)) ((List.Sublist.cons _ (List.Sublist.cons _ (List.Sublist.cons _ (List.Sublist.cons _ (List.Sublist.cons _ (List.Sublist.refl _))))))) rfl rfl rfl ?_
                refine ExD.fork (i := 13) (j := 21) rfl rfl (by kernel_rfl) rfl rfl (Op1.of_free (fr_loadN rfl rfl rfl rfl rfl (segAll (seg := encPh (phot (p.l.drop (i + 1) ++ List.replicate (i + 1) zMk))) (Reads.row (i := 0) rfl) (catP (i := i) (ph_len p) (by omega) rfl rfl) (fun h => absurd (show 16 = 0 from congrArg List.length h) (by decide)))) rfl rfl ⟨(List.Sublist.cons _ (List.Sublist.cons _ (List.Sublist.cons _ (List.Sublist.cons _ (List.Sublist.cons _ (List.Sublist.refl _)))))), ?_⟩) (op_ret rfl rfl rfl (c_ConcatU ([⟨(cutA (some ⟨b3, 0, none⟩) 8 (i + 1) 1), (8 - (i + 1)), ((dig (digs s v)).l.drop (i + 1))⟩, ⟨(some ⟨r12, 0, none⟩), (List.replicate (i + 1) (0 : Int)).length, (List.replicate (i + 1) (0 : Int))⟩] : List (VX Int)) _ _ (by rw [catX_l (n := 8) (by show (List.drop _ _).length + (List.replicate _ _).length = 8; rw [List.length_drop, List.length_replicate]; omega)]; omega) (by show 2 ≤ 1000000; omega) (some2 cut_some (fun h => nomatch h))) (fun w hw => ⟨Reads.get (Reads.row (i := 1) rfl) w hw, reads2 (Reads.get (Reads.dropL (l := (dig (digs s v)).l) (c := 8) (Reads.blk (i := 5) rfl) (eI_len .u8) (by omega) (i + 1)) w hw) (Reads.get (readsZ (z := (0 : Int)) (i := 2) rfl rfl (eI_len .u8) rfl List.length_replicate) w hw)⟩) rfl rfl (fun x39 hx39 => ⟨(List.Sublist.cons _ (List.Sublist.cons _ (List.Sublist.cons _ (List.Sublist.cons _ (List.Sublist.cons _ (List.Sublist.cons _ (List.Sublist.refl _))))))), ?_⟩))
                · refine ExD.op (i := 21) rfl (by kernel_rfl) rfl (op_ret rfl rfl rfl (c_ConcatU ([⟨(cutA (some ⟨b3, 0, none⟩) 8 (i + 1) 1), (8 - (i + 1)), ((dig (digs s v)).l.drop (i + 1))⟩, ⟨(some ⟨r12, 0, none⟩), (List.replicate (i + 1) (0 : Int)).length, (List.replicate (i + 1) (0 : Int))⟩] : List (VX Int)) _ _ (by rw [catX_l (n := 8) (by show (List.drop _ _).length + (List.replicate _ _).length = 8; rw [List.length_drop, List.length_replicate]; omega)]; omega) (by show 2 ≤ 1000000; omega) (some2 cut_some (fun h => nomatch h))) (fun w hw => ⟨Reads.get (Reads.row (i := 1) rfl) w hw, reads2 (Reads.get (Reads.dropL (l := (dig (digs s v)).l) (c := 8) (Reads.blk (i := 5) rfl) (eI_len .u8) (by omega) (i + 1)) w hw) (Reads.get (readsZ (z := (0 : Int)) (i := 2) rfl rfl (eI_len .u8) rfl List.length_replicate) w hw)⟩) rfl rfl (fun x40 hx40 => ⟨(List.Sublist.cons _ (List.Sublist.cons _ (List.Sublist.cons _ (List.Sublist.cons _ (List.Sublist.cons _ (List.Sublist.cons _ (List.Sublist.refl _))))))), ?_⟩))
                  refine ExD.take (i := 22) rfl (by kernel_rfl) (fr_sliceToArray (N := 8) rfl rfl rfl (by rw [catX_l (n := 8) (by show (List.drop _ _).length + (List.replicate _ _).length = 8; rw [List.length_drop, List.length_replicate]; omega)]; omega)) ((List.Sublist.cons _ (List.Sublist.cons _ (List.Sublist.cons _ (List.Sublist.cons _ (List.Sublist.cons _ (List.Sublist.cons _ (List.Sublist.refl _)))))))) rfl rfl rfl ?_
                  refine ExD.op (i := 23) rfl (by kernel_rfl) rfl (Op1.of_free (fr_loadN rfl rfl rfl rfl rfl (segAll (seg := encD (dig ((dig (digs s v)).l.drop (i + 1) ++ List.replicate (i + 1) (0 : Int)))) (Reads.row (i := 0) rfl) (catD (i := i) (dig_len _) (by omega) rfl rfl) (fun h => absurd (show 8 = 0 from congrArg List.length h) (by decide)))) rfl rfl ⟨(List.Sublist.cons _ (List.Sublist.cons _ (List.Sublist.cons _ (List.Sublist.cons _ (List.Sublist.cons _ (List.Sublist.cons _ (List.Sublist.refl _))))))), ?_⟩)
                  refine ExD.op (i := 24) rfl (by kernel_rfl) rfl (op_ret rfl rfl rfl (c_showsW (s.drop (i + 1)) _ _ (by rw [List.length_drop]; omega) (phot (p.l.drop (i + 1) ++ List.replicate (i + 1) zMk)) (okTail hp (by omega)) (dig ((dig (digs s v)).l.drop (i + 1) ++ List.replicate (i + 1) (0 : Int))) (dgTail hS hD (dig_len _) hil)) (Reads.get (Reads.dropL (Reads.old hs) (eI_len .u8) hcs (i + 1))) rfl rfl (fun x41 hx41 => ⟨(List.Sublist.cons _ (List.Sublist.cons _ (List.Sublist.cons _ (List.Sublist.cons _ (List.Sublist.cons _ (List.Sublist.cons _ (List.Sublist.refl _))))))), ?_⟩))
                  refine ExD.take (i := 25) rfl (by kernel_rfl) (pureVal_ok rfl) ((List.Sublist.cons _ (List.Sublist.cons _ (List.Sublist.cons _ (List.Sublist.cons _ (List.Sublist.cons _ (List.Sublist.cons _ (List.Sublist.refl _)))))))) rfl rfl rfl ?_
                  refine ExD.done (by kernel_rfl) ?_
                  exact ⟨⟨rfl, rfl, rfl, rfl, rfl, rfl, rfl, trivial⟩, 8, [6, 7], rfl, rfl⟩
                · refine ExD.take (i := 22) rfl (by kernel_rfl) (fr_sliceToArray (N := 8) rfl rfl rfl (by rw [catX_l (n := 8) (by show (List.drop _ _).length + (List.replicate _ _).length = 8; rw [List.length_drop, List.length_replicate]; omega)]; omega)) ((List.Sublist.cons _ (List.Sublist.cons _ (List.Sublist.cons _ (List.Sublist.cons _ (List.Sublist.cons _ (List.Sublist.cons _ (List.Sublist.refl _)))))))) rfl rfl rfl ?_
                  refine ExD.fork (i := 13) (j := 23) rfl rfl (by kernel_rfl) rfl rfl (Op1.of_free (fr_loadN rfl rfl rfl rfl rfl (segAll (seg := encPh (phot (p.l.drop (i + 1) ++ List.replicate (i + 1) zMk))) (Reads.row (i := 1) rfl) (catP (i := i) (ph_len p) (by omega) rfl rfl) (fun h => absurd (show 16 = 0 from congrArg List.length h) (by decide)))) rfl rfl ⟨(List.Sublist.cons _ (List.Sublist.cons _ (List.Sublist.cons _ (List.Sublist.cons _ (List.Sublist.cons _ (List.Sublist.cons _ (List.Sublist.refl _))))))), ?_⟩) (Op1.of_free (fr_loadN rfl rfl rfl rfl rfl (segAll (seg := encD (dig ((dig (digs s v)).l.drop (i + 1) ++ List.replicate (i + 1) (0 : Int)))) (Reads.row (i := 0) rfl) (catD (i := i) (dig_len _) (by omega) rfl rfl) (fun h => absurd (show 8 = 0 from congrArg List.length h) (by decide)))) rfl rfl ⟨(List.Sublist.cons _ (List.Sublist.cons _ (List.Sublist.cons _ (List.Sublist.cons _ (List.Sublist.cons _ (List.Sublist.cons _ (List.Sublist.refl _))))))), ?_⟩)
                  · refine ExD.op (i := 23) rfl (by kernel_rfl) rfl (Op1.of_free (fr_loadN rfl rfl rfl rfl rfl (segAll (seg := encD (dig ((dig (digs s v)).l.drop (i + 1) ++ List.replicate (i + 1) (0 : Int)))) (Reads.row (i := 0) rfl) (catD (i := i) (dig_len _) (by omega) rfl rfl) (fun h => absurd (show 8 = 0 from congrArg List.length h) (by decide)))) rfl rfl ⟨(List.Sublist.cons _ (List.Sublist.cons _ (List.Sublist.cons _ (List.Sublist.cons _ (List.Sublist.cons _ (List.Sublist.cons _ (List.Sublist.refl _))))))), ?_⟩)
                    refine ExD.op (i := 24) rfl (by kernel_rfl) rfl (op_ret rfl rfl rfl (c_showsW (s.drop (i + 1)) _ _ (by rw [List.length_drop]; omega) (phot (p.l.drop (i + 1) ++ List.replicate (i + 1) zMk)) (okTail hp (by omega)) (dig ((dig (digs s v)).l.drop (i + 1) ++ List.replicate (i + 1) (0 : Int))) (dgTail hS hD (dig_len _) hil)) (Reads.get (Reads.dropL (Reads.old hs) (eI_len .u8) hcs (i + 1))) rfl rfl (fun x42 hx42 => ⟨(List.Sublist.cons _ (List.Sublist.cons _ (List.Sublist.cons _ (List.Sublist.cons _ (List.Sublist.cons _ (List.Sublist.cons _ (List.Sublist.refl _))))))), ?_⟩))
                    refine ExD.take (i := 25) rfl (by kernel_rfl) (pureVal_ok rfl) ((List.Sublist.cons _ (List.Sublist.cons _ (List.Sublist.cons _ (List.Sublist.cons _ (List.Sublist.cons _ (List.Sublist.cons _ (List.Sublist.refl _)))))))) rfl rfl rfl ?_
                    refine ExD.done (by kernel_rfl) ?_
                    exact ⟨⟨rfl, rfl, rfl, rfl, rfl, rfl, rfl, trivial⟩, 8, [6, 7], rfl, rfl⟩
                  · refine ExD.op (i := 13) rfl (by kernel_rfl) rfl (Op1.of_free (fr_loadN rfl rfl rfl rfl rfl (segAll (seg := encPh (phot (p.l.drop (i + 1) ++ List.replicate (i + 1) zMk))) (Reads.row (i := 1) rfl) (catP (i := i) (ph_len p) (by omega) rfl rfl) (fun h => absurd (show 16 = 0 from congrArg List.length h) (by decide)))) rfl rfl ⟨(List.Sublist.cons _ (List.Sublist.cons _ (List.Sublist.cons _ (List.Sublist.cons _ (List.Sublist.cons _ (List.Sublist.cons _ (List.Sublist.refl _))))))), ?_⟩)
                    refine ExD.op (i := 24) rfl (by kernel_rfl) rfl (op_ret rfl rfl rfl (c_showsW (s.drop (i + 1)) _ _ (by rw [List.length_drop]; omega) (phot (p.l.drop (i + 1) ++ List.replicate (i + 1) zMk)) (okTail hp (by omega)) (dig ((dig (digs s v)).l.drop (i + 1) ++ List.replicate (i + 1) (0 : Int))) (dgTail hS hD (dig_len _) hil)) (Reads.get (Reads.dropL (Reads.old hs) (eI_len .u8) hcs (i + 1))) rfl rfl (fun x43 hx43 => ⟨(List.Sublist.cons _ (List.Sublist.cons _ (List.Sublist.cons _ (List.Sublist.cons _ (List.Sublist.cons _ (List.Sublist.cons _ (List.Sublist.refl _))))))), ?_⟩))
                    refine ExD.take (i := 25) rfl (by kernel_rfl) (pureVal_ok rfl) ((List.Sublist.cons _ (List.Sublist.cons _ (List.Sublist.cons _ (List.Sublist.cons _ (List.Sublist.cons _ (List.Sublist.cons _ (List.Sublist.refl _)))))))) rfl rfl rfl ?_
                    refine ExD.done (by kernel_rfl) ?_
                    exact ⟨⟨rfl, rfl, rfl, rfl, rfl, rfl, rfl, trivial⟩, 8, [6, 7], rfl, rfl⟩
          · refine ExD.fork (i := 10) (j := 20) rfl rfl (by kernel_rfl) rfl rfl (op_buildSlice (sz := 1) rfl rfl rfl rfl rfl rfl rfl rfl (by decide) rfl rfl rfl (fun r44 => ⟨(List.Sublist.cons _ (List.Sublist.cons _ (List.Sublist.cons _ (List.Sublist.refl _)))), ?_⟩)) (op_buildSlice (sz := 1) rfl rfl rfl rfl rfl rfl rfl rfl (by decide) rfl rfl rfl (fun r45 => ⟨(List.Sublist.cons _ (List.Sublist.cons _ (List.Sublist.cons _ (List.Sublist.refl _)))), ?_⟩))
            · refine ExD.fork (i := 11) (j := 20) rfl rfl (by kernel_rfl) rfl rfl (op_ret rfl rfl rfl (c_ConcatM ([⟨(cutA (some ⟨b1, 0, none⟩) 8 (i + 1) 2), (8 - (i + 1)), (p.l.drop (i + 1))⟩, ⟨(some ⟨r7, 0, none⟩), (List.replicate (i + 1) zMk).length, (List.replicate (i + 1) zMk)⟩] : List (VX VMk)) _ _ (by rw [catX_l (n := 8) (by show (List.drop _ _).length + (List.replicate _ _).length = 8; rw [List.length_drop, List.length_replicate]; omega)]; omega) (by show 2 ≤ 1000000; omega) (some2 cut_some (fun h => nomatch h))) (fun w hw => ⟨Reads.get (Reads.row (i := 0) rfl) w hw, reads2 (Reads.get (Reads.dropL (l := p.l) (c := 8) (Reads.blk (i := 4) rfl) encMk_len (by omega) (i + 1)) w hw) (Reads.get (readsZ (z := zMk) (i := 2) rfl rfl encMk_len rfl List.length_replicate) w hw)⟩) rfl rfl (fun x46 hx46 => ⟨(List.Sublist.cons _ (List.Sublist.cons _ (List.Sublist.cons _ (List.Sublist.cons _ (List.Sublist.refl _))))), ?_⟩)) (op_buildSlice (sz := 1) rfl rfl rfl rfl rfl rfl rfl rfl (by decide) rfl rfl rfl (fun r47 => ⟨(List.Sublist.cons _ (List.Sublist.cons _ (List.Sublist.cons _ (List.Sublist.cons _ (List.Sublist.refl _))))), ?_⟩))
              · refine ExD.take (i := 12) rfl (by kernel_rfl) (fr_sliceToArray (N := 8) rfl rfl rfl (by rw [catX_l (n := 8) (by show (List.drop _ _).length + (List.replicate _ _).length = 8; rw [List.length_drop, List.length_replicate]; omega)]; omega)) ((List.Sublist.cons _ (List.Sublist.cons _ (List.Sublist.cons _ (List.Sublist.cons _ (List.Sublist.refl _)))))) rfl rfl rfl ?_
                refine ExD.fork (i := 13) (j := 20) rfl rfl (by kernel_rfl) rfl rfl (Op1.of_free (fr_loadN rfl rfl rfl rfl rfl (segAll (seg := encPh (phot (p.l.drop (i + 1) ++ List.replicate (i + 1) zMk))) (Reads.row (i := 0) rfl) (catP (i := i) (ph_len p) (by omega) rfl rfl) (fun h => absurd (show 16 = 0 from congrArg List.length h) (by decide)))) rfl rfl ⟨(List.Sublist.cons _ (List.Sublist.cons _ (List.Sublist.cons _ (List.Sublist.cons _ (List.Sublist.refl _))))), ?_⟩) (op_buildSlice (sz := 1) rfl rfl rfl rfl rfl rfl rfl rfl (by decide) rfl rfl rfl (fun r48 => ⟨(List.Sublist.cons _ (List.Sublist.cons _ (List.Sublist.cons _ (List.Sublist.cons _ (List.Sublist.cons _ (List.Sublist.refl _)))))), ?_⟩))
                · refine ExD.op (i := 20) rfl (by kernel_rfl) rfl (op_buildSlice (sz := 1) rfl rfl rfl rfl rfl rfl rfl rfl (by decide) rfl rfl rfl (fun r49 => ⟨(List.Sublist.cons _ (List.Sublist.cons _ (List.Sublist.cons _ (List.Sublist.cons _ (List.Sublist.cons _ (List.Sublist.refl _)))))), ?_⟩))
                  refine ExD.op (i := 21) rfl (by kernel_rfl) rfl (op_ret rfl rfl rfl (c_ConcatU ([⟨(cutA (some ⟨b3, 0, none⟩) 8 (i + 1) 1), (8 - (i + 1)), ((dig (digs s v)).l.drop (i + 1))⟩, ⟨(some ⟨r10, 0, none⟩), (List.replicate (i + 1) (0 : Int)).length, (List.replicate (i + 1) (0 : Int))⟩] : List (VX Int)) _ _ (by rw [catX_l (n := 8) (by show (List.drop _ _).length + (List.replicate _ _).length = 8; rw [List.length_drop, List.length_replicate]; omega)]; omega) (by show 2 ≤ 1000000; omega) (some2 cut_some (fun h => nomatch h))) (fun w hw => ⟨Reads.get (Reads.row (i := 0) rfl) w hw, reads2 (Reads.get (Reads.dropL (l := (dig (digs s v)).l) (c := 8) (Reads.blk (i := 5) rfl) (eI_len .u8) (by omega) (i + 1)) w hw) (Reads.get (readsZ (z := (0 : Int)) (i := 3) rfl rfl (eI_len .u8) rfl List.length_replicate) w hw)⟩) rfl rfl (fun x50 hx50 => ⟨(List.Sublist.cons _ (List.Sublist.cons _ (List.Sublist.cons _ (List.Sublist.cons _ (List.Sublist.cons _ (List.Sublist.cons _ (List.Sublist.refl _))))))), ?_⟩))
                  refine ExD.take (i := 22) rfl (by kernel_rfl) (fr_sliceToArray (N := 8) rfl rfl rfl (by rw [catX_l (n := 8) (by show (List.drop _ _).length + (List.replicate _ _).length = 8; rw [List.length_drop, List.length_replicate]; omega)]; omega)) ((List.Sublist.cons _ (List.Sublist.cons _ (List.Sublist.cons _ (List.Sublist.cons _ (List.Sublist.cons _ (List.Sublist.cons _ (List.Sublist.refl _)))))))) rfl rfl rfl ?_
                  refine ExD.op (i := 23) rfl (by kernel_rfl) rfl (Op1.of_free (fr_loadN rfl rfl rfl rfl rfl (segAll (seg := encD (dig ((dig (digs s v)).l.drop (i + 1) ++ List.replicate (i + 1) (0 : Int)))) (Reads.row (i := 0) rfl) (catD (i := i) (dig_len _) (by omega) rfl rfl) (fun h => absurd (show 8 = 0 from congrArg List.length h) (by decide)))) rfl rfl ⟨(List.Sublist.cons _ (List.Sublist.cons _ (List.Sublist.cons _ (List.Sublist.cons _ (List.Sublist.cons _ (List.Sublist.cons _ (List.Sublist.refl _))))))), ?_⟩)
                  refine ExD.op (i := 24) rfl (by kernel_rfl) rfl (op_ret rfl rfl rfl (c_showsW (s.drop (i + 1)) _ _ (by rw [List.length_drop]; omega) (phot (p.l.drop (i + 1) ++ List.replicate (i + 1) zMk)) (okTail hp (by omega)) (dig ((dig (digs s v)).l.drop (i + 1) ++ List.replicate (i + 1) (0 : Int))) (dgTail hS hD (dig_len _) hil)) (Reads.get (Reads.dropL (Reads.old hs) (eI_len .u8) hcs (i + 1))) rfl rfl (fun x51 hx51 => ⟨(List.Sublist.cons _ (List.Sublist.cons _ (List.Sublist.cons _ (List.Sublist.cons _ (List.Sublist.cons _ (List.Sublist.cons _ (List.Sublist.refl _))))))), ?_⟩))
                  refine ExD.take (i := 25) rfl (by kernel_rfl) (pureVal_ok rfl) ((List.Sublist.cons _ (List.Sublist.cons _ (List.Sublist.cons _ (List.Sublist.cons _ (List.Sublist.cons _ (List.Sublist.cons _ (List.Sublist.refl _)))))))) rfl rfl rfl ?_
                  refine ExD.done (by kernel_rfl) ?_
                  exact ⟨⟨rfl, rfl, rfl, rfl, rfl, rfl, rfl, trivial⟩, 8, [6, 7], rfl, rfl⟩
                · refine ExD.fork (i := 13) (j := 21) rfl rfl (by kernel_rfl) rfl rfl (Op1.of_free (fr_loadN rfl rfl rfl rfl rfl (segAll (seg := encPh (phot (p.l.drop (i + 1) ++ List.replicate (i + 1) zMk))) (Reads.row (i := 1) rfl) (catP (i := i) (ph_len p) (by omega) rfl rfl) (fun h => absurd (show 16 = 0 from congrArg List.length h) (by decide)))) rfl rfl ⟨(List.Sublist.cons _ (List.Sublist.cons _ (List.Sublist.cons _ (List.Sublist.cons _ (List.Sublist.cons _ (List.Sublist.refl _)))))), ?_⟩) (op_ret rfl rfl rfl (c_ConcatU ([⟨(cutA (some ⟨b3, 0, none⟩) 8 (i + 1) 1), (8 - (i + 1)), ((dig (digs s v)).l.drop (i + 1))⟩, ⟨(some ⟨r10, 0, none⟩), (List.replicate (i + 1) (0 : Int)).length, (List.replicate (i + 1) (0 : Int))⟩] : List (VX Int)) _ _ (by rw [catX_l (n := 8) (by show (List.drop _ _).length + (List.replicate _ _).length = 8; rw [List.length_drop, List.length_replicate]; omega)]; omega) (by show 2 ≤ 1000000; omega) (some2 cut_some (fun h => nomatch h))) (fun w hw => ⟨Reads.get (Reads.row (i := 0) rfl) w hw, reads2 (Reads.get (Reads.dropL (l := (dig (digs s v)).l) (c := 8) (Reads.blk (i := 5) rfl) (eI_len .u8) (by omega) (i + 1)) w hw) (Reads.get (readsZ (z := (0 : Int)) (i := 3) rfl rfl (eI_len .u8) rfl List.length_replicate) w hw)⟩) rfl rfl (fun x52 hx52 => ⟨(List.Sublist.cons _ (List.Sublist.cons _ (List.Sublist.cons _ (List.Sublist.cons _ (List.Sublist.cons _ (List.Sublist.cons _ (List.Sublist.refl _))))))), ?_⟩))
                  · refine ExD.op (i := 21) rfl (by kernel_rfl) rfl (op_ret rfl rfl rfl (c_ConcatU ([⟨(cutA (some ⟨b3, 0, none⟩) 8 (i + 1) 1), (8 - (i + 1)), ((dig (digs s v)).l.drop (i + 1))⟩, ⟨(some ⟨r10, 0, none⟩), (List.replicate (i + 1) (0 : Int)).length, (List.replicate (i + 1) (0 : Int))⟩] : List (VX Int)) _ _ (by rw [catX_l (n := 8) (by show (List.drop _ _).length + (List.replicate _ _).length = 8; rw [List.length_drop, List.length_replicate]; omega)]; omega) (by show 2 ≤ 1000000; omega) (some2 cut_some (fun h => nomatch h))) (fun w hw => ⟨Reads.get (Reads.row (i := 0) rfl) w hw, reads2 (Reads.get (Reads.dropL (l := (dig (digs s v)).l) (c := 8) (Reads.blk (i := 5) rfl) (eI_len .u8) (by omega) (i + 1)) w hw) (Reads.get (readsZ (z := (0 : Int)) (i := 3) rfl rfl (eI_len .u8) rfl List.length_replicate) w hw)⟩) rfl rfl (fun x53 hx53 => ⟨(List.Sublist.cons _ (List.Sublist.cons _ (List.Sublist.cons _ (List.Sublist.cons _ (List.Sublist.cons _ (List.Sublist.cons _ (List.Sublist.refl _))))))), ?_⟩))
                    refine ExD.take (i := 22) rfl (by kernel_rfl) (fr_sliceToArray (N := 8) rfl rfl rfl (by rw [catX_l (n := 8) (by show (List.drop _ _).length + (List.replicate _ _).length = 8; rw [List.length_drop, List.length_replicate]; omega)]; omega)) ((List.Sublist.cons _ (List.Sublist.cons _ (List.Sublist.cons _ (List.Sublist.cons _ (List.Sublist.cons _ (List.Sublist.cons _ (List.Sublist.refl _)))))))) rfl rfl rfl ?_
                    refine ExD.op (i := 23) rfl (by kernel_rfl) rfl (Op1.of_free (fr_loadN rfl rfl rfl rfl rfl (segAll (seg := encD (dig ((dig (digs s v)).l.drop (i + 1) ++ List.replicate (i + 1) (0 : Int)))) (Reads.row (i := 0) rfl) (catD (i := i) (dig_len _) (by omega) rfl rfl) (fun h => absurd (show 8 = 0 from congrArg List.length h) (by decide)))) rfl rfl ⟨(List.Sublist.cons _ (List.Sublist.cons _ (List.Sublist.cons _ (List.Sublist.cons _ (List.Sublist.cons _ (List.Sublist.cons _ (List.Sublist.refl _))))))), ?_⟩)
                    refine ExD.op (i := 24) rfl (by kernel_rfl) rfl (op_ret rfl rfl rfl (c_showsW (s.drop (i + 1)) _ _ (by rw [List.length_drop]; omega) (phot (p.l.drop (i + 1) ++ List.replicate (i + 1) zMk)) (okTail hp (by omega)) (dig ((dig (digs s v)).l.drop (i + 1) ++ List.replicate (i + 1) (0 : Int))) (dgTail hS hD (dig_len _) hil)) (Reads.get (Reads.dropL (Reads.old hs) (eI_len .u8) hcs (i + 1))) rfl rfl (fun x54 hx54 => ⟨(List.Sublist.cons _ (List.Sublist.cons _ (List.Sublist.cons _ (List.Sublist.cons _ (List.Sublist.cons _ (List.Sublist.cons _ (List.Sublist.refl _))))))), ?_⟩))
                    refine ExD.take (i := 25) rfl (by kernel_rfl) (pureVal_ok rfl) ((List.Sublist.cons _ (List.Sublist.cons _ (List.Sublist.cons _ (List.Sublist.cons _ (List.Sublist.cons _ (List.Sublist.cons _ (List.Sublist.refl _)))))))) rfl rfl rfl ?_
                    refine ExD.done (by kernel_rfl) ?_
                    exact ⟨⟨rfl, rfl, rfl, rfl, rfl, rfl, rfl, trivial⟩, 8, [6, 7], rfl, rfl⟩
                  · refine ExD.take (i := 22) rfl (by kernel_rfl) (fr_sliceToArray (N := 8) rfl rfl rfl (by rw [catX_l (n := 8) (by show (List.drop _ _).length + (List.replicate _ _).length = 8; rw [List.length_drop, List.length_replicate]; omega)]; omega)) ((List.Sublist.cons _ (List.Sublist.cons _ (List.Sublist.cons _ (List.Sublist.cons _ (List.Sublist.cons _ (List.Sublist.cons _ (List.Sublist.refl _)))))))) rfl rfl rfl ?_
                    refine ExD.fork (i := 13) (j := 23) rfl rfl (by kernel_rfl) rfl rfl (Op1.of_free (fr_loadN rfl rfl rfl rfl rfl (segAll (seg := encPh (phot (p.l.drop (i + 1) ++ List.replicate (i + 1) zMk))) (Reads.row (i := 2) rfl) (catP (i := i) (ph_len p) (by omega) rfl rfl) (fun h => absurd (show 16 = 0 from congrArg List.length h) (by decide)))) rfl rfl ⟨(List.Sublist.cons _ (List.Sublist.cons _ (List.Sublist.cons _ (List.Sublist.cons _ (List.Sublist.cons _ (List.Sublist.cons _ (List.Sublist.refl _))))))), ?_⟩) (Op1.of_free (fr_loadN rfl rfl rfl rfl rfl (segAll (seg := encD (dig ((dig (digs s v)).l.drop (i + 1) ++ List.replicate (i + 1) (0 : Int)))) (Reads.row (i := 0) rfl) (catD (i := i) (dig_len _) (by omega) rfl rfl) (fun h => absurd (show 8 = 0 from congrArg List.length h) (by decide)))) rfl rfl ⟨(List.Sublist.cons _ (List.Sublist.cons _ (List.Sublist.cons _ (List.Sublist.cons _ (List.Sublist.cons _ (List.Sublist.cons _ (List.Sublist.refl _))))))), ?_⟩)
                    · refine ExD.op (i := 23) rfl (by kernel_rfl) rfl (Op1.of_free (fr_loadN rfl rfl rfl rfl rfl (segAll (seg := encD (dig ((dig (digs s v)).l.drop (i + 1) ++ List.replicate (i + 1) (0 : Int)))) (Reads.row (i := 0) rfl) (catD (i := i) (dig_len _) (by omega) rfl rfl) (fun h => absurd (show 8 = 0 from congrArg List.length h) (by decide)))) rfl rfl ⟨(List.Sublist.cons _ (List.Sublist.cons _ (List.Sublist.cons _ (List.Sublist.cons _ (List.Sublist.cons _ (List.Sublist.cons _ (List.Sublist.refl _))))))), ?_⟩)
                      refine ExD.op (i := 24) rfl (by kernel_rfl) rfl (op_ret rfl rfl rfl (c_showsW (s.drop (i + 1)) _ _ (by rw [List.length_drop]; omega) (phot (p.l.drop (i + 1) ++ List.replicate (i + 1) zMk)) (okTail hp (by omega)) (dig ((dig (digs s v)).l.drop (i + 1) ++ List.replicate (i + 1) (0 : Int))) (dgTail hS hD (dig_len _) hil)) (Reads.get (Reads.dropL (Reads.old hs) (eI_len .u8) hcs (i + 1))) rfl rfl (fun x55 hx55 => ⟨(List.Sublist.cons _ (List.Sublist.cons _ (List.Sublist.cons _ (List.Sublist.cons _ (List.Sublist.cons _ (List.Sublist.cons _ (List.Sublist.refl _))))))), ?_⟩))
                      refine ExD.take (i := 25) rfl (by kernel_rfl) (pureVal_ok rfl) ((List.Sublist.cons _ (List.Sublist.cons _ (List.Sublist.cons _ (List.Sublist.cons _ (List.Sublist.cons _ (List.Sublist.cons _ (List.Sublist.refl _)))))))) rfl rfl rfl ?_
                      refine ExD.done (by kernel_rfl) ?_
                      exact ⟨⟨rfl, rfl, rfl, rfl, rfl, rfl, rfl, trivial⟩, 8, [6, 7], rfl, rfl⟩
                    · refine ExD.op (i := 13) rfl (by kernel_rfl) rfl (Op1.of_free (fr_loadN rfl rfl rfl rfl rfl (segAll (seg := encPh (phot (p.l.drop (i + 1) ++ List.replicate (i + 1) zMk))) (Reads.row (i := 2) rfl) (catP (i := i) (ph_len p) (by omega) rfl rfl) (fun h => absurd (show 16 = 0 from congrArg List.length h) (by decide)))) rfl rfl ⟨(List.Sublist.cons _ (List.Sublist.cons _ (List.Sublist.cons _ (List.Sublist.cons _ (List.Sublist.cons _ (List.Sublist.cons _ (List.Sublist.refl _))))))), ?_⟩)
                      refine ExD.op (i := 24) rfl (by kernel_rfl) rfl (op_ret rfl rfl rfl (c_showsW (s.drop (i + 1)) _ _ (by rw [List.length_drop]; omega) (phot (p.l.drop (i + 1) ++ List.replicate (i + 1) zMk)) (okTail hp (by omega)) (dig ((dig (digs s v)).l.drop (i + 1) ++ List.replicate (i + 1) (0 : Int))) (dgTail hS hD (dig_len _) hil)) (Reads.get (Reads.dropL (Reads.old hs) (eI_len .u8) hcs (i + 1))) rfl rfl (fun x56 hx56 => ⟨(List.Sublist.cons _ (List.Sublist.cons _ (List.Sublist.cons _ (List.Sublist.cons _ (List.Sublist.cons _ (List.Sublist.cons _ (List.Sublist.refl _))))))), ?_⟩))
                      refine ExD.take (i := 25) rfl (by kernel_rfl) (pureVal_ok rfl) ((List.Sublist.cons _ (List.Sublist.cons _ (List.Sublist.cons _ (List.Sublist.cons _ (List.Sublist.cons _ (List.Sublist.cons _ (List.Sublist.refl _)))))))) rfl rfl rfl ?_
                      refine ExD.done (by kernel_rfl) ?_
                      exact ⟨⟨rfl, rfl, rfl, rfl, rfl, rfl, rfl, trivial⟩, 8, [6, 7], rfl, rfl⟩
              · refine ExD.op (i := 11) rfl (by kernel_rfl) rfl (op_ret rfl rfl rfl (c_ConcatM ([⟨(cutA (some ⟨b1, 0, none⟩) 8 (i + 1) 2), (8 - (i + 1)), (p.l.drop (i + 1))⟩, ⟨(some ⟨r7, 0, none⟩), (List.replicate (i + 1) zMk).length, (List.replicate (i + 1) zMk)⟩] : List (VX VMk)) _ _ (by rw [catX_l (n := 8) (by show (List.drop _ _).length + (List.replicate _ _).length = 8; rw [List.length_drop, List.length_replicate]; omega)]; omega) (by show 2 ≤ 1000000; omega) (some2 cut_some (fun h => nomatch h))) (fun w hw => ⟨Reads.get (Reads.row (i := 1) rfl) w hw, reads2 (Reads.get (Reads.dropL (l := p.l) (c := 8) (Reads.blk (i := 5) rfl) encMk_len (by omega) (i + 1)) w hw) (Reads.get (readsZ (z := zMk) (i := 3) rfl rfl encMk_len rfl List.length_replicate) w hw)⟩) rfl rfl (fun x57 hx57 => ⟨(List.Sublist.cons _ (List.Sublist.cons _ (List.Sublist.cons _ (List.Sublist.cons _ (List.Sublist.cons _ (List.Sublist.refl _)))))), ?_⟩))
                refine ExD.take (i := 12) rfl (by kernel_rfl) (fr_sliceToArray (N := 8) rfl rfl rfl (by rw [catX_l (n := 8) (by show (List.drop _ _).length + (List.replicate _ _).length = 8; rw [List.length_drop, List.length_replicate]; omega)]; omega)) ((List.Sublist.cons _ (List.Sublist.cons _ (List.Sublist.cons _ (List.Sublist.cons _ (List.Sublist.cons _ (List.Sublist.refl _))))))) rfl rfl rfl ?_
                refine ExD.fork (i := 13) (j := 21) rfl rfl (by kernel_rfl) rfl rfl (Op1.of_free (fr_loadN rfl rfl rfl rfl rfl (segAll (seg := encPh (phot (p.l.drop (i + 1) ++ List.replicate (i + 1) zMk))) (Reads.row (i := 0) rfl) (catP (i := i) (ph_len p) (by omega) rfl rfl) (fun h => absurd (show 16 = 0 from congrArg List.length h) (by decide)))) rfl rfl ⟨(List.Sublist.cons _ (List.Sublist.cons _ (List.Sublist.cons _ (List.Sublist.cons _ (List.Sublist.cons _ (List.Sublist.refl _)))))), ?_⟩) (op_ret rfl rfl rfl (c_ConcatU ([⟨(cutA (some ⟨b3, 0, none⟩) 8 (i + 1) 1), (8 - (i + 1)), ((dig (digs s v)).l.drop (i + 1))⟩, ⟨(some ⟨r10, 0, none⟩), (List.replicate (i + 1) (0 : Int)).length, (List.replicate (i + 1) (0 : Int))⟩] : List (VX Int)) _ _ (by rw [catX_l (n := 8) (by show (List.drop _ _).length + (List.replicate _ _).length = 8; rw [List.length_drop, List.length_replicate]; omega)]; omega) (by show 2 ≤ 1000000; omega) (some2 cut_some (fun h => nomatch h))) (fun w hw => ⟨Reads.get (Reads.row (i := 1) rfl) w hw, reads2 (Reads.get (Reads.dropL (l := (dig (digs s v)).l) (c := 8) (Reads.blk (i := 5) rfl) (eI_len .u8) (by omega) (i + 1)) w hw) (Reads.get (readsZ (z := (0 : Int)) (i := 3) rfl rfl (eI_len .u8) rfl List.length_replicate) w hw)⟩) rfl rfl (fun x58 hx58 => ⟨(List.Sublist.cons _ (List.Sublist.cons _ (List.Sublist.cons _ (List.Sublist.cons _ (List.Sublist.cons _ (List.Sublist.cons _ (List.Sublist.refl _))))))), ?_⟩))
                · refine ExD.op (i := 21) rfl (by kernel_rfl) rfl (op_ret rfl rfl rfl (c_ConcatU ([⟨(cutA (some ⟨b3, 0, none⟩) 8 (i + 1) 1), (8 - (i + 1)), ((dig (digs s v)).l.drop (i + 1))⟩, ⟨(some ⟨r10, 0, none⟩), (List.replicate (i + 1) (0 : Int)).length, (List.replicate (i + 1) (0 : Int))⟩] : List (VX Int)) _ _ (by rw [catX_l (n := 8) (by show (List.drop _ _).length + (List.replicate _ _).length = 8; rw [List.length_drop, List.length_replicate]; omega)]; omega) (by show 2 ≤ 1000000; omega) (some2 cut_some (fun h => nomatch h))) (fun w hw => ⟨Reads.get (Reads.row (i := 1) rfl) w hw, reads2 (Reads.get (Reads.dropL (l := (dig (digs s v)).l) (c := 8) (Reads.blk (i := 5) rfl) (eI_len .u8) (by omega) (i + 1)) w hw) (Reads.get (readsZ (z := (0 : Int)) (i := 3) rfl rfl (eI_len .u8) rfl List.length_replicate) w hw)⟩) rfl rfl (fun x59 hx59 => ⟨(List.Sublist.cons _ (List.Sublist.cons _ (List.Sublist.cons _ (List.Sublist.cons _ (List.Sublist.cons _ (List.Sublist.cons _ (List.Sublist.refl _))))))), ?_⟩))
                  refine ExD.take (i := 22) rfl (by kernel_rfl) (fr_sliceToArray (N := 8) rfl rfl rfl (by rw [catX_l (n := 8) (by show (List.drop _ _).length + (List.replicate _ _).length = 8; rw [List.length_drop, List.length_replicate]; omega)]; omega)) ((List.Sublist.cons _ (List.Sublist.cons _ (List.Sublist.cons _ (List.Sublist.cons _ (List.Sublist.cons _ (List.Sublist.cons _ (List.Sublist.refl _)))))))) rfl rfl rfl ?_
                  refine ExD.op (i := 23) rfl (by kernel_rfl) rfl (Op1.of_free (fr_loadN rfl rfl rfl rfl rfl (segAll (seg := encD (dig ((dig (digs s v)).l.drop (i + 1) ++ List.replicate (i + 1) (0 : Int)))) (Reads.row (i := 0) rfl) (catD (i := i) (dig_len _) (by omega) rfl rfl) (fun h => absurd (show 8 = 0 from congrArg List.length h) (by decide)))) rfl rfl ⟨(List.Sublist.cons _ (List.Sublist.cons _ (List.Sublist.cons _ (List.Sublist.cons _ (List.Sublist.cons _ (List.Sublist.cons _ (List.Sublist.refl _))))))), ?_⟩)
                  refine ExD.op (i := 24) rfl (by kernel_rfl) rfl (op_ret rfl rfl rfl (c_showsW (s.drop (i + 1)) _ _ (by rw [List.length_drop]; omega) (phot (p.l.drop (i + 1) ++ List.replicate (i + 1) zMk)) (okTail hp (by omega)) (dig ((dig (digs s v)).l.drop (i + 1) ++ List.replicate (i + 1) (0 : Int))) (dgTail hS hD (dig_len _) hil)) (Reads.get (Reads.dropL (Reads.old hs) (eI_len .u8) hcs (i + 1))) rfl rfl (fun x60 hx60 => ⟨(List.Sublist.cons _ (List.Sublist.cons _ (List.Sublist.cons _ (List.Sublist.cons _ (List.Sublist.cons _ (List.Sublist.cons _ (List.Sublist.refl _))))))), ?_⟩))
                  refine ExD.take (i := 25) rfl (by kernel_rfl) (pureVal_ok rfl) ((List.Sublist.cons _ (List.Sublist.cons _ (List.Sublist.cons _ (List.Sublist.cons _ (List.Sublist.cons _ (List.Sublist.cons _ (List.Sublist.refl _)))))))) rfl rfl rfl ?_
                  refine ExD.done (by kernel_rfl) ?_
                  exact ⟨⟨rfl, rfl, rfl, rfl, rfl, rfl, rfl, trivial⟩, 8, [6, 7], rfl, rfl⟩
                · refine ExD.take (i := 22) rfl (by kernel_rfl) (fr_sliceToArray (N := 8) rfl rfl rfl (by rw [catX_l (n := 8) (by show (List.drop _ _).length + (List.replicate _ _).length = 8; rw [List.length_drop, List.length_replicate]; omega)]; omega)) ((List.Sublist.cons _ (List.Sublist.cons _ (List.Sublist.cons _ (List.Sublist.cons _ (List.Sublist.cons _ (List.Sublist.cons _ (List.Sublist.refl _)))))))) rfl rfl rfl ?_
                  refine ExD.fork (i := 13) (j := 23) rfl rfl (by kernel_rfl) rfl rfl (Op1.of_free (fr_loadN rfl rfl rfl rfl rfl (segAll (seg := encPh (phot (p.l.drop (i + 1) ++ List.replicate (i + 1) zMk))) (Reads.row (i := 1) rfl) (catP (i := i) (ph_len p) (by omega) rfl rfl) (fun h => absurd (show 16 = 0 from congrArg List.length h) (by decide)))) rfl rfl ⟨(List.Sublist.cons _ (List.Sublist.cons _ (List.Sublist.cons _ (List.Sublist.cons _ (List.Sublist.cons _ (List.Sublist.cons _ (List.Sublist.refl _))))))), ?_⟩) (Op1.of_free (fr_loadN rfl rfl rfl rfl rfl (segAll (seg := encD (dig ((dig (digs s v)).l.drop (i + 1) ++ List.replicate (i + 1) (0 : Int)))) (Reads.row (i := 0) rfl) (catD (i := i) (dig_len _) (by omega) rfl rfl) (fun h => absurd (show 8 = 0 from congrArg List.length h) (by decide)))) rfl rfl ⟨(List.Sublist.cons _ (List.Sublist.cons _ (List.Sublist.cons _ (List.Sublist.cons _ (List.Sublist.cons _ (List.Sublist.cons _ (List.Sublist.refl _))))))), ?_⟩)
                  · refine ExD.op (i := 23) rfl (by kernel_rfl) rfl (Op1.of_free (fr_loadN rfl rfl rfl rfl rfl (segAll (seg := encD (dig ((dig (digs s v)).l.drop (i + 1) ++ List.replicate (i + 1) (0 : Int)))) (Reads.row (i := 0) rfl) (catD (i := i) (dig_len _) (by omega) rfl rfl) (fun h => absurd (show 8 = 0 from congrArg List.length h) (by decide)))) rfl rfl ⟨(List.Sublist.cons _ (List.Sublist.cons _ (List.Sublist.cons _ (List.Sublist.cons _ (List.Sublist.cons _ (List.Sublist.cons _ (List.Sublist.refl _))))))), ?_⟩)
                    refine ExD.op (i := 24) rfl (by kernel_rfl) rfl (op_ret rfl rfl rfl (c_showsW (s.drop (i + 1)) _ _ (by rw [List.length_drop]; omega) (phot (p.l.drop (i + 1) ++ List.replicate (i + 1) zMk)) (okTail hp (by omega)) (dig ((dig (digs s v)).l.drop (i + 1) ++ List.replicate (i + 1) (0 : Int))) (dgTail hS hD (dig_len _) hil)) (Reads.get (Reads.dropL (Reads.old hs) (eI_len .u8) hcs (i + 1))) rfl rfl (fun x61 hx61 => ⟨(List.Sublist.cons _ (List.Sublist.cons _ (List.Sublist.cons _ (List.Sublist.cons _ (List.Sublist.cons _ (List.Sublist.cons _ (List.Sublist.refl _))))))), ?_⟩))
                    refine ExD.take (i := 25) rfl (by kernel_rfl) (pureVal_ok rfl) ((List.Sublist.cons _ (List.Sublist.cons _ (List.Sublist.cons _ (List.Sublist.cons _ (List.Sublist.cons _ (List.Sublist.cons _ (List.Sublist.refl _)))))))) rfl rfl rfl ?_
                    refine ExD.done (by kernel_rfl) ?_
                    exact ⟨⟨rfl, rfl, rfl, rfl, rfl, rfl, rfl, trivial⟩, 8, [6, 7], rfl, rfl⟩
                  · refine ExD.op (i := 13) rfl (by kernel_rfl) rfl (Op1.of_free (fr_loadN rfl rfl rfl rfl rfl (segAll (seg := encPh (phot (p.l.drop (i + 1) ++ List.replicate (i + 1) zMk))) (Reads.row (i := 1) rfl) (catP (i := i) (ph_len p) (by omega) rfl rfl) (fun h => absurd (show 16 = 0 from congrArg List.length h) (by decide)))) rfl rfl ⟨(List.Sublist.cons _ (List.Sublist.cons _ (List.Sublist.cons _ (List.Sublist.cons _ (List.Sublist.cons _ (List.Sublist.cons _ (List.Sublist.refl _))))))), ?_⟩)
                    refine ExD.op (i := 24) rfl (by kernel_rfl) rfl (op_ret rfl rfl rfl (c_showsW (s.drop (i + 1)) _ _ (by rw [List.length_drop]; omega) (phot (p.l.drop (i + 1) ++ List.replicate (i + 1) zMk)) (okTail hp (by omega)) (dig ((dig (digs s v)).l.drop (i + 1) ++ List.replicate (i + 1) (0 : Int))) (dgTail hS hD (dig_len _) hil)) (Reads.get (Reads.dropL (Reads.old hs) (eI_len .u8) hcs (i + 1))) rfl rfl (fun x62 hx62 => ⟨(List.Sublist.cons _ (List.Sublist.cons _ (List.Sublist.cons _ (List.Sublist.cons _ (List.Sublist.cons _ (List.Sublist.cons _ (List.Sublist.refl _))))))), ?_⟩))
                    refine ExD.take (i := 25) rfl (by kernel_rfl) (pureVal_ok rfl) ((List.Sublist.cons _ (List.Sublist.cons _ (List.Sublist.cons _ (List.Sublist.cons _ (List.Sublist.cons _ (List.Sublist.cons _ (List.Sublist.refl _)))))))) rfl rfl rfl ?_
                    refine ExD.done (by kernel_rfl) ?_
                    exact ⟨⟨rfl, rfl, rfl, rfl, rfl, rfl, rfl, trivial⟩, 8, [6, 7], rfl, rfl⟩
            · refine ExD.op (i := 10) rfl (by kernel_rfl) rfl (op_buildSlice (sz := 1) rfl rfl rfl rfl rfl rfl rfl rfl (by decide) rfl rfl rfl (fun r63 => ⟨(List.Sublist.cons _ (List.Sublist.cons _ (List.Sublist.cons _ (List.Sublist.cons _ (List.Sublist.refl _))))), ?_⟩))
              refine ExD.op (i := 11) rfl (by kernel_rfl) rfl (op_ret rfl rfl rfl (c_ConcatM ([⟨(cutA (some ⟨b1, 0, none⟩) 8 (i + 1) 2), (8 - (i + 1)), (p.l.drop (i + 1))⟩, ⟨(some ⟨r7, 0, none⟩), (List.replicate (i + 1) zMk).length, (List.replicate (i + 1) zMk)⟩] : List (VX VMk)) _ _ (by rw [catX_l (n := 8) (by show (List.drop _ _).length + (List.replicate _ _).length = 8; rw [List.length_drop, List.length_replicate]; omega)]; omega) (by show 2 ≤ 1000000; omega) (some2 cut_some (fun h => nomatch h))) (fun w hw => ⟨Reads.get (Reads.row (i := 0) rfl) w hw, reads2 (Reads.get (Reads.dropL (l := p.l) (c := 8) (Reads.blk (i := 5) rfl) encMk_len (by omega) (i + 1)) w hw) (Reads.get (readsZ (z := zMk) (i := 3) rfl rfl encMk_len rfl List.length_replicate) w hw)⟩) rfl rfl (fun x64 hx64 => ⟨(List.Sublist.cons _ (List.Sublist.cons _ (List.Sublist.cons _ (List.Sublist.cons _ (List.Sublist.cons _ (List.Sublist.refl _)))))), ?_⟩))
              refine ExD.take (i := 12) rfl (by kernel_rfl) (fr_sliceToArray (N := 8) rfl rfl rfl (by rw [catX_l (n := 8) (by show (List.drop _ _).length + (List.replicate _ _).length = 8; rw [List.length_drop, List.length_replicate]; omega)]; omega)) ((List.Sublist.cons _ (List.Sublist.cons _ (List.Sublist.cons _ (List.Sublist.cons _ (List.Sublist.cons _ (List.Sublist.refl _))))))) rfl rfl rfl ?_
              refine ExD.fork (i := 13) (j := 21) rfl rfl (by kernel_rfl) rfl rfl (Op1.of_free (fr_loadN rfl rfl rfl rfl rfl (segAll (seg := encPh (phot (p.l.drop (i + 1) ++ List.replicate (i + 1) zMk))) (Reads.row (i := 0) rfl) (catP (i := i) (ph_len p) (by omega) rfl rfl) (fun h => absurd (show 16 = 0 from congrArg List.length h) (by decide)))) rfl rfl ⟨(List.Sublist.cons _ (List.Sublist.cons _ (List.Sublist.cons _ (List.Sublist.cons _ (List.Sublist.cons _ (List.Sublist.refl _)))))), ?_⟩) (op_ret rfl rfl rfl (c_ConcatU ([⟨(cutA (some ⟨b3, 0, none⟩) 8 (i + 1) 1), (8 - (i + 1)), ((dig (digs s v)).l.drop (i + 1))⟩, ⟨(some ⟨r10, 0, none⟩), (List.replicate (i + 1) (0 : Int)).length, (List.replicate (i + 1) (0 : Int))⟩] : List (VX Int)) _ _ (by rw [catX_l (n := 8) (by show (List.drop _ _).length + (List.replicate _ _).length = 8; rw [List.length_drop, List.length_replicate]; omega)]; omega) (by show 2 ≤ 1000000; omega) (some2 cut_some (fun h => nomatch h))) (fun w hw => ⟨Reads.get (Reads.row (i := 2) rfl) w hw, reads2 (Reads.get (Reads.dropL (l := (dig (digs s v)).l) (c := 8) (Reads.blk (i := 5) rfl) (eI_len .u8) (by omega) (i + 1)) w hw) (Reads.get (readsZ (z := (0 : Int)) (i := 3) rfl rfl (eI_len .u8) rfl List.length_replicate) w hw)⟩) rfl rfl (fun x65 hx65 => ⟨(List.Sublist.cons _ (List.Sublist.cons _ (List.Sublist.cons _ (List.Sublist.cons _ (List.Sublist.cons _ (List.Sublist.cons _ (List.Sublist.refl _))))))), ?_⟩))
              · refine ExD.op (i := 21) rfl (by kernel_rfl) rfl (op_ret rfl rfl rfl (c_ConcatU ([⟨(cutA (some ⟨b3, 0, none⟩) 8 (i + 1) 1), (8 - (i + 1)), ((dig (digs s v)).l.drop (i + 1))⟩, ⟨(some ⟨r10, 0, none⟩), (List.replicate (i + 1) (0 : Int)).length, (List.replicate (i + 1) (0 : Int))⟩] : List (VX Int)) _ _ (by rw [catX_l (n := 8) (by show (List.drop _ _).length + (List.replicate _ _).length = 8; rw [List.length_drop, List.length_replicate]; omega)]; omega) (by show 2 ≤ 1000000; omega) (some2 cut_some (fun h => nomatch h))) (fun w hw => ⟨Reads.get (Reads.row (i := 2) rfl) w hw, reads2 (Reads.get (Reads.dropL (l := (dig (digs s v)).l) (c := 8) (Reads.blk (i := 5) rfl) (eI_len .u8) (by omega) (i + 1)) w hw) (Reads.get (readsZ (z := (0 : Int)) (i := 3) rfl rfl (eI_len .u8) rfl List.length_replicate) w hw)⟩) rfl rfl (fun x66 hx66 => ⟨(List.Sublist.cons _ (List.Sublist.cons _ (List.Sublist.cons _ (List.Sublist.cons _ (List.Sublist.cons _ (List.Sublist.cons _ (List.Sublist.refl _))))))), ?_⟩))
                refine ExD.take (i := 22) rfl (by kernel_rfl) (fr_sliceToArray (N := 8) rfl rfl rfl (by rw [catX_l (n := 8) (by show (List.drop _ _).length + (List.replicate _ _).length = 8; rw [List.length_drop, List.length_replicate]; omega)]; omega)) ((List.Sublist.cons _ (List.Sublist.cons _ (List.Sublist.cons _ (List.Sublist.cons _ (List.Sublist.cons _ (List.Sublist.cons _ (List.Sublist.refl _)))))))) rfl rfl rfl ?_
                refine ExD.op (i := 23) rfl (by kernel_rfl) rfl (Op1.of_free (fr_loadN rfl rfl rfl rfl rfl (segAll (seg := encD (dig ((dig (digs s v)).l.drop (i + 1) ++ List.replicate (i + 1) (0 : Int)))) (Reads.row (i := 0) rfl) (catD (i := i) (dig_len _) (by omega) rfl rfl) (fun h => absurd (show 8 = 0 from congrArg List.length h) (by decide)))) rfl rfl ⟨(List.Sublist.cons _ (List.Sublist.cons _ (List.Sublist.cons _ (List.Sublist.cons _ (List.Sublist.cons _ (List.Sublist.cons _ (List.Sublist.refl _))))))), ?_⟩)
                refine ExD.op (i := 24) rfl (by kernel_rfl) rfl (op_ret rfl rfl rfl (c_showsW (s.drop (i + 1)) _ _ (by rw [List.length_drop]; omega) (phot (p.l.drop (i + 1) ++ List.replicate (i + 1) zMk)) (okTail hp (by omega)) (dig ((dig (digs s v)).l.drop (i + 1) ++ List.replicate (i + 1) (0 : Int))) (dgTail hS hD (dig_len _) hil)) (Reads.get (Reads.dropL (Reads.old hs) (eI_len .u8) hcs (i + 1))) rfl rfl (fun x67 hx67 => ⟨(List.Sublist.cons _ (List.Sublist.cons _ (List.Sublist.cons _ (List.Sublist.cons _ (List.Sublist.cons _ (List.Sublist.cons _ (List.Sublist.refl _))))))), ?_⟩))
                refine ExD.take (i := 25) rfl (by kernel_rfl) (pureVal_ok rfl) ((List.Sublist.cons _ (List.Sublist.cons _ (List.Sublist.cons _ (List.Sublist.cons _ (List.Sublist.cons _ (List.Sublist.cons _ (List.Sublist.refl _)))))))) rfl rfl rfl ?_
                refine ExD.done (by kernel_rfl) ?_
                exact ⟨⟨rfl, rfl, rfl, rfl, rfl, rfl, rfl, trivial⟩, 8, [6, 7], rfl, rfl⟩
              · refine ExD.take (i := 22) rfl (by kernel_rfl) (fr_sliceToArray (N := 8) rfl rfl rfl (by rw [catX_l (n := 8) (by show (List.drop _ _).length + (List.replicate _ _).length = 8; rw [List.length_drop, List.length_replicate]; omega)]; omega)) ((List.Sublist.cons _ (List.Sublist.cons _ (List.Sublist.cons _ (List.Sublist.cons _ (List.Sublist.cons _ (List.Sublist.cons _ (List.Sublist.refl _)))))))) rfl rfl rfl ?_
                refine ExD.fork (i := 13) (j := 23) rfl rfl (by kernel_rfl) rfl rfl (Op1.of_free (fr_loadN rfl rfl rfl rfl rfl (segAll (seg := encPh (phot (p.l.drop (i + 1) ++ List.replicate (i + 1) zMk))) (Reads.row (i := 1) rfl) (catP (i := i) (ph_len p) (by omega) rfl rfl) (fun h => absurd (show 16 = 0 from congrArg List.length h) (by decide)))) rfl rfl ⟨(List.Sublist.cons _ (List.Sublist.cons _ (List.Sublist.cons _ (List.Sublist.cons _ (List.Sublist.cons _ (List.Sublist.cons _ (List.Sublist.refl _))))))), ?_⟩) (Op1.of_free (fr_loadN rfl rfl rfl rfl rfl (segAll (seg := encD (dig ((dig (digs s v)).l.drop (i + 1) ++ List.replicate (i + 1) (0 : Int)))) (Reads.row (i := 0) rfl) (catD (i := i) (dig_len _) (by omega) rfl rfl) (fun h => absurd (show 8 = 0 from congrArg List.length h) (by decide)))) rfl rfl ⟨(List.Sublist.cons _ (List.Sublist.cons _ (List.Sublist.cons _ (List.Sublist.cons _ (List.Sublist.cons _ (List.Sublist.cons _ (List.Sublist.refl _))))))), ?_⟩)
                · refine ExD.op (i := 23) rfl (by kernel_rfl) rfl (Op1.of_free (fr_loadN rfl rfl rfl rfl rfl (segAll (seg := encD (dig ((dig (digs s v)).l.drop (i + 1) ++ List.replicate (i + 1) (0 : Int)))) (Reads.row (i := 0) rfl) (catD (i := i) (dig_len _) (by omega) rfl rfl) (fun h => absurd (show 8 = 0 from congrArg List.length h) (by decide)))) rfl rfl ⟨(List.Sublist.cons _ (List.Sublist.cons _ (List.Sublist.cons _ (List.Sublist.cons _ (List.Sublist.cons _ (List.Sublist.cons _ (List.Sublist.refl _))))))), ?_⟩)
                  refine ExD.op (i := 24) rfl (by kernel_rfl) rfl (op_ret rfl rfl rfl (c_showsW (s.drop (i + 1)) _ _ (by rw [List.length_drop]; omega) (phot (p.l.drop (i + 1) ++ List.replicate (i + 1) zMk)) (okTail hp (by omega)) (dig ((dig (digs s v)).l.drop (i + 1) ++ List.replicate (i + 1) (0 : Int))) (dgTail hS hD (dig_len _) hil)) (Reads.get (Reads.dropL (Reads.old hs) (eI_len .u8) hcs (i + 1))) rfl rfl (fun x68 hx68 => ⟨(List.Sublist.cons _ (List.Sublist.cons _ (List.Sublist.cons _ (List.Sublist.cons _ (List.Sublist.cons _ (List.Sublist.cons _ (List.Sublist.refl _))))))), ?_⟩))
                  refine ExD.take (i := 25) rfl (by kernel_rfl) (pureVal_ok rfl) ((List.Sublist.cons _ (List.Sublist.cons _ (List.Sublist.cons _ (List.Sublist.cons _ (List.Sublist.cons _ (List.Sublist.cons _ (List.Sublist.refl _)))))))) rfl rfl rfl ?_
                  refine ExD.done (by kernel_rfl) ?_
                  exact ⟨⟨rfl, rfl, rfl, rfl, rfl, rfl, rfl, trivial⟩, 8, [6, 7], rfl, rfl⟩
                · refine ExD.op (i := 13) rfl (by kernel_rfl) rfl (Op1.of_free (fr_loadN rfl rfl rfl rfl rfl (segAll (seg := encPh (phot (p.l.drop (i + 1) ++ List.replicate (i + 1) zMk))) (Reads.row (i := 1) rfl) (catP (i := i) (ph_len p) (by omega) rfl rfl) (fun h => absurd (show 16 = 0 from congrArg List.length h) (by decide)))) rfl rfl ⟨(List.Sublist.cons _ (List.Sublist.cons _ (List.Sublist.cons _ (List.Sublist.cons _ (List.Sublist.cons _ (List.Sublist.cons _ (List.Sublist.refl _))))))), ?_⟩)
                  refine ExD.op (i := 24) rfl (by kernel_rfl) rfl (op_ret rfl rfl rfl (c_showsW (s.drop (i + 1)) _ _ (by rw [List.length_drop]; omega) (phot (p.l.drop (i + 1) ++ List.replicate (i + 1) zMk)) (okTail hp (by omega)) (dig ((dig (digs s v)).l.drop (i + 1) ++ List.replicate (i + 1) (0 : Int))) (dgTail hS hD (dig_len _) hil)) (Reads.get (Reads.dropL (Reads.old hs) (eI_len .u8) hcs (i + 1))) rfl rfl (fun x69 hx69 => ⟨(List.Sublist.cons _ (List.Sublist.cons _ (List.Sublist.cons _ (List.Sublist.cons _ (List.Sublist.cons _ (List.Sublist.cons _ (List.Sublist.refl _))))))), ?_⟩))
                  refine ExD.take (i := 25) rfl (by kernel_rfl) (pureVal_ok rfl) ((List.Sublist.cons _ (List.Sublist.cons _ (List.Sublist.cons _ (List.Sublist.cons _ (List.Sublist.cons _ (List.Sublist.cons _ (List.Sublist.refl _)))))))) rfl rfl rfl ?_
                  refine ExD.done (by kernel_rfl) ?_
                  exact ⟨⟨rfl, rfl, rfl, rfl, rfl, rfl, rfl, trivial⟩, 8, [6, 7], rfl, rfl⟩
        · refine ExD.fork (i := 9) (j := 20) rfl rfl (by kernel_rfl) rfl rfl (op_makeSlice (sz := 16) rfl rfl rfl rfl rfl rfl rfl rfl (⟨by omega, by unfold maxLen; omega⟩) rfl rfl (fun r70 => ⟨(List.Sublist.cons _ (List.Sublist.cons _ (List.Sublist.refl _))), ?_⟩)) (op_buildSlice (sz := 1) rfl rfl rfl rfl rfl rfl rfl rfl (by decide) rfl rfl rfl (fun r71 => ⟨(List.Sublist.cons _ (List.Sublist.cons _ (List.Sublist.refl _))), ?_⟩))
          · refine ExD.fork (i := 10) (j := 20) rfl rfl (by kernel_rfl) rfl rfl (op_buildSlice (sz := 1) rfl rfl rfl rfl rfl rfl rfl rfl (by decide) rfl rfl rfl (fun r72 => ⟨(List.Sublist.cons _ (List.Sublist.cons _ (List.Sublist.cons _ (List.Sublist.refl _)))), ?_⟩)) (op_buildSlice (sz := 1) rfl rfl rfl rfl rfl rfl rfl rfl (by decide) rfl rfl rfl (fun r73 => ⟨(List.Sublist.cons _ (List.Sublist.cons _ (List.Sublist.cons _ (List.Sublist.refl _)))), ?_⟩))
            · refine ExD.fork (i := 11) (j := 20) rfl rfl (by kernel_rfl) rfl rfl (op_ret rfl rfl rfl (c_ConcatM ([⟨(cutA (some ⟨b1, 0, none⟩) 8 (i + 1) 2), (8 - (i + 1)), (p.l.drop (i + 1))⟩, ⟨(some ⟨r70, 0, none⟩), (List.replicate (i + 1) zMk).length, (List.replicate (i + 1) zMk)⟩] : List (VX VMk)) _ _ (by rw [catX_l (n := 8) (by show (List.drop _ _).length + (List.replicate _ _).length = 8; rw [List.length_drop, List.length_replicate]; omega)]; omega) (by show 2 ≤ 1000000; omega) (some2 cut_some (fun h => nomatch h))) (fun w hw => ⟨Reads.get (Reads.row (i := 0) rfl) w hw, reads2 (Reads.get (Reads.dropL (l := p.l) (c := 8) (Reads.blk (i := 4) rfl) encMk_len (by omega) (i + 1)) w hw) (Reads.get (readsZ (z := zMk) (i := 1) rfl rfl encMk_len rfl List.length_replicate) w hw)⟩) rfl rfl (fun x74 hx74 => ⟨(List.Sublist.cons _ (List.Sublist.cons _ (List.Sublist.cons _ (List.Sublist.cons _ (List.Sublist.refl _))))), ?_⟩)) (op_buildSlice (sz := 1) rfl rfl rfl rfl rfl rfl rfl rfl (by decide) rfl rfl rfl (fun r75 => ⟨(List.Sublist.cons _ (List.Sublist.cons _ (List.Sublist.cons _ (List.Sublist.cons _ (List.Sublist.refl _))))), ?_⟩))
              · refine ExD.take (i := 12) rfl (by kernel_rfl) (fr_sliceToArray (N := 8) rfl rfl rfl (by rw [catX_l (n := 8) (by show (List.drop _ _).length + (List.replicate _ _).length = 8; rw [List.length_drop, List.length_replicate]; omega)]; omega)) ((List.Sublist.cons _ (List.Sublist.cons _ (List.Sublist.cons _ (List.Sublist.cons _ (List.Sublist.refl _)))))) rfl rfl rfl ?_
                refine ExD.fork (i := 13) (j := 20) rfl rfl (by kernel_rfl) rfl rfl (Op1.of_free (fr_loadN rfl rfl rfl rfl rfl (segAll (seg := encPh (phot (p.l.drop (i + 1) ++ List.replicate (i + 1) zMk))) (Reads.row (i := 0) rfl) (catP (i := i) (ph_len p) (by omega) rfl rfl) (fun h => absurd (show 16 = 0 from congrArg List.length h) (by decide)))) rfl rfl ⟨(List.Sublist.cons _ (List.Sublist.cons _ (List.Sublist.cons _ (List.Sublist.cons _ (List.Sublist.refl _))))), ?_⟩) (op_buildSlice (sz := 1) rfl rfl rfl rfl rfl rfl rfl rfl (by decide) rfl rfl rfl (fun r76 => ⟨(List.Sublist.cons _ (List.Sublist.cons _ (List.Sublist.cons _ (List.Sublist.cons _ (List.Sublist.cons _ (List.Sublist.refl _)))))), ?_⟩))
                · refine ExD.op (i := 20) rfl (by kernel_rfl) rfl (op_buildSlice (sz := 1) rfl rfl rfl rfl rfl rfl rfl rfl (by decide) rfl rfl rfl (fun r77 => ⟨(List.Sublist.cons _ (List.Sublist.cons _ (List.Sublist.cons _ (List.Sublist.cons _ (List.Sublist.cons _ (List.Sublist.refl _)))))), ?_⟩))
                  refine ExD.op (i := 21) rfl (by kernel_rfl) rfl (op_ret rfl rfl rfl (c_ConcatU ([⟨(cutA (some ⟨b3, 0, none⟩) 8 (i + 1) 1), (8 - (i + 1)), ((dig (digs s v)).l.drop (i + 1))⟩, ⟨(some ⟨r8, 0, none⟩), (List.replicate (i + 1) (0 : Int)).length, (List.replicate (i + 1) (0 : Int))⟩] : List (VX Int)) _ _ (by rw [catX_l (n := 8) (by show (List.drop _ _).length + (List.replicate _ _).length = 8; rw [List.length_drop, List.length_replicate]; omega)]; omega) (by show 2 ≤ 1000000; omega) (some2 cut_some (fun h => nomatch h))) (fun w hw => ⟨Reads.get (Reads.row (i := 0) rfl) w hw, reads2 (Reads.get (Reads.dropL (l := (dig (digs s v)).l) (c := 8) (Reads.blk (i := 5) rfl) (eI_len .u8) (by omega) (i + 1)) w hw) (Reads.get (readsZ (z := (0 : Int)) (i := 4) rfl rfl (eI_len .u8) rfl List.length_replicate) w hw)⟩) rfl rfl (fun x78 hx78 => ⟨(List.Sublist.cons _ (List.Sublist.cons _ (List.Sublist.cons _ (List.Sublist.cons _ (List.Sublist.cons _ (List.Sublist.cons _ (List.Sublist.refl _))))))), ?_⟩))
                  refine ExD.take (i := 22) rfl (by kernel_rfl) (fr_sliceToArray (N := 8) rfl rfl rfl (by rw [catX_l (n := 8) (by show (List.drop _ _).length + (List.replicate _ _).length = 8; rw [List.length_drop, List.length_replicate]; omega)]; omega)) ((List.Sublist.cons _ (List.Sublist.cons _ (List.Sublist.cons _ (List.Sublist.cons _ (List.Sublist.cons _ (List.Sublist.cons _ (List.Sublist.refl _)))))))) rfl rfl rfl ?_
                  refine ExD.op (i := 23) rfl (by kernel_rfl) rfl (Op1.of_free (fr_loadN rfl rfl rfl rfl rfl (segAll (seg := encD (dig ((dig (digs s v)).l.drop (i + 1) ++ List.replicate (i + 1) (0 : Int)))) (Reads.row (i := 0) rfl) (catD (i := i) (dig_len _) (by omega) rfl rfl) (fun h => absurd (show 8 = 0 from congrArg List.length h) (by decide)))) rfl rfl ⟨(List.Sublist.cons _ (List.Sublist.cons _ (List.Sublist.cons _ (List.Sublist.cons _ (List.Sublist.cons _ (List.Sublist.cons _ (List.Sublist.refl _))))))), ?_⟩)
                  refine ExD.op (i := 24) rfl (by kernel_rfl) rfl (op_ret rfl rfl rfl (c_showsW (s.drop (i + 1)) _ _ (by rw [List.length_drop]; omega) (phot (p.l.drop (i + 1) ++ List.replicate (i + 1) zMk)) (okTail hp (by omega)) (dig ((dig (digs s v)).l.drop (i + 1) ++ List.replicate (i + 1) (0 : Int))) (dgTail hS hD (dig_len _) hil)) (Reads.get (Reads.dropL (Reads.old hs) (eI_len .u8) hcs (i + 1))) rfl rfl (fun x79 hx79 => ⟨(List.Sublist.cons _ (List.Sublist.cons _ (List.Sublist.cons _ (List.Sublist.cons _ (List.Sublist.cons _ (List.Sublist.cons _ (List.Sublist.refl _))))))), ?_⟩))
                  refine ExD.take (i := 25) rfl (by kernel_rfl) (pureVal_ok rfl) ((List.Sublist.cons _ (List.Sublist.cons _ (List.Sublist.cons _ (List.Sublist.cons _ (List.Sublist.cons _ (List.Sublist.cons _ (List.Sublist.refl _)))))))) rfl rfl rfl ?_
                  refine ExD.done (by kernel_rfl) ?_
                  exact ⟨⟨rfl, rfl, rfl, rfl, rfl, rfl, rfl, trivial⟩, 8, [6, 7], rfl, rfl⟩
                · refine ExD.fork (i := 13) (j := 21) rfl rfl (by kernel_rfl) rfl rfl (Op1.of_free (fr_loadN rfl rfl rfl rfl rfl (segAll (seg := encPh (phot (p.l.drop (i + 1) ++ List.replicate (i + 1) zMk))) (Reads.row (i := 1) rfl) (catP (i := i) (ph_len p) (by omega) rfl rfl) (fun h => absurd (show 16 = 0 from congrArg List.length h) (by decide)))) rfl rfl ⟨(List.Sublist.cons _ (List.Sublist.cons _ (List.Sublist.cons _ (List.Sublist.cons _ (List.Sublist.cons _ (List.Sublist.refl _)))))), ?_⟩) (op_ret rfl rfl rfl (c_ConcatU ([⟨(cutA (some ⟨b3, 0, none⟩) 8 (i + 1) 1), (8 - (i + 1)), ((dig (digs s v)).l.drop (i + 1))⟩, ⟨(some ⟨r8, 0, none⟩), (List.replicate (i + 1) (0 : Int)).length, (List.replicate (i + 1) (0 : Int))⟩] : List (VX Int)) _ _ (by rw [catX_l (n := 8) (by show (List.drop _ _).length + (List.replicate _ _).length = 8; rw [List.length_drop, List.length_replicate]; omega)]; omega) (by show 2 ≤ 1000000; omega) (some2 cut_some (fun h => nomatch h))) (fun w hw => ⟨Reads.get (Reads.row (i := 0) rfl) w hw, reads2 (Reads.get (Reads.dropL (l := (dig (digs s v)).l) (c := 8) (Reads.blk (i := 5) rfl) (eI_len .u8) (by omega) (i + 1)) w hw) (Reads.get (readsZ (z := (0 : Int)) (i := 4) rfl rfl (eI_len .u8) rfl List.length_replicate) w hw)⟩) rfl rfl (fun x80 hx80 => ⟨(List.Sublist.cons _ (List.Sublist.cons _ (List.Sublist.cons _ (List.Sublist.cons _ (List.Sublist.cons _ (List.Sublist.cons _ (List.Sublist.refl _))))))), ?_⟩))
                  · refine ExD.op (i := 21) rfl (by kernel_rfl) rfl (op_ret rfl rfl rfl (c_ConcatU ([⟨(cutA (some ⟨b3, 0, none⟩) 8 (i + 1) 1), (8 - (i + 1)), ((dig (digs s v)).l.drop (i + 1))⟩, ⟨(some ⟨r8, 0, none⟩), (List.replicate (i + 1) (0 : Int)).length, (List.replicate (i + 1) (0 : Int))⟩] : List (VX Int)) _ _ (by rw [catX_l (n := 8) (by show (List.drop _ _).length + (List.replicate _ _).length = 8; rw [List.length_drop, List.length_replicate]; omega)]; omega) (by show 2 ≤ 1000000; omega) (some2 cut_some (fun h => nomatch h))) (fun w hw => ⟨Reads.get (Reads.row (i := 0) rfl) w hw, reads2 (Reads.get (Reads.dropL (l := (dig (digs s v)).l) (c := 8) (Reads.blk (i := 5) rfl) (eI_len .u8) (by omega) (i + 1)) w hw) (Reads.get (readsZ (z := (0 : Int)) (i := 4) rfl rfl (eI_len .u8) rfl List.length_replicate) w hw)⟩) rfl rfl (fun x81 hx81 => ⟨(List.Sublist.cons _ (List.Sublist.cons _ (List.Sublist.cons _ (List.Sublist.cons _ (List.Sublist.cons _ (List.Sublist.cons _ (List.Sublist.refl _))))))), ?_⟩))
                    refine ExD.take (i := 22) rfl (by kernel_rfl) (fr_sliceToArray (N := 8) rfl rfl rfl (by rw [catX_l (n := 8) (by show (List.drop _ _).length + (List.replicate _ _).length = 8; rw [List.length_drop, List.length_replicate]; omega)]; omega)) ((List.Sublist.cons _ (List.Sublist.cons _ (List.Sublist.cons _ (List.Sublist.cons _ (List.Sublist.cons _ (List.Sublist.cons _ (List.Sublist.refl _)))))))) rfl rfl rfl ?_
                    refine ExD.op (i := 23) rfl (by kernel_rfl) rfl (Op1.of_free (fr_loadN rfl rfl rfl rfl rfl (segAll (seg := encD (dig ((dig (digs s v)).l.drop (i + 1) ++ List.replicate (i + 1) (0 : Int)))) (Reads.row (i := 0) rfl) (catD (i := i) (dig_len _) (by omega) rfl rfl) (fun h => absurd (show 8 = 0 from congrArg List.length h) (by decide)))) rfl rfl ⟨(List.Sublist.cons _ (List.Sublist.cons _ (List.Sublist.cons _ (List.Sublist.cons _ (List.Sublist.cons _ (List.Sublist.cons _ (List.Sublist.refl _))))))), ?_⟩)
                    refine ExD.op (i := 24) rfl (by kernel_rfl) rfl (op_ret rfl rfl rfl (c_showsW (s.drop (i + 1)) _ _ (by rw [List.length_drop]; omega) (phot (p.l.drop (i + 1) ++ List.replicate (i + 1) zMk)) (okTail hp (by omega)) (dig ((dig (digs s v)).l.drop (i + 1) ++ List.replicate (i + 1) (0 : Int))) (dgTail hS hD (dig_len _) hil)) (Reads.get (Reads.dropL (Reads.old hs) (eI_len .u8) hcs (i + 1))) rfl rfl (fun x82 hx82 => ⟨(List.Sublist.cons _ (List.Sublist.cons _ (List.Sublist.cons _ (List.Sublist.cons _ (List.Sublist.cons _ (List.Sublist.cons _ (List.Sublist.refl _))))))), ?_⟩))
                    refine ExD.take (i := 25) rfl (by kernel_rfl) (pureVal_ok rfl) ((List.Sublist.cons _ (List.Sublist.cons _ (List.Sublist.cons _ (List.Sublist.cons _ (List.Sublist.cons _ (List.Sublist.cons _ (List.Sublist.refl _)))))))) rfl rfl rfl ?_
                    refine ExD.done (by kernel_rfl) ?_
                    exact ⟨⟨rfl, rfl, rfl, rfl, rfl, rfl, rfl, trivial⟩, 8, [6, 7], rfl, rfl⟩
                  · refine ExD.take (i := 22) rfl (by kernel_rfl) (fr_sliceToArray (N := 8) rfl rfl rfl (by rw [catX_l (n := 8) (by show (List.drop _ _).length + (List.replicate _ _).length = 8; rw [List.length_drop, List.length_replicate]; omega)]; omega)) ((List.Sublist.cons _ (List.Sublist.cons _ (List.Sublist.cons _ (List.Sublist.cons _ (List.Sublist.cons _ (List.Sublist.cons _ (List.Sublist.refl _)))))))) rfl rfl rfl ?_
                    refine ExD.fork (i := 13) (j := 23) rfl rfl (by kernel_rfl) rfl rfl (Op1.of_free (fr_loadN rfl rfl rfl rfl rfl (segAll (seg := encPh (phot (p.l.drop (i + 1) ++ List.replicate (i + 1) zMk))) (Reads.row (i := 2) rfl) (catP (i := i) (ph_len p) (by omega) rfl rfl) (fun h => absurd (show 16 = 0 from congrArg List.length h) (by decide)))) rfl rfl ⟨(List.Sublist.cons _ (List.Sublist.cons _ (List.Sublist.cons _ (List.Sublist.cons _ (List.Sublist.cons _ (List.Sublist.cons _ (List.Sublist.refl _))))))), ?_⟩) (Op1.of_free (fr_loadN rfl rfl rfl rfl rfl (segAll (seg := encD (dig ((dig (digs s v)).l.drop (i + 1) ++ List.replicate (i + 1) (0 : Int)))) (Reads.row (i := 0) rfl) (catD (i := i) (dig_len _) (by omega) rfl rfl) (fun h => absurd (show 8 = 0 from congrArg List.length h) (by decide)))) rfl rfl ⟨(List.Sublist.cons _ (List.Sublist.cons _ (List.Sublist.cons _ (List.Sublist.cons _ (List.Sublist.cons _ (List.Sublist.cons _ (List.Sublist.refl _))))))), ?_⟩)
                    · refine ExD.op (i := 23) rfl (by kernel_rfl) rfl (Op1.of_free (fr_loadN rfl rfl rfl rfl rfl (segAll (seg := encD (dig ((dig (digs s v)).l.drop (i + 1) ++ List.replicate (i + 1) (0 : Int)))) (Reads.row (i := 0) rfl) (catD (i := i) (dig_len _) (by omega) rfl rfl) (fun h => absurd (show 8 = 0 from congrArg List.length h) (by decide)))) rfl rfl ⟨(List.Sublist.cons _ (List.Sublist.cons _ (List.Sublist.cons _ (List.Sublist.cons _ (List.Sublist.cons _ (List.Sublist.cons _ (List.Sublist.refl _))))))), ?_⟩)
                      refine ExD.op (i := 24) rfl (by kernel_rfl) rfl (op_ret rfl rfl rfl (c_showsW (s.drop (i + 1)) _ _ (by rw [List.length_drop]; omega) (phot (p.l.drop (i + 1) ++ List.replicate (i + 1) zMk)) (okTail hp (by omega)) (dig ((dig (digs s v)).l.drop (i + 1) ++ List.replicate (i + 1) (0 : Int))) (dgTail hS hD (dig_len _) hil)) (Reads.get (Reads.dropL (Reads.old hs) (eI_len .u8) hcs (i + 1))) rfl rfl (fun x83 hx83 => ⟨(List.Sublist.cons _ (List.Sublist.cons _ (List.Sublist.cons _ (List.Sublist.cons _ (List.Sublist.cons _ (List.Sublist.cons _ (List.Sublist.refl _))))))), ?_⟩))
                      refine ExD.take (i := 25) rfl (by kernel_rfl) (pureVal_ok rfl) ((List.Sublist.cons _ (List.Sublist.cons _ (List.Sublist.cons _ (List.Sublist.cons _ (List.Sublist.cons _ (List.Sublist.cons _ (List.Sublist.refl _)))))))) rfl rfl rfl ?_
                      refine ExD.done (by kernel_rfl) ?_
                      exact ⟨⟨rfl, rfl, rfl, rfl, rfl, rfl, rfl, trivial⟩, 8, [6, 7], rfl, rfl⟩
                    · refine ExD.op (i := 13) rfl (by kernel_rfl) rfl (Op1.of_free (fr_loadN rfl rfl rfl rfl rfl (segAll (seg := encPh (phot (p.l.drop (i + 1) ++ List.replicate (i + 1) zMk))) (Reads.row (i := 2) rfl) (catP (i := i) (ph_len p) (by omega) rfl rfl) (fun h => absurd (show 16 = 0 from congrArg List.length h) (by decide)))) rfl rfl ⟨(List.Sublist.cons _ (List.Sublist.cons _ (List.Sublist.cons _ (List.Sublist.cons _ (List.Sublist.cons _ (List.Sublist.cons _ (List.Sublist.refl _))))))), ?_⟩)
                      refine ExD.op (i := 24) rfl (by kernel_rfl) rfl (op_ret rfl rfl rfl (c_showsW (s.drop (i + 1)) _ _ (by rw [List.length_drop]; omega) (phot (p.l.drop (i + 1) ++ List.replicate (i + 1) zMk)) (okTail hp (by omega)) (dig ((dig (digs s v)).l.drop (i + 1) ++ List.replicate (i + 1) (0 : Int))) (dgTail hS hD (dig_len _) hil)) (Reads.get (Reads.dropL (Reads.old hs) (eI_len .u8) hcs (i + 1))) rfl rfl (fun x84 hx84 => ⟨(List.Sublist.cons _ (List.Sublist.cons _ (List.Sublist.cons _ (List.Sublist.cons _ (List.Sublist.cons _ (List.Sublist.cons _ (List.Sublist.refl _))))))), ?_⟩))
                      refine ExD.take (i := 25) rfl (by kernel_rfl) (pureVal_ok rfl) ((List.Sublist.cons _ (List.Sublist.cons _ (List.Sublist.cons _ (List.Sublist.cons _ (List.Sublist.cons _ (List.Sublist.cons _ (List.Sublist.refl _)))))))) rfl rfl rfl ?_
                      refine ExD.done (by kernel_rfl) ?_
                      exact ⟨⟨rfl, rfl, rfl, rfl, rfl, rfl, rfl, trivial⟩, 8, [6, 7], rfl, rfl⟩
              · refine ExD.op (i := 11) rfl (by kernel_rfl) rfl (op_ret rfl rfl rfl (c_ConcatM ([⟨(cutA (some ⟨b1, 0, none⟩) 8 (i + 1) 2), (8 - (i + 1)), (p.l.drop (i + 1))⟩, ⟨(some ⟨r70, 0, none⟩), (List.replicate (i + 1) zMk).length, (List.replicate (i + 1) zMk)⟩] : List (VX VMk)) _ _ (by rw [catX_l (n := 8) (by show (List.drop _ _).length + (List.replicate _ _).length = 8; rw [List.length_drop, List.length_replicate]; omega)]; omega) (by show 2 ≤ 1000000; omega) (some2 cut_some (fun h => nomatch h))) (fun w hw => ⟨Reads.get (Reads.row (i := 1) rfl) w hw, reads2 (Reads.get (Reads.dropL (l := p.l) (c := 8) (Reads.blk (i := 5) rfl) encMk_len (by omega) (i + 1)) w hw) (Reads.get (readsZ (z := zMk) (i := 2) rfl rfl encMk_len rfl List.length_replicate) w hw)⟩) rfl rfl (fun x85 hx85 => ⟨(List.Sublist.cons _ (List.Sublist.cons _ (List.Sublist.cons _ (List.Sublist.cons _ (List.Sublist.cons _ (List.Sublist.refl _)))))), ?_⟩))
                refine ExD.take (i := 12) rfl (by kernel_rfl) (fr_sliceToArray (N := 8) rfl rfl rfl (by rw [catX_l (n := 8) (by show (List.drop _ _).length + (List.replicate _ _).length = 8; rw [List.length_drop, List.length_replicate]; omega)]; omega)) ((List.Sublist.cons _ (List.Sublist.cons _ (List.Sublist.cons _ (List.Sublist.cons _ (List.Sublist.cons _ (List.Sublist.refl _))))))) rfl rfl rfl ?_
                refine ExD.fork (i := 13) (j := 21) rfl rfl (by kernel_rfl) rfl rfl (Op1.of_free (fr_loadN rfl rfl rfl rfl rfl (segAll (seg := encPh (phot (p.l.drop (i + 1) ++ List.replicate (i + 1) zMk))) (Reads.row (i := 0) rfl) (catP (i := i) (ph_len p) (by omega) rfl rfl) (fun h => absurd (show 16 = 0 from congrArg List.length h) (by decide)))) rfl rfl ⟨(List.Sublist.cons _ (List.Sublist.cons _ (List.Sublist.cons _ (List.Sublist.cons _ (List.Sublist.cons _ (List.Sublist.refl _)))))), ?_⟩) (op_ret rfl rfl rfl (c_ConcatU ([⟨(cutA (some ⟨b3, 0, none⟩) 8 (i + 1) 1), (8 - (i + 1)), ((dig (digs s v)).l.drop (i + 1))⟩, ⟨(some ⟨r8, 0, none⟩), (List.replicate (i + 1) (0 : Int)).length, (List.replicate (i + 1) (0 : Int))⟩] : List (VX Int)) _ _ (by rw [catX_l (n := 8) (by show (List.drop _ _).length + (List.replicate _ _).length = 8; rw [List.length_drop, List.length_replicate]; omega)]; omega) (by show 2 ≤ 1000000; omega) (some2 cut_some (fun h => nomatch h))) (fun w hw => ⟨Reads.get (Reads.row (i := 1) rfl) w hw, reads2 (Reads.get (Reads.dropL (l := (dig (digs s v)).l) (c := 8) (Reads.blk (i := 5) rfl) (eI_len .u8) (by omega) (i + 1)) w hw) (Reads.get (readsZ (z := (0 : Int)) (i := 4) rfl rfl (eI_len .u8) rfl List.length_replicate) w hw)⟩) rfl rfl (fun x86 hx86 => ⟨(List.Sublist.cons _ (List.Sublist.cons _ (List.Sublist.cons _ (List.Sublist.cons _ (List.Sublist.cons _ (List.Sublist.cons _ (List.Sublist.refl _))))))), ?_⟩))
                · refine ExD.op (i := 21) rfl (by kernel_rfl) rfl (op_ret rfl rfl rfl (c_ConcatU ([⟨(cutA (some ⟨b3, 0, none⟩) 8 (i + 1) 1), (8 - (i + 1)), ((dig (digs s v)).l.drop (i + 1))⟩, ⟨(some ⟨r8, 0, none⟩), (List.replicate (i + 1) (0 : Int)).length, (List.replicate (i + 1) (0 : Int))⟩] : List (VX Int)) _ _ (by rw [catX_l (n := 8) (by show (List.drop _ _).length + (List.replicate _ _).length = 8; rw [List.length_drop, List.length_replicate]; omega)]; omega) (by show 2 ≤ 1000000; omega) (some2 cut_some (fun h => nomatch h))) (fun w hw => ⟨Reads.get (Reads.row (i := 1) rfl) w hw, reads2 (Reads.get (Reads.dropL (l := (dig (digs s v)).l) (c := 8) (Reads.blk (i := 5) rfl) (eI_len .u8) (by omega) (i + 1)) w hw) (Reads.get (readsZ (z := (0 : Int)) (i := 4) rfl rfl (eI_len .u8) rfl List.length_replicate) w hw)⟩) rfl rfl (fun x87 hx87 => ⟨(List.Sublist.cons _ (List.Sublist.cons _ (List.Sublist.cons _ (List.Sublist.cons _ (List.Sublist.cons _ (List.Sublist.cons _ (List.Sublist.refl _))))))), ?_⟩))
                  refine ExD.take (i := 22) rfl (by kernel_rfl) (fr_sliceToArray (N := 8) rfl rfl rfl (by rw [catX_l (n := 8) (by show (List.drop _ _).length + (List.replicate _ _).length = 8; rw [List.length_drop, List.length_replicate]; omega)]; omega)) ((List.Sublist.cons _ (List.Sublist.cons _ (List.Sublist.cons _ (List.Sublist.cons _ (List.Sublist.cons _ (List.Sublist.cons _ (List.Sublist.refl _)))))))) rfl rfl rfl ?_
                  refine ExD.op (i := 23) rfl (by kernel_rfl) rfl (Op1.of_free (fr_loadN rfl rfl rfl rfl rfl (segAll (seg := encD (dig ((dig (digs s v)).l.drop (i + 1) ++ List.replicate (i + 1) (0 : Int)))) (Reads.row (i := 0) rfl) (catD (i := i) (dig_len _) (by omega) rfl rfl) (fun h => absurd (show 8 = 0 from congrArg List.length h) (by decide)))) rfl rfl ⟨(List.Sublist.cons _ (List.Sublist.cons _ (List.Sublist.cons _ (List.Sublist.cons _ (List.Sublist.cons _ (List.Sublist.cons _ (List.Sublist.refl _))))))), ?_⟩)
                  refine ExD.op (i := 24) rfl (by kernel_rfl) rfl (op_ret rfl rfl rfl (c_showsW (s.drop (i + 1)) _ _ (by rw [List.length_drop]; omega) (phot (p.l.drop (i + 1) ++ List.replicate (i + 1) zMk)) (okTail hp (by omega)) (dig ((dig (digs s v)).l.drop (i + 1) ++ List.replicate (i + 1) (0 : Int))) (dgTail hS hD (dig_len _) hil)) (Reads.get (Reads.dropL (Reads.old hs) (eI_len .u8) hcs (i + 1))) rfl rfl (fun x88 hx88 => ⟨(List.Sublist.cons _ (List.Sublist.cons _ (List.Sublist.cons _ (List.Sublist.cons _ (List.Sublist.cons _ (List.Sublist.cons _ (List.Sublist.refl _))))))), ?_⟩))
                  refine ExD.take (i := 25) rfl (by kernel_rfl) (pureVal_ok rfl) ((List.Sublist.cons _ (List.Sublist.cons _ (List.Sublist.cons _ (List.Sublist.cons _ (List.Sublist.cons _ (List.Sublist.cons _ (List.Sublist.refl _)))))))) rfl rfl rfl ?_
                  refine ExD.done (by kernel_rfl) ?_
                  exact ⟨⟨rfl, rfl, rfl, rfl, rfl, rfl, rfl, trivial⟩, 8, [6, 7], rfl, rfl⟩
                · refine ExD.take (i := 22) rfl (by kernel_rfl) (fr_sliceToArray (N := 8) rfl rfl rfl (by rw [catX_l (n := 8) (by show (List.drop _ _).length + (List.replicate _ _).length = 8; rw [List.length_drop, List.length_replicate]; omega)]; omega)) ((List.Sublist.cons _ (List.Sublist.cons _ (List.Sublist.cons _ (List.Sublist.cons _ (List.Sublist.cons _ (List.Sublist.cons _ (List.Sublist.refl _)))))))) rfl rfl rfl ?_
                  refine ExD.fork (i := 13) (j := 23) rfl rfl (by kernel_rfl) rfl rfl (Op1.of_free (fr_loadN rfl rfl rfl rfl rfl (segAll (seg := encPh (phot (p.l.drop (i + 1) ++ List.replicate (i + 1) zMk))) (Reads.row (i := 1) rfl) (catP (i := i) (ph_len p) (by omega) rfl rfl) (fun h => absurd (show 16 = 0 from congrArg List.length h) (by decide)))) rfl rfl ⟨(List.Sublist.cons _ (List.Sublist.cons _ (List.Sublist.cons _ (List.Sublist.cons _ (List.Sublist.cons _ (List.Sublist.cons _ (List.Sublist.refl _))))))), ?_⟩) (Op1.of_free (fr_loadN rfl rfl rfl rfl rfl (segAll (seg := encD (dig ((dig (digs s v)).l.drop (i + 1) ++ List.replicate (i + 1) (0 : Int)))) (Reads.row (i := 0) rfl) (catD (i := i) (dig_len _) (by omega) rfl rfl) (fun h => absurd (show 8 = 0 from congrArg List.length h) (by decide)))) rfl rfl ⟨(List.Sublist.cons _ (List.Sublist.cons _ (List.Sublist.cons _ (List.Sublist.cons _ (List.Sublist.cons _ (List.Sublist.cons _ (List.Sublist.refl _))))))), ?_⟩)
                  · refine ExD.op (i := 23) rfl (by kernel_rfl) rfl (Op1.of_free (fr_loadN rfl rfl rfl rfl rfl (segAll (seg := encD (dig ((dig (digs s v)).l.drop (i + 1) ++ List.replicate (i + 1) (0 : Int)))) (Reads.row (i := 0) rfl) (catD (i := i) (dig_len _) (by omega) rfl rfl) (fun h => absurd (show 8 = 0 from congrArg List.length h) (by decide)))) rfl rfl ⟨(List.Sublist.cons _ (List.Sublist.cons _ (List.Sublist.cons _ (List.Sublist.cons _ (List.Sublist.cons _ (List.Sublist.cons _ (List.Sublist.refl _))))))), ?_⟩)
                    refine ExD.op (i := 24) rfl (by kernel_rfl) rfl (op_ret rfl rfl rfl (c_showsW (s.drop (i + 1)) _ _ (by rw [List.length_drop]; omega) (phot (p.l.drop (i + 1) ++ List.replicate (i + 1) zMk)) (okTail hp (by omega)) (dig ((dig (digs s v)).l.drop (i + 1) ++ List.replicate (i + 1) (0 : Int))) (dgTail hS hD (dig_len _) hil)) (Reads.get (Reads.dropL (Reads.old hs) (eI_len .u8) hcs (i + 1))) rfl rfl (fun x89 hx89 => ⟨(List.Sublist.cons _ (List.Sublist.cons _ (List.Sublist.cons _ (List.Sublist.cons _ (List.Sublist.cons _ (List.Sublist.cons _ (List.Sublist.refl _))))))), ?_⟩))
                    refine ExD.take (i := 25) rfl (by kernel_rfl) (pureVal_ok rfl) ((List.Sublist.cons _ (List.Sublist.cons _ (List.Sublist.cons _ (List.Sublist.cons _ (List.Sublist.cons _ (List.Sublist.cons _ (List.Sublist.refl _)))))))) rfl rfl rfl ?_
                    refine ExD.done (by kernel_rfl) ?_
                    exact ⟨⟨rfl, rfl, rfl, rfl, rfl, rfl, rfl, trivial⟩, 8, [6, 7], rfl, rfl⟩
                  · refine ExD.op (i := 13) rfl (by kernel_rfl) rfl (Op1.of_free (fr_loadN rfl rfl rfl rfl rfl (segAll (seg := encPh (phot (p.l.drop (i + 1) ++ List.replicate (i + 1) zMk))) (Reads.row (i := 1) rfl) (catP (i := i) (ph_len p) (by omega) rfl rfl) (fun h => absurd (show 16 = 0 from congrArg List.length h) (by decide)))) rfl rfl ⟨(List.Sublist.cons _ (List.Sublist.cons _ (List.Sublist.cons _ (List.Sublist.cons _ (List.Sublist.cons _ (List.Sublist.cons _ (List.Sublist.refl _))))))), ?_⟩)
                    refine ExD.op (i := 24) rfl (by kernel_rfl) rfl (op_ret rfl rfl rfl (c_showsW (s.drop (i + 1)) _ _ (by rw [List.length_drop]; omega) (phot (p.l.drop (i + 1) ++ List.replicate (i + 1) zMk)) (okTail hp (by omega)) (dig ((dig (digs s v)).l.drop (i + 1) ++ List.replicate (i + 1) (0 : Int))) (dgTail hS hD (dig_len _) hil)) (Reads.get (Reads.dropL (Reads.old hs) (eI_len .u8) hcs (i + 1))) rfl rfl (fun x90 hx90 => ⟨(List.Sublist.cons _ (List.Sublist.cons _ (List.Sublist.cons _ (List.Sublist.cons _ (List.Sublist.cons _ (List.Sublist.cons _ (List.Sublist.refl _))))))), ?_⟩))
                    refine ExD.take (i := 25) rfl (by kernel_rfl) (pureVal_ok rfl) ((List.Sublist.cons _ (List.Sublist.cons _ (List.Sublist.cons _ (List.Sublist.cons _ (List.Sublist.cons _ (List.Sublist.cons _ (List.Sublist.refl _)))))))) rfl rfl rfl ?_
                    refine ExD.done (by kernel_rfl) ?_
                    exact ⟨⟨rfl, rfl, rfl, rfl, rfl, rfl, rfl, trivial⟩, 8, [6, 7], rfl, rfl⟩
            · refine ExD.op (i := 10) rfl (by kernel_rfl) rfl (op_buildSlice (sz := 1) rfl rfl rfl rfl rfl rfl rfl rfl (by decide) rfl rfl rfl (fun r91 => ⟨(List.Sublist.cons _ (List.Sublist.cons _ (List.Sublist.cons _ (List.Sublist.cons _ (List.Sublist.refl _))))), ?_⟩))
              refine ExD.op (i := 11) rfl (by kernel_rfl) rfl (op_ret rfl rfl rfl (c_ConcatM ([⟨(cutA (some ⟨b1, 0, none⟩) 8 (i + 1) 2), (8 - (i + 1)), (p.l.drop (i + 1))⟩, ⟨(some ⟨r70, 0, none⟩), (List.replicate (i + 1) zMk).length, (List.replicate (i + 1) zMk)⟩] : List (VX VMk)) _ _ (by rw [catX_l (n := 8) (by show (List.drop _ _).length + (List.replicate _ _).length = 8; rw [List.length_drop, List.length_replicate]; omega)]; omega) (by show 2 ≤ 1000000; omega) (some2 cut_some (fun h => nomatch h))) (fun w hw => ⟨Reads.get (Reads.row (i := 0) rfl) w hw, reads2 (Reads.get (Reads.dropL (l := p.l) (c := 8) (Reads.blk (i := 5) rfl) encMk_len (by omega) (i + 1)) w hw) (Reads.get (readsZ (z := zMk) (i := 2) rfl rfl encMk_len rfl List.length_replicate) w hw)⟩) rfl rfl (fun x92 hx92 => ⟨(List.Sublist.cons _ (List.Sublist.cons _ (List.Sublist.cons _ (List.Sublist.cons _ (List.Sublist.cons _ (List.Sublist.refl _)))))), ?_⟩))
              refine ExD.take (i := 12) rfl (by kernel_rfl) (fr_sliceToArray (N := 8) rfl rfl rfl (by rw [catX_l (n := 8) (by show (List.drop _ _).length + (List.replicate _ _).length = 8; rw [List.length_drop, List.length_replicate]; omega)]; omega)) ((List.Sublist.cons _ (List.Sublist.cons _ (List.Sublist.cons _ (List.Sublist.cons _ (List.Sublist.cons _ (List.Sublist.refl _))))))) rfl rfl rfl ?_
              refine ExD.fork (i := 13) (j := 21) rfl rfl (by kernel_rfl) rfl rfl (Op1.of_free (fr_loadN rfl rfl rfl rfl rfl (segAll (seg := encPh (phot (p.l.drop (i + 1) ++ List.replicate (i + 1) zMk))) (Reads.row (i := 0) rfl) (catP (i := i) (ph_len p) (by omega) rfl rfl) (fun h => absurd (show 16 = 0 from congrArg List.length h) (by decide)))) rfl rfl ⟨(List.Sublist.cons _ (List.Sublist.cons _ (List.Sublist.cons _ (List.Sublist.cons _ (List.Sublist.cons _ (List.Sublist.refl _)))))), ?_⟩) (op_ret rfl rfl rfl (c_ConcatU ([⟨(cutA (some ⟨b3, 0, none⟩) 8 (i + 1) 1), (8 - (i + 1)), ((dig (digs s v)).l.drop (i + 1))⟩, ⟨(some ⟨r8, 0, none⟩), (List.replicate (i + 1) (0 : Int)).length, (List.replicate (i + 1) (0 : Int))⟩] : List (VX Int)) _ _ (by rw [catX_l (n := 8) (by show (List.drop _ _).length + (List.replicate _ _).length = 8; rw [List.length_drop, List.length_replicate]; omega)]; omega) (by show 2 ≤ 1000000; omega) (some2 cut_some (fun h => nomatch h))) (fun w hw => ⟨Reads.get (Reads.row (i := 2) rfl) w hw, reads2 (Reads.get (Reads.dropL (l := (dig (digs s v)).l) (c := 8) (Reads.blk (i := 5) rfl) (eI_len .u8) (by omega) (i + 1)) w hw) (Reads.get (readsZ (z := (0 : Int)) (i := 4) rfl rfl (eI_len .u8) rfl List.length_replicate) w hw)⟩) rfl rfl (fun x93 hx93 => ⟨(List.Sublist.cons _ (List.Sublist.cons _ (List.Sublist.cons _ (List.Sublist.cons _ (List.Sublist.cons _ (List.Sublist.cons _ (List.Sublist.refl _))))))), ?_⟩))
              · refine ExD.op (i := 21) rfl (by kernel_rfl) rfl (op_ret rfl rfl rfl (c_ConcatU ([⟨(cutA (some ⟨b3, 0, none⟩) 8 (i + 1) 1), (8 - (i + 1)), ((dig (digs s v)).l.drop (i + 1))⟩, ⟨(some ⟨r8, 0, none⟩), (List.replicate (i + 1) (0 : Int)).length, (List.replicate (i + 1) (0 : Int))⟩] : List (VX Int)) _ _ (by rw [catX_l (n := 8) (by show (List.drop _ _).length + (List.replicate _ _).length = 8; rw [List.length_drop, List.length_replicate]; omega)]; omega) (by show 2 ≤ 1000000; omega) (some2 cut_some (fun h => nomatch h))) (fun w hw => ⟨Reads.get (Reads.row (i := 2) rfl) w hw, reads2 (Reads.get (Reads.dropL (l := (dig (digs s v)).l) (c := 8) (Reads.blk (i := 5) rfl) (eI_len .u8) (by omega) (i + 1)) w hw) (Reads.get (readsZ (z := (0 : Int)) (i := 4) rfl rfl (eI_len .u8) rfl List.length_replicate) w hw)⟩) rfl rfl (fun x94 hx94 => ⟨(List.Sublist.cons _ (List.Sublist.cons _ (List.Sublist.cons _ (List.Sublist.cons _ (List.Sublist.cons _ (List.Sublist.cons _ (List.Sublist.refl _))))))), ?_⟩))
                refine ExD.take (i := 22) rfl (by kernel_rfl) (fr_sliceToArray (N := 8) rfl rfl rfl (by rw [catX_l (n := 8) (by show (List.drop _ _).length + (List.replicate _ _).length = 8; rw [List.length_drop, List.length_replicate]; omega)]; omega)) ((List.Sublist.cons _ (List.Sublist.cons _ (List.Sublist.cons _ (List.Sublist.cons _ (List.Sublist.cons _ (List.Sublist.cons _ (List.Sublist.refl _)))))))) rfl rfl rfl ?_
                refine ExD.op (i := 23) rfl (by kernel_rfl) rfl (Op1.of_free (fr_loadN rfl rfl rfl rfl rfl (segAll (seg := encD (dig ((dig (digs s v)).l.drop (i + 1) ++ List.replicate (i + 1) (0 : Int)))) (Reads.row (i := 0) rfl) (catD (i := i) (dig_len _) (by omega) rfl rfl) (fun h => absurd (show 8 = 0 from congrArg List.length h) (by decide)))) rfl rfl ⟨(List.Sublist.cons _ (List.Sublist.cons _ (List.Sublist.cons _ (List.Sublist.cons _ (List.Sublist.cons _ (List.Sublist.cons _ (List.Sublist.refl _))))))), ?_⟩)
                refine ExD.op (i := 24) rfl (by kernel_rfl) rfl (op_ret rfl rfl rfl (c_showsW (s.drop (i + 1)) _ _ (by rw [List.length_drop]; omega) (phot (p.l.drop (i + 1) ++ List.replicate (i + 1) zMk)) (okTail hp (by omega)) (dig ((dig (digs s v)).l.drop (i + 1) ++ List.replicate (i + 1) (0 : Int))) (dgTail hS hD (dig_len _) hil)) (Reads.get (Reads.dropL (Reads.old hs) (eI_len .u8) hcs (i + 1))) rfl rfl (fun x95 hx95 => ⟨(List.Sublist.cons _ (List.Sublist.cons _ (List.Sublist.cons _ (List.Sublist.cons _ (List.Sublist.cons _ (List.Sublist.cons _ (List.Sublist.refl _))))))), ?_⟩))
                refine ExD.take (i := 25) rfl (by kernel_rfl) (pureVal_ok rfl) ((List.Sublist.cons _ (List.Sublist.cons _ (List.Sublist.cons _ (List.Sublist.cons _ (List.Sublist.cons _ (List.Sublist.cons _ (List.Sublist.refl _)))))))) rfl rfl rfl ?_
                refine ExD.done (by kernel_rfl) ?_
                exact ⟨⟨rfl, rfl, rfl, rfl, rfl, rfl, rfl, trivial⟩, 8, [6, 7], rfl, rfl⟩
              · refine ExD.take (i := 22) rfl (by kernel_rfl) (fr_sliceToArray (N := 8) rfl rfl rfl (by rw [catX_l (n := 8) (by show (List.drop _ _).length + (List.replicate _ _).length = 8; rw [List.length_drop, List.length_replicate]; omega)]; omega)) ((List.Sublist.cons _ (List.Sublist.cons _ (List.Sublist.cons _ (List.Sublist.cons _ (List.Sublist.cons _ (List.Sublist.cons _ (List.Sublist.refl _)))))))) rfl rfl rfl ?_
                refine ExD.fork (i := 13) (j := 23) rfl rfl (by kernel_rfl) rfl rfl (Op1.of_free (fr_loadN rfl rfl rfl rfl rfl (segAll (seg := encPh (phot (p.l.drop (i + 1) ++ List.replicate (i + 1) zMk))) (Reads.row (i := 1) rfl) (catP (i := i) (ph_len p) (by omega) rfl rfl) (fun h => absurd (show 16 = 0 from congrArg List.length h) (by decide)))) rfl rfl ⟨(List.Sublist.cons _ (List.Sublist.cons _ (List.Sublist.cons _ (List.Sublist.cons _ (List.Sublist.cons _ (List.Sublist.cons _ (List.Sublist.refl _))))))), ?_⟩) (Op1.of_free (fr_loadN rfl rfl rfl rfl rfl (segAll (seg := encD (dig ((dig (digs s v)).l.drop (i + 1) ++ List.replicate (i + 1) (0 : Int)))) (Reads.row (i := 0) rfl) (catD (i := i) (dig_len _) (by omega) rfl rfl) (fun h => absurd (show 8 = 0 from congrArg List.length h) (by decide)))) rfl rfl ⟨(List.Sublist.cons _ (List.Sublist.cons _ (List.Sublist.cons _ (List.Sublist.cons _ (List.Sublist.cons _ (List.Sublist.cons _ (List.Sublist.refl _))))))), ?_⟩)
                · refine ExD.op (i := 23) rfl (by kernel_rfl) rfl (Op1.of_free (fr_loadN rfl rfl rfl rfl rfl (segAll (seg := encD (dig ((dig (digs s v)).l.drop (i + 1) ++ List.replicate (i + 1) (0 : Int)))) (Reads.row (i := 0) rfl) (catD (i := i) (dig_len _) (by omega) rfl rfl) (fun h => absurd (show 8 = 0 from congrArg List.length h) (by decide)))) rfl rfl ⟨(List.Sublist.cons _ (List.Sublist.cons _ (List.Sublist.cons _ (List.Sublist.cons _ (List.Sublist.cons _ (List.Sublist.cons _ (List.Sublist.refl _))))))), ?_⟩)
                  refine ExD.op (i := 24) rfl (by kernel_rfl) rfl (op_ret rfl rfl rfl (c_showsW (s.drop (i + 1)) _ _ (by rw [List.length_drop]; omega) (phot (p.l.drop (i + 1) ++ List.replicate (i + 1) zMk)) (okTail hp (by omega)) (dig ((dig (digs s v)).l.drop (i + 1) ++ List.replicate (i + 1) (0 : Int))) (dgTail hS hD (dig_len _) hil)) (Reads.get (Reads.dropL (Reads.old hs) (eI_len .u8) hcs (i + 1))) rfl rfl (fun x96 hx96 => ⟨(List.Sublist.cons _ (List.Sublist.cons _ (List.Sublist.cons _ (List.Sublist.cons _ (List.Sublist.cons _ (List.Sublist.cons _ (List.Sublist.refl _))))))), ?_⟩))
                  refine ExD.take (i := 25) rfl (by kernel_rfl) (pureVal_ok rfl) ((List.Sublist.cons _ (List.Sublist.cons _ (List.Sublist.cons _ (List.Sublist.cons _ (List.Sublist.cons _ (List.Sublist.cons _ (List.Sublist.refl _)))))))) rfl rfl rfl ?_
                  refine ExD.done (by kernel_rfl) ?_
                  exact ⟨⟨rfl, rfl, rfl, rfl, rfl, rfl, rfl, trivial⟩, 8, [6, 7], rfl, rfl⟩
                · refine ExD.op (i := 13) rfl (by kernel_rfl) rfl (Op1.of_free (fr_loadN rfl rfl rfl rfl rfl (segAll (seg := encPh (phot (p.l.drop (i + 1) ++ List.replicate (i + 1) zMk))) (Reads.row (i := 1) rfl) (catP (i := i) (ph_len p) (by omega) rfl rfl) (fun h => absurd (show 16 = 0 from congrArg List.length h) (by decide)))) rfl rfl ⟨(List.Sublist.cons _ (List.Sublist.cons _ (List.Sublist.cons _ (List.Sublist.cons _ (List.Sublist.cons _ (List.Sublist.cons _ (List.Sublist.refl _))))))), ?_⟩)
                  refine ExD.op (i := 24) rfl (by kernel_rfl) rfl (op_ret rfl rfl rfl (c_showsW (s.drop (i + 1)) _ _ (by rw [List.length_drop]; omega) (phot (p.l.drop (i + 1) ++ List.replicate (i + 1) zMk)) (okTail hp (by omega)) (dig ((dig (digs s v)).l.drop (i + 1) ++ List.replicate (i + 1) (0 : Int))) (dgTail hS hD (dig_len _) hil)) (Reads.get (Reads.dropL (Reads.old hs) (eI_len .u8) hcs (i + 1))) rfl rfl (fun x97 hx97 => ⟨(List.Sublist.cons _ (List.Sublist.cons _ (List.Sublist.cons _ (List.Sublist.cons _ (List.Sublist.cons _ (List.Sublist.cons _ (List.Sublist.refl _))))))), ?_⟩))
                  refine ExD.take (i := 25) rfl (by kernel_rfl) (pureVal_ok rfl) ((List.Sublist.cons _ (List.Sublist.cons _ (List.Sublist.cons _ (List.Sublist.cons _ (List.Sublist.cons _ (List.Sublist.cons _ (List.Sublist.refl _)))))))) rfl rfl rfl ?_
                  refine ExD.done (by kernel_rfl) ?_
                  exact ⟨⟨rfl, rfl, rfl, rfl, rfl, rfl, rfl, trivial⟩, 8, [6, 7], rfl, rfl⟩
          · refine ExD.op (i := 9) rfl (by kernel_rfl) rfl (op_makeSlice (sz := 16) rfl rfl rfl rfl rfl rfl rfl rfl (⟨by omega, by unfold maxLen; omega⟩) rfl rfl (fun r98 => ⟨(List.Sublist.cons _ (List.Sublist.cons _ (List.Sublist.cons _ (List.Sublist.refl _)))), ?_⟩))
            refine ExD.op (i := 10) rfl (by kernel_rfl) rfl (op_buildSlice (sz := 1) rfl rfl rfl rfl rfl rfl rfl rfl (by decide) rfl rfl rfl (fun r99 => ⟨(List.Sublist.cons _ (List.Sublist.cons _ (List.Sublist.cons _ (List.Sublist.cons _ (List.Sublist.refl _))))), ?_⟩))
            refine ExD.op (i := 11) rfl (by kernel_rfl) rfl (op_ret rfl rfl rfl (c_ConcatM ([⟨(cutA (some ⟨b1, 0, none⟩) 8 (i + 1) 2), (8 - (i + 1)), (p.l.drop (i + 1))⟩, ⟨(some ⟨r98, 0, none⟩), (List.replicate (i + 1) zMk).length, (List.replicate (i + 1) zMk)⟩] : List (VX VMk)) _ _ (by rw [catX_l (n := 8) (by show (List.drop _ _).length + (List.replicate _ _).length = 8; rw [List.length_drop, List.length_replicate]; omega)]; omega) (by show 2 ≤ 1000000; omega) (some2 cut_some (fun h => nomatch h))) (fun w hw => ⟨Reads.get (Reads.row (i := 0) rfl) w hw, reads2 (Reads.get (Reads.dropL (l := p.l) (c := 8) (Reads.blk (i := 5) rfl) encMk_len (by omega) (i + 1)) w hw) (Reads.get (readsZ (z := zMk) (i := 1) rfl rfl encMk_len rfl List.length_replicate) w hw)⟩) rfl rfl (fun x100 hx100 => ⟨(List.Sublist.cons _ (List.Sublist.cons _ (List.Sublist.cons _ (List.Sublist.cons _ (List.Sublist.cons _ (List.Sublist.refl _)))))), ?_⟩))
            refine ExD.take (i := 12) rfl (by kernel_rfl) (fr_sliceToArray (N := 8) rfl rfl rfl (by rw [catX_l (n := 8) (by show (List.drop _ _).length + (List.replicate _ _).length = 8; rw [List.length_drop, List.length_replicate]; omega)]; omega)) ((List.Sublist.cons _ (List.Sublist.cons _ (List.Sublist.cons _ (List.Sublist.cons _ (List.Sublist.cons _ (List.Sublist.refl _))))))) rfl rfl rfl ?_
            refine ExD.fork (i := 13) (j := 21) rfl rfl (by kernel_rfl) rfl rfl (Op1.of_free (fr_loadN rfl rfl rfl rfl rfl (segAll (seg := encPh (phot (p.l.drop (i + 1) ++ List.replicate (i + 1) zMk))) (Reads.row (i := 0) rfl) (catP (i := i) (ph_len p) (by omega) rfl rfl) (fun h => absurd (show 16 = 0 from congrArg List.length h) (by decide)))) rfl rfl ⟨(List.Sublist.cons _ (List.Sublist.cons _ (List.Sublist.cons _ (List.Sublist.cons _ (List.Sublist.cons _ (List.Sublist.refl _)))))), ?_⟩) (op_ret rfl rfl rfl (c_ConcatU ([⟨(cutA (some ⟨b3, 0, none⟩) 8 (i + 1) 1), (8 - (i + 1)), ((dig (digs s v)).l.drop (i + 1))⟩, ⟨(some ⟨r8, 0, none⟩), (List.replicate (i + 1) (0 : Int)).length, (List.replicate (i + 1) (0 : Int))⟩] : List (VX Int)) _ _ (by rw [catX_l (n := 8) (by show (List.drop _ _).length + (List.replicate _ _).length = 8; rw [List.length_drop, List.length_replicate]; omega)]; omega) (by show 2 ≤ 1000000; omega) (some2 cut_some (fun h => nomatch h))) (fun w hw => ⟨Reads.get (Reads.row (i := 3) rfl) w hw, reads2 (Reads.get (Reads.dropL (l := (dig (digs s v)).l) (c := 8) (Reads.blk (i := 5) rfl) (eI_len .u8) (by omega) (i + 1)) w hw) (Reads.get (readsZ (z := (0 : Int)) (i := 4) rfl rfl (eI_len .u8) rfl List.length_replicate) w hw)⟩) rfl rfl (fun x101 hx101 => ⟨(List.Sublist.cons _ (List.Sublist.cons _ (List.Sublist.cons _ (List.Sublist.cons _ (List.Sublist.cons _ (List.Sublist.cons _ (List.Sublist.refl _))))))), ?_⟩))
            · refine ExD.op (i := 21) rfl (by kernel_rfl) rfl (op_ret rfl rfl rfl (c_ConcatU ([⟨(cutA (some ⟨b3, 0, none⟩) 8 (i + 1) 1), (8 - (i + 1)), ((dig (digs s v)).l.drop (i + 1))⟩, ⟨(some ⟨r8, 0, none⟩), (List.replicate (i + 1) (0 : Int)).length, (List.replicate (i + 1) (0 : Int))⟩] : List (VX Int)) _ _ (by rw [catX_l (n := 8) (by show (List.drop _ _).length + (List.replicate _ _).length = 8; rw [List.length_drop, List.length_replicate]; omega)]; omega) (by show 2 ≤ 1000000; omega) (some2 cut_some (fun h => nomatch h))) (fun w hw => ⟨Reads.get (Reads.row (i := 3) rfl) w hw, reads2 (Reads.get (Reads.dropL (l := (dig (digs s v)).l) (c := 8) (Reads.blk (i := 5) rfl) (eI_len .u8) (by omega) (i + 1)) w hw) (Reads.get (readsZ (z := (0 : Int)) (i := 4) rfl rfl (eI_len .u8) rfl List.length_replicate) w hw)⟩) rfl rfl (fun x102 hx102 => ⟨(List.Sublist.cons _ (List.Sublist.cons _ (List.Sublist.cons _ (List.Sublist.cons _ (List.Sublist.cons _ (List.Sublist.cons _ (List.Sublist.refl _))))))), ?_⟩))
              refine ExD.take (i := 22) rfl (by kernel_rfl) (fr_sliceToArray (N := 8) rfl rfl rfl (by rw [catX_l (n := 8) (by show (List.drop _ _).length + (List.replicate _ _).length = 8; rw [List.length_drop, List.length_replicate]; omega)]; omega)) ((List.Sublist.cons _ (List.Sublist.cons _ (List.Sublist.cons _ (List.Sublist.cons _ (List.Sublist.cons _ (List.Sublist.cons _ (List.Sublist.refl _)))))))) rfl rfl rfl ?_
              refine ExD.op (i := 23) rfl (by kernel_rfl) rfl (Op1.of_free (fr_loadN rfl rfl rfl rfl rfl (segAll (seg := encD (dig ((dig (digs s v)).l.drop (i + 1) ++ List.replicate (i + 1) (0 : Int)))) (Reads.row (i := 0) rfl) (catD (i := i) (dig_len _) (by omega) rfl rfl) (fun h => absurd (show 8 = 0 from congrArg List.length h) (by decide)))) rfl rfl ⟨(List.Sublist.cons _ (List.Sublist.cons _ (List.Sublist.cons _ (List.Sublist.cons _ (List.Sublist.cons _ (List.Sublist.cons _ (List.Sublist.refl _))))))), ?_⟩)
              refine ExD.op (i := 24) rfl (by kernel_rfl) rfl (op_ret rfl rfl rfl (c_showsW (s.drop (i + 1)) _ _ (by rw [List.length_drop]; omega) (phot (p.l.drop (i + 1) ++ List.replicate (i + 1) zMk)) (okTail hp (by omega)) (dig ((dig (digs s v)).l.drop (i + 1) ++ List.replicate (i + 1) (0 : Int))) (dgTail hS hD (dig_len _) hil)) (Reads.get (Reads.dropL (Reads.old hs) (eI_len .u8) hcs (i + 1))) rfl rfl (fun x103 hx103 => ⟨(List.Sublist.cons _ (List.Sublist.cons _ (List.Sublist.cons _ (List.Sublist.cons _ (List.Sublist.cons _ (List.Sublist.cons _ (List.Sublist.refl _))))))), ?_⟩))
              refine ExD.take (i := 25) rfl (by kernel_rfl) (pureVal_ok rfl) ((List.Sublist.cons _ (List.Sublist.cons _ (List.Sublist.cons _ (List.Sublist.cons _ (List.Sublist.cons _ (List.Sublist.cons _ (List.Sublist.refl _)))))))) rfl rfl rfl ?_
              refine ExD.done (by kernel_rfl) ?_
              exact ⟨⟨rfl, rfl, rfl, rfl, rfl, rfl, rfl, trivial⟩, 8, [6, 7], rfl, rfl⟩
            · refine ExD.take (i := 22) rfl (by kernel_rfl) (fr_sliceToArray (N := 8) rfl rfl rfl (by rw [catX_l (n := 8) (by show (List.drop _ _).length + (List.replicate _ _).length = 8; rw [List.length_drop, List.length_replicate]; omega)]; omega)) ((List.Sublist.cons _ (List.Sublist.cons _ (List.Sublist.cons _ (List.Sublist.cons _ (List.Sublist.cons _ (List.Sublist.cons _ (List.Sublist.refl _)))))))) rfl rfl rfl ?_
              refine ExD.fork (i := 13) (j := 23) rfl rfl (by kernel_rfl) rfl rfl (Op1.of_free (fr_loadN rfl rfl rfl rfl rfl (segAll (seg := encPh (phot (p.l.drop (i + 1) ++ List.replicate (i + 1) zMk))) (Reads.row (i := 1) rfl) (catP (i := i) (ph_len p) (by omega) rfl rfl) (fun h => absurd (show 16 = 0 from congrArg List.length h) (by decide)))) rfl rfl ⟨(List.Sublist.cons _ (List.Sublist.cons _ (List.Sublist.cons _ (List.Sublist.cons _ (List.Sublist.cons _ (List.Sublist.cons _ (List.Sublist.refl _))))))), ?_⟩) (Op1.of_free (fr_loadN rfl rfl rfl rfl rfl (segAll (seg := encD (dig ((dig (digs s v)).l.drop (i + 1) ++ List.replicate (i + 1) (0 : Int)))) (Reads.row (i := 0) rfl) (catD (i := i) (dig_len _) (by omega) rfl rfl) (fun h => absurd (show 8 = 0 from congrArg List.length h) (by decide)))) rfl rfl ⟨(List.Sublist.cons _ (List.Sublist.cons _ (List.Sublist.cons _ (List.Sublist.cons _ (List.Sublist.cons _ (List.Sublist.cons _ (List.Sublist.refl _))))))), ?_⟩)
              · refine ExD.op (i := 23) rfl (by kernel_rfl) rfl (Op1.of_free (fr_loadN rfl rfl rfl rfl rfl (segAll (seg := encD (dig ((dig (digs s v)).l.drop (i + 1) ++ List.replicate (i + 1) (0 : Int)))) (Reads.row (i := 0) rfl) (catD (i := i) (dig_len _) (by omega) rfl rfl) (fun h => absurd (show 8 = 0 from congrArg List.length h) (by decide)))) rfl rfl ⟨(List.Sublist.cons _ (List.Sublist.cons _ (List.Sublist.cons _ (List.Sublist.cons _ (List.Sublist.cons _ (List.Sublist.cons _ (List.Sublist.refl _))))))), ?_⟩)
                refine ExD.op (i := 24) rfl (by kernel_rfl) rfl (op_ret rfl rfl rfl (c_showsW (s.drop (i + 1)) _ _ (by rw [List.length_drop]; omega) (phot (p.l.drop (i + 1) ++ List.replicate (i + 1) zMk)) (okTail hp (by omega)) (dig ((dig (digs s v)).l.drop (i + 1) ++ List.replicate (i + 1) (0 : Int))) (dgTail hS hD (dig_len _) hil)) (Reads.get (Reads.dropL (Reads.old hs) (eI_len .u8) hcs (i + 1))) rfl rfl (fun x104 hx104 => ⟨(List.Sublist.cons _ (List.Sublist.cons _ (List.Sublist.cons _ (List.Sublist.cons _ (List.Sublist.cons _ (List.Sublist.cons _ (List.Sublist.refl _))))))), ?_⟩))
                refine ExD.take (i := 25) rfl (by kernel_rfl) (pureVal_ok rfl) ((List.Sublist.cons _ (List.Sublist.cons _ (List.Sublist.cons _ (List.Sublist.cons _ (List.Sublist.cons _ (List.Sublist.cons _ (List.Sublist.refl _)))))))) rfl rfl rfl ?_
                refine ExD.done (by kernel_rfl) ?_
                exact ⟨⟨rfl, rfl, rfl, rfl, rfl, rfl, rfl, trivial⟩, 8, [6, 7], rfl, rfl⟩
              · refine ExD.op (i := 13) rfl (by kernel_rfl) rfl (Op1.of_free (fr_loadN rfl rfl rfl rfl rfl (segAll (seg := encPh (phot (p.l.drop (i + 1) ++ List.replicate (i + 1) zMk))) (Reads.row (i := 1) rfl) (catP (i := i) (ph_len p) (by omega) rfl rfl) (fun h => absurd (show 16 = 0 from congrArg List.length h) (by decide)))) rfl rfl ⟨(List.Sublist.cons _ (List.Sublist.cons _ (List.Sublist.cons _ (List.Sublist.cons _ (List.Sublist.cons _ (List.Sublist.cons _ (List.Sublist.refl _))))))), ?_⟩)
                refine ExD.op (i := 24) rfl (by kernel_rfl) rfl (op_ret rfl rfl rfl (c_showsW (s.drop (i + 1)) _ _ (by rw [List.length_drop]; omega) (phot (p.l.drop (i + 1) ++ List.replicate (i + 1) zMk)) (okTail hp (by omega)) (dig ((dig (digs s v)).l.drop (i + 1) ++ List.replicate (i + 1) (0 : Int))) (dgTail hS hD (dig_len _) hil)) (Reads.get (Reads.dropL (Reads.old hs) (eI_len .u8) hcs (i + 1))) rfl rfl (fun x105 hx105 => ⟨(List.Sublist.cons _ (List.Sublist.cons _ (List.Sublist.cons _ (List.Sublist.cons _ (List.Sublist.cons _ (List.Sublist.cons _ (List.Sublist.refl _))))))), ?_⟩))
                refine ExD.take (i := 25) rfl (by kernel_rfl) (pureVal_ok rfl) ((List.Sublist.cons _ (List.Sublist.cons _ (List.Sublist.cons _ (List.Sublist.cons _ (List.Sublist.cons _ (List.Sublist.cons _ (List.Sublist.refl _)))))))) rfl rfl rfl ?_
                refine ExD.done (by kernel_rfl) ?_
                exact ⟨⟨rfl, rfl, rfl, rfl, rfl, rfl, rfl, trivial⟩, 8, [6, 7], rfl, rfl⟩
      · refine Ex.cond rfl (fun hb106 => ?_) (fun hb106 => ?_)
        · replace hb106 := nb_t hb106
          refine Ex.exit ?_
          refine Ex.region (ExL.pures 0 rfl ?_)
          refine ExL.free (by first | exact fr_add64 rfl rfl rfl (by omega) | exact fr_add rfl rfl rfl) rfl rfl rfl ?_
          refine ExL.pures 1 rfl ?_
          refine ExL.nil ?_
          refine Hand.mk (i + 1) 2 [0, 1] ⟨rfl, trivial⟩ ⟨rfl, rfl, rfl, rfl, trivial⟩ (rfl) rfl (⟨by omega, all_snoc hall (by first | exact cand_n (by rw [hfm]; omega) | exact cand_u (by rw [← upTail (p := p) (d := (dig (digs s v)).l) hS.len8 (dig_len _) hil]; first | assumption | (simp_all; done)))⟩) (by omega)
        · replace hb106 := nb_f hb106
          refine Ex.skip ?_
          have hup := upTail (p := p) (d := (dig (digs s v)).l) hS.len8 (dig_len _) hil
          have hui : upA s.length p.l (dig (digs s v)).l i = true := by rw [← hup]; first | assumption | simp_all
          have hdi := hD i hil
          have hbi := hS.bases i hil
          refine Ex.regSeq (ExL.pures 1 rfl ?_)
          refine ExL.free (fr_indexAddr_b (sz := 2) rfl rfl rfl rfl rfl (by omega)) rfl rfl rfl ?_
          refine ExL.free (fr_loadN rfl rfl rfl rfl rfl (segB (i := 1) rfl encMk_len zMk (by rw [ph_len]; omega))) rfl rfl rfl ?_
          refine ExL.op rfl (op_ret rfl rfl rfl (c_digitsM (p.l.getD i zMk) (hp i (by omega))) (fun _ _ => trivial) rfl rfl (fun x107 hx107 => ?_))
          refine ExL.pures 2 rfl ?_
          refine ExL.nil ?_
          refine Ex.block ?_
          have hdgl := digI_len' (p.l.getD i zMk)
          refine Ex.loopK (X := Nat) (fun r => [(56, .int .i64 r)]) (fun r => []) (fun r => r ≤ (digI (p.l.getD i zMk)).length ∧ ∀ q, q < r → ¬ (dig (digs s v)).l.getD i 0 < (digI (p.l.getD i zMk)).getD q 0) (fun r => (digI (p.l.getD i zMk)).length - r) 0 [(0, _), (4, _), (8, _), (9, _), (21, _), (22, _), (54, _), (55, _)] [_, _, _] 3 [0, 1, 2] ⟨rfl, trivial⟩ ⟨rfl, rfl, rfl, rfl, rfl, rfl, rfl, rfl, trivial⟩ (rfl) rfl ⟨Nat.zero_le _, fun q hq => by omega⟩ (fun r hI => ?_)
          have hI : r ≤ (digI (p.l.getD i zMk)).length ∧ ∀ q, q < r → ¬ (dig (digs s v)).l.getD i 0 < (digI (p.l.getD i zMk)).getD q 0 := hI
          obtain ⟨hr0, hallr⟩ := hI
          refine Ex.regSeq (ExL.pures 0 rfl ?_)
          refine ExL.lss rfl rfl rfl rfl rfl rfl (fun h108 => ?_) (fun h108 => ?_)
          · refine ExL.nil ?_
            refine Ex.seq ?_
            refine Ex.cond_t rfl ?_
            refine Ex.skip ?_
            refine Ex.seq ?_
            refine Ex.block ?_
            refine Ex.regSeq (ExL.pures 0 rfl ?_)
            refine ExL.free (fr_indexAddrR (sz := 1) 0 rfl rfl rfl rfl rfl rfl (by omega)) rfl rfl rfl ?_
            refine ExL.free (fr_load rfl rfl rfl rfl (by first | exact cellN (Reads.row (i := 0) rfl) (eI_len .i64) 0 0 rfl (by omega) rfl | exact cellF (Reads.row (i := 0) rfl) (eI_len .i64) 0 0 rfl (by omega) rfl)) rfl rfl rfl ?_
            refine ExL.pures 1 rfl ?_
            refine ExL.nil ?_
            refine Ex.regSeq (ExL.pures 2 rfl ?_)
            refine ExL.free (fr_indexAddr_b (sz := 1) rfl rfl rfl rfl rfl (by omega)) rfl rfl rfl ?_
            refine ExL.free (fr_load rfl rfl rfl rfl (CellO.blk (i := 1) rfl (blkG (eI_len .u8) 0 rfl (by rw [dig_len]; omega) rfl))) rfl rfl rfl ?_
            refine ExL.free (by first | exact fr_conv64 rfl rfl rfl rfl (by omega) | exact fr_conv rfl rfl rfl rfl) rfl rfl rfl ?_
            refine ExL.gtr rfl rfl rfl rfl rfl rfl (fun h109 => ?_) (fun h109 => ?_)
            · refine ExL.nil ?_
              refine Ex.cond_t rfl ?_
              have hfh := dig_hit (m := p.l.getD i zMk) (a := (dig (digs s v)).l.getD i 0) (r := r) (by omega) (by omega) hallr (by omega)
              have hfb := from_bd (p.l.getD i zMk) (((dig (digs s v)).l.getD i 0).toNat + 1)
              rw [hfh] at hfb
              have hnx := nx_yE (dig_len _) hfh hsh hil hall hui (by omega)
              obtain ⟨hgv, hgn⟩ := nextD_valid hS hP hD (dig_len _) hdv hil (by rw [hfh]; omega)
              unfold nextD at hgv hgn
              rw [hfh, ← dig_l (s := (dig (digs s v)).l.set i ((digI (p.l.getD i zMk)).getD r 0)) (by rw [List.length_set]; exact dig_len _)] at hgv hgn
              rw [← dig_l (leastD_len _ _ _)] at hgv hgn
              refine Ex.regSeq (ExL.pures 2 rfl ?_)
              refine ExL.free (by first | exact fr_conv_u8 rfl rfl rfl rfl (by omega) | exact fr_conv rfl rfl rfl rfl) rfl rfl rfl ?_
              refine ExL.free (fr_indexAddr_b (sz := 1) rfl rfl rfl rfl rfl (by omega)) rfl rfl rfl ?_
              refine ExL.op rfl (op_store (i := 1) rfl rfl rfl rfl rfl rfl rfl rfl (by show 0 + i * 1 + 1 ≤ 8; omega) rfl ?_)
              refine ExL.nil ?_
              refine Ex.blkTo (i := 1) rfl (setD_put (d := (dig (digs s v)).l) (i := i) (z := ((digI (p.l.getD i zMk)).getD r 0)) (dig_len _) (by omega) (by simp) rfl) ?_
              refine Ex.regSeq (ExL.pures 1 rfl ?_)
              refine ExL.free (fr_loadN rfl rfl rfl rfl rfl (SegO.whole (i := 1) rfl)) rfl rfl rfl ?_
              refine ExL.pures 1 rfl ?_
              refine ExL.op rfl (op_ret rfl rfl rfl (c_least s (by first | assumption | exact stk (by assumption)) p (by assumption) hp _ _ (dig ((dig (digs s v)).l.set i ((digI (p.l.getD i zMk)).getD r 0))) i (by omega)) (Reads.get (Reads.blk (i := 2) rfl)) rfl rfl (fun x110 hx110 => ?_))
              refine ExL.op rfl (op_ret rfl rfl rfl (c_value s (by first | assumption | simp_all) _ _ (dig (leastD p.l (dig ((dig (digs s v)).l.set i ((digI (p.l.getD i zMk)).getD r 0))).l i)) (by assumption) (by first | assumption | simp_all)) (Reads.get (Reads.old hs)) rfl rfl (fun x111 hx111 => ?_))
              refine ExL.pures 2 rfl ?_
              refine ExL.nil ?_
              refine Ex.ret ?_
              refine RetQ.mk () rfl (.tmp rfl (.tmp rfl .nil)) (t2 (vI (by first | (rw [hnx]; first | done | rfl) | (rw [nx_n hsh (by omega) hall]; first | done | rfl))) (vB (by first | (rw [hnx]; first | done | rfl) | (rw [nx_n hsh (by omega) hall]; first | done | rfl)))) [] (rfl) rfl (trivial)
            · refine ExL.nil ?_
              refine Ex.cond_f rfl ?_
              refine Ex.skip ?_
              refine Ex.region (ExL.pures 0 rfl ?_)
              refine ExL.free (by first | exact fr_add64 rfl rfl rfl (by omega) | exact fr_add rfl rfl rfl) rfl rfl rfl ?_
              refine ExL.pures 1 rfl ?_
              refine ExL.nil ?_
              refine Hand.mk (r + 1) 3 [0, 1, 2] ⟨rfl, trivial⟩ ⟨rfl, rfl, rfl, rfl, rfl, rfl, rfl, rfl, trivial⟩ (rfl) rfl (⟨by omega, fun q hq => by rcases Nat.lt_or_ge q r with h3 | h3; exact hallr q h3; obtain rfl : q = r := (by omega); omega⟩) (by omega)
          · refine ExL.nil ?_
            refine Ex.seq ?_
            refine Ex.cond_f rfl ?_
            refine Ex.exit ?_
            have hfm := dig_miss (m := p.l.getD i zMk) (a := (dig (digs s v)).l.getD i 0) (r := r) (by omega) (by omega) hallr
            refine Ex.region (ExL.pures 0 rfl ?_)
            refine ExL.free (by first | exact fr_add64 rfl rfl rfl (by omega) | exact fr_add rfl rfl rfl) rfl rfl rfl ?_
            refine ExL.pures 1 rfl ?_
            refine ExL.nil ?_
            refine Hand.mk (i + 1) 3 [1, 2] ⟨rfl, trivial⟩ ⟨rfl, rfl, rfl, rfl, trivial⟩ (rfl) rfl (⟨by omega, all_snoc hall (by first | exact cand_n (by rw [hfm]; omega) | exact cand_u (by rw [← upTail (p := p) (d := (dig (digs s v)).l) hS.len8 (dig_len _) hil]; first | assumption | (simp_all; done)))⟩) (by omega)
    · refine ExL.nil ?_
      refine Ex.seq ?_
      refine Ex.cond_f rfl ?_
      refine Ex.exit ?_
      refine Ex.regSeq (ExL.pures 2 rfl ?_)
      refine ExL.nil ?_
      refine Ex.ret ?_
      refine RetQ.mk () rfl (.tmp rfl (.tmp rfl .nil)) (t2 (vI (by first | (rw [hnx]; first | done | rfl) | (rw [nx_n hsh (by omega) hall]; first | done | rfl))) (vB (by first | (rw [hnx]; first | done | rfl) | (rw [nx_n hsh (by omega) hall]; first | done | rfl)))) [] (rfl) rfl (trivial)
theorem e_21 : Enters Tryz.prog 21 := Enters.of Tryz.func21 rfl
theorem c_iNextIn (s : List Int) (hu : Nums 255 s) (As : Option Addr) (cs : Nat) (hls : s.length ≤ maxLen) (p : VPh) (hp : OkPh p) (hcs : s.length ≤ cs) (v : Int) : Ret Tryz.prog 21 [.slice As s.length cs, .agg (encPh p).toArray, .int .i64 v] (fun w => Rd w As (s.flatMap (eI .u8))) (fun x : Unit => .tuple #[.int .i64 (ninV s p v).1, .int .i64 (ninV s p v).2]) (fun x => []) (fun x => True) := by
  refine Ret.of e_21 Tryz.func21 rfl Tryz.ntmps21 rfl rfl (fun w hpre => ?_)
  have hs := hpre.base
  have hm0 : maxLen = 9223372036854775807 := rfl
  refine Ex.regSeq (ExL.pures 0 rfl ?_)
  refine ExL.op rfl (op_box rfl rfl rfl rfl rfl (fun b1 => ?_))
  refine ExL.pures 2 rfl ?_
  refine ExL.nil ?_
  refine Ex.seq ?_
  refine Ex.block ?_
  refine Ex.regSeq (ExL.pures 1 rfl ?_)
  refine ExL.free (fr_loadN rfl rfl rfl rfl rfl (SegO.whole (i := 0) rfl)) rfl rfl rfl ?_
  refine ExL.op rfl (op_ret rfl rfl rfl (c_iValidPhoto s (by assumption) _ _ (by omega) p hp) (Reads.get (Reads.old hs)) rfl rfl (fun x2 hx2 => ?_))
  refine ExL.pures 2 rfl ?_
  refine ExL.nil ?_
  refine Ex.cond rfl (fun hb3 => ?_) (fun hb3 => ?_)
  · replace hb3 := nb_t hb3
    refine Ex.regSeq (ExL.pures 2 rfl ?_)
    refine ExL.nil ?_
    refine Ex.ret ?_
    refine RetQ.mk () rfl (.tmp rfl (.tmp rfl .nil)) (t2 (vI (by first | (rw [ni_1 (by assumption)]; first | done | rfl) | (rw [ni_2 (by assumption) (by omega)]; first | done | rfl) | (rw [ni_y (by assumption) (by omega) (by assumption)]; first | done | rfl) | (rw [ni_n (by assumption) (by omega) (by assumption)]; first | done | rfl))) (vI (by first | (rw [ni_1 (by assumption)]; first | done | rfl) | (rw [ni_2 (by assumption) (by omega)]; first | done | rfl) | (rw [ni_y (by assumption) (by omega) (by assumption)]; first | done | rfl) | (rw [ni_n (by assumption) (by omega) (by assumption)]; first | done | rfl)))) [] (rfl) rfl (trivial)
  · replace hb3 := nb_f hb3
    have hz0 := size_bd hu s.length
    rw [List.take_length] at hz0
    refine Ex.regSeq (ExL.pures 2 rfl ?_)
    refine ExL.op rfl (op_ret rfl rfl rfl (c_hasValue s (by assumption) _ _ (by omega) _) (Reads.get (Reads.old hs)) rfl rfl (fun x4 hx4 => ?_))
    refine ExL.pures 2 rfl ?_
    refine ExL.nil ?_
    refine Ex.cond rfl (fun hb5 => ?_) (fun hb5 => ?_)
    · replace hb5 := nd_t hb5
      refine Ex.regSeq (ExL.pures 2 rfl ?_)
      refine ExL.nil ?_
      refine Ex.ret ?_
      refine RetQ.mk () rfl (.tmp rfl (.tmp rfl .nil)) (t2 (vI (by first | (rw [ni_1 (by assumption)]; first | done | rfl) | (rw [ni_2 (by assumption) (by omega)]; first | done | rfl) | (rw [ni_y (by assumption) (by omega) (by assumption)]; first | done | rfl) | (rw [ni_n (by assumption) (by omega) (by assumption)]; first | done | rfl))) (vI (by first | (rw [ni_1 (by assumption)]; first | done | rfl) | (rw [ni_2 (by assumption) (by omega)]; first | done | rfl) | (rw [ni_y (by assumption) (by omega) (by assumption)]; first | done | rfl) | (rw [ni_n (by assumption) (by omega) (by assumption)]; first | done | rfl)))) [] (rfl) rfl (trivial)
    · replace hb5 := nd_f hb5
      refine Ex.skip ?_
      obtain ⟨hv, hS, hP⟩ := vph hp (by assumption)
      have h8 := hS.len8
      have hz := hS.size_
      have hle := hS.le
      have hps := hS.pos
      refine Ex.regSeq (ExL.pures 1 rfl ?_)
      refine ExL.free (fr_loadN rfl rfl rfl rfl rfl (SegO.whole (i := 0) rfl)) rfl rfl rfl ?_
      refine ExL.pures 1 rfl ?_
      refine ExL.op rfl (op_ret rfl rfl rfl (c_nextS s (by first | assumption | simp_all) _ _ hcs p hp (by assumption) v (by omega)) (Reads.get (Reads.old hs)) rfl rfl (fun x6 hx6 => ?_))
      refine ExL.pures 5 rfl ?_
      refine ExL.nil ?_
      refine Ex.seq ?_
      refine Ex.regSeq (ExL.pures 2 rfl ?_)
      refine ExL.nil ?_
      refine Ex.cond rfl (fun hb7 => ?_) (fun hb7 => ?_)
      · replace hb7 := nb_t hb7
        refine Ex.regSeq (ExL.pures 2 rfl ?_)
        refine ExL.nil ?_
        refine Ex.ret ?_
        refine RetQ.mk () rfl (.tmp rfl (.tmp rfl .nil)) (t2 (vI (by first | (rw [ni_1 (by assumption)]; first | done | rfl) | (rw [ni_2 (by assumption) (by omega)]; first | done | rfl) | (rw [ni_y (by assumption) (by omega) (by assumption)]; first | done | rfl) | (rw [ni_n (by assumption) (by omega) (by assumption)]; first | done | rfl))) (vI (by first | (rw [ni_1 (by assumption)]; first | done | rfl) | (rw [ni_2 (by assumption) (by omega)]; first | done | rfl) | (rw [ni_y (by assumption) (by omega) (by assumption)]; first | done | rfl) | (rw [ni_n (by assumption) (by omega) (by assumption)]; first | done | rfl)))) [] (rfl) rfl (trivial)
      · replace hb7 := nb_f hb7
        refine Ex.skip ?_
        refine Ex.regSeq (ExL.pures 3 rfl ?_)
        refine ExL.nil ?_
        refine Ex.ret ?_
        refine RetQ.mk () rfl (.tmp rfl (.tmp rfl .nil)) (t2 (vI (by first | (rw [ni_1 (by assumption)]; first | done | rfl) | (rw [ni_2 (by assumption) (by omega)]; first | done | rfl) | (rw [ni_y (by assumption) (by omega) (by assumption)]; first | done | rfl) | (rw [ni_n (by assumption) (by omega) (by assumption)]; first | done | rfl))) (vI (by first | (rw [ni_1 (by assumption)]; first | done | rfl) | (rw [ni_2 (by assumption) (by omega)]; first | done | rfl) | (rw [ni_y (by assumption) (by omega) (by assumption)]; first | done | rfl) | (rw [ni_n (by assumption) (by omega) (by assumption)]; first | done | rfl)))) [] (rfl) rfl (trivial)
end Go.Proofs.YtdgfalhfmboalaaGreatDoor
