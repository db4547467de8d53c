/- Several texts, one behind the other. -/
import Derived.Test.YtfcmehdmbfhodaaGreatProg
import Derived.Test.YtfcmehdmbfhodaaGreatXaa
import Derived.Test.YtfcmehdmbfhodaaGreatXab
import Derived.Test.YtfcmehdmbfhodaaGreatXba
import Derived.Test.YtfcmehdmbfhodaaGreatXbb
/- What these functions of the program hand back, each proved by walking its operations. -/
set_option linter.unusedVariables false
set_option linter.unusedSimpArgs false
set_option maxRecDepth 4000
namespace Go.Proofs.YtfcmehdmbfhodaaGreat
open Go Go.Sx Go.RowKit Go.W Go.Proofs
attribute [local irreducible] Ex ExL ExD Op1 Free RetQ MutQ Reads CellO SegO LoadsAs
theorem e_127 : Enters Tryz.prog 127 := Enters.of Tryz.func127 rfl
theorem c_until (d : VDev) (hk : OkDev d) (hv : validDev d = true) (Ad : Option Addr) (cd : Nat) (b : Nat) (st : Int) (hst : st = 1 ∨ st = -1) : Ret Tryz.prog 127 [.pointer (some ⟨b, 0, none⟩), .int .i64 st] (fun w => Rd w (some ⟨b, 0, none⟩) (encV Ad cd d) ∧ Rd w Ad (d.stack.flatMap (eI .u8))) (fun x : Unit => .int .i64 (untilV d st)) (fun x => []) (fun x => True) := by
  refine Ret.of e_127 Tryz.func127 rfl Tryz.ntmps127 rfl rfl (fun w hpre => ?_)
  have hp := hpre.1.base
  have hd := hpre.2.base
  obtain ⟨hl, hu, ha, hpp, htt⟩ := hk
  have hO := devOk ha hv
  have hvs : validStack d.stack = true := by unfold validDev at hv; rw [decide_eq_true_iff] at hv; exact hv.1
  have hvd := hO.vd
  have hm0 : maxLen = 9223372036854775807 := rfl
  have hz := sizeS hO
  have hle := hO.stk.le
  have hps := hO.stk.pos
  have hlt : 0 ≤ val d.stack d.shows.l ∧ val d.stack d.shows.l < prod d.stack := hO.v_lt
  have hpr := hO.preset
  have htk := hO.tick
  have hm1 : -1000000000001 ≤ st * (d.preset - val d.stack d.shows.l) ∧ st * (d.preset - val d.stack d.shows.l) ≤ 1000000000001 := by rcases hst with rfl | rfl <;> omega
  have hs2 := size_two hO.stk
  refine Ex.regSeq (ExL.pures 1 rfl ?_)
  refine ExL.nil ?_
  refine Ex.drawSeqM rfl ?_
  refine ExD.take (i := 0) rfl (by kernel_rfl) (pureVal_ok rfl) ((List.Sublist.refl _)) rfl rfl rfl ?_
  refine ExD.take (i := 1) rfl (by kernel_rfl) (pureVal_ok rfl) ((List.Sublist.refl _)) rfl rfl rfl ?_
  refine ExD.take (i := 2) rfl (by kernel_rfl) (pureVal_ok rfl) ((List.Sublist.refl _)) rfl rfl rfl ?_
  refine ExD.take (i := 3) rfl (by kernel_rfl) (pureVal_ok rfl) ((List.Sublist.refl _)) rfl rfl rfl ?_
  refine ExD.take (i := 4) rfl (by kernel_rfl) (fr_load rfl rfl rfl rfl (CellO.at 9 (Reads.old hp) rfl)) ((List.Sublist.refl _)) rfl rfl rfl ?_
  refine ExD.take (i := 5) rfl (by kernel_rfl) (pureVal_ok rfl) ((List.Sublist.refl _)) rfl rfl rfl ?_
  refine ExD.take (i := 6) rfl (by kernel_rfl) (pureVal_ok rfl) ((List.Sublist.refl _)) rfl rfl rfl ?_
  refine ExD.take (i := 7) rfl (by kernel_rfl) (pureVal_ok rfl) ((List.Sublist.refl _)) rfl rfl rfl ?_
  refine ExD.take (i := 8) rfl (by kernel_rfl) (fr_load rfl rfl rfl rfl (CellO.at 0 (Reads.old hp) rfl)) ((List.Sublist.refl _)) rfl rfl rfl ?_
  refine ExD.take (i := 9) rfl (by kernel_rfl) (pureVal_ok rfl) ((List.Sublist.refl _)) rfl rfl rfl ?_
  refine ExD.take (i := 10) rfl (by kernel_rfl) (pureVal_ok rfl) ((List.Sublist.refl _)) rfl rfl rfl ?_
  refine ExD.take (i := 11) rfl (by kernel_rfl) (pureVal_ok rfl) ((List.Sublist.refl _)) rfl rfl rfl ?_
  refine ExD.take (i := 12) rfl (by kernel_rfl) (fr_loadN rfl rfl rfl rfl rfl (SegO.at 1 8 (Reads.old hp) rfl)) ((List.Sublist.refl _)) rfl rfl rfl ?_
  refine ExD.take (i := 16) rfl (by kernel_rfl) (pureVal_ok rfl) ((List.Sublist.refl _)) rfl rfl rfl ?_
  refine ExD.take (i := 17) rfl (by kernel_rfl) (pureVal_ok rfl) ((List.Sublist.refl _)) rfl rfl rfl ?_
  refine ExD.take (i := 18) rfl (by kernel_rfl) (pureVal_ok rfl) ((List.Sublist.refl _)) rfl rfl rfl ?_
  refine ExD.take (i := 19) rfl (by kernel_rfl) (fr_load rfl rfl rfl rfl (CellO.at 0 (Reads.old hp) rfl)) ((List.Sublist.refl _)) rfl rfl rfl ?_
  refine ExD.op (i := 13) rfl (by kernel_rfl) rfl (op_ret rfl rfl rfl (c_value d.stack (by first | assumption | simp_all) _ _ d.shows (by assumption) (by first | assumption | simp_all)) (Reads.get (Reads.old hd)) rfl rfl (fun x1 hx1 => ⟨(List.Sublist.refl _), ?_⟩))
  refine ExD.take (i := 14) rfl (by kernel_rfl) (by first | exact fr_sub64 rfl rfl rfl (by omega) | exact fr_sub rfl rfl rfl) ((List.Sublist.refl _)) rfl rfl rfl ?_
  refine ExD.take (i := 15) rfl (by kernel_rfl) (by first | exact fr_mul64 rfl rfl rfl (by omega) | exact fr_mul rfl rfl rfl) ((List.Sublist.refl _)) rfl rfl rfl ?_
  refine ExD.op (i := 20) rfl (by kernel_rfl) rfl (op_ret rfl rfl rfl (c_size _ (by assumption) _ _ (by first | assumption | omega | (unfold maxLen; omega))) (Reads.get (Reads.old hd)) rfl rfl (fun x2 hx2 => ⟨(List.Sublist.refl _), ?_⟩))
  refine ExD.op (i := 21) rfl (by kernel_rfl) rfl (op_ret rfl rfl rfl (c_wrapped _ _ (by omega) (by omega)) (fun _ _ => trivial) rfl rfl (fun x3 hx3 => ⟨(List.Sublist.refl _), ?_⟩))
  refine ExD.take (i := 22) rfl (by kernel_rfl) (pureVal_ok rfl) ((List.Sublist.refl _)) rfl rfl rfl ?_
  refine ExD.take (i := 23) rfl (by kernel_rfl) (pureVal_ok rfl) ((List.Sublist.refl _)) rfl rfl rfl ?_
  refine ExD.take (i := 24) rfl (by kernel_rfl) (pureVal_ok rfl) ((List.Sublist.refl _)) rfl rfl rfl ?_
  refine ExD.take (i := 25) rfl (by kernel_rfl) (pureVal_ok rfl) ((List.Sublist.refl _)) rfl rfl rfl ?_
  refine ExD.take (i := 26) rfl (by kernel_rfl) (pureVal_ok rfl) ((List.Sublist.refl _)) rfl rfl rfl ?_
  refine ExD.done (by kernel_rfl) ?_
  refine Ex.seq ?_
  refine Ex.regSeq (ExL.pures 1 rfl ?_)
  refine ExL.eql rfl rfl rfl rfl rfl rfl (fun h4 => ?_) (fun h4 => ?_)
  · refine ExL.nil ?_
    refine Ex.cond_t rfl ?_
    refine Ex.regSeq (ExL.pures 3 rfl ?_)
    refine ExL.free (fr_load rfl rfl rfl rfl (CellO.at 0 (Reads.old hp) rfl)) rfl rfl rfl ?_
    refine ExL.op rfl (op_ret rfl rfl rfl (c_size _ (by assumption) _ _ (by first | assumption | omega | (unfold maxLen; omega))) (Reads.get (Reads.old hd)) rfl rfl (fun x5 hx5 => ?_))
    refine ExL.pures 1 rfl ?_
    refine ExL.nil ?_
    refine Ex.ret ?_
    refine RetQ.mk () rfl (.tmp rfl .nil) (tI (by unfold untilV until1 VDev.v; rw [← hz]; first | rw [if_pos (by assumption)] | rw [if_neg (by assumption)])) [] (rfl) rfl (trivial)
  · refine ExL.nil ?_
    refine Ex.cond_f rfl ?_
    refine Ex.skip ?_
    refine Ex.regSeq (ExL.pures 2 rfl ?_)
    refine ExL.nil ?_
    refine Ex.ret ?_
    refine RetQ.mk () rfl (.tmp rfl .nil) (tI (by unfold untilV until1 VDev.v; rw [← hz]; first | rw [if_pos (by assumption)] | rw [if_neg (by assumption)])) [] (rfl) rfl (trivial)
theorem e_130 : Enters Tryz.prog 130 := Enters.of Tryz.func130 rfl
theorem c_l07Until (d : VDev) (hk : OkDev d) (hv : validDev d = true) (Ad : Option Addr) (cd : Nat) (b : Nat) (back : Bool) : Ret Tryz.prog 130 [.pointer (some ⟨b, 0, none⟩), .bool back] (fun w => Rd w (some ⟨b, 0, none⟩) (encV Ad cd d) ∧ Rd w Ad (d.stack.flatMap (eI .u8))) (fun x : Unit => .int .i64 (if d.preset < 0 then -1 else untilV d (bif back then -1 else 1))) (fun x => []) (fun x => True) := by
  refine Ret.of e_130 Tryz.func130 rfl Tryz.ntmps130 rfl rfl (fun w hpre => ?_)
  have hp := hpre.1.base
  have hd := hpre.2.base
  obtain ⟨hl, hu, ha, hpp, htt⟩ := hk
  have hO := devOk ha hv
  have hvs : validStack d.stack = true := by unfold validDev at hv; rw [decide_eq_true_iff] at hv; exact hv.1
  have hvd := hO.vd
  have hm0 : maxLen = 9223372036854775807 := rfl
  have hz := sizeS hO
  have hle := hO.stk.le
  have hps := hO.stk.pos
  have hlt : 0 ≤ val d.stack d.shows.l ∧ val d.stack d.shows.l < prod d.stack := hO.v_lt
  have hpr := hO.preset
  have htk := hO.tick
  have hs2 := size_two hO.stk
  refine Ex.regSeq (ExL.pures 1 rfl ?_)
  refine ExL.nil ?_
  refine Ex.seq ?_
  refine Ex.regSeq (ExL.pures 3 rfl ?_)
  refine ExL.free (fr_load rfl rfl rfl rfl (CellO.at 9 (Reads.old hp) rfl)) rfl rfl rfl ?_
  refine ExL.lss rfl rfl rfl rfl rfl rfl (fun h1 => ?_) (fun h1 => ?_)
  · refine ExL.nil ?_
    refine Ex.cond_t rfl ?_
    refine Ex.regSeq (ExL.pures 1 rfl ?_)
    refine ExL.nil ?_
    refine Ex.ret ?_
    refine RetQ.mk () rfl (.tmp rfl .nil) (tI (by first | rw [if_pos (by assumption)] | (rw [if_neg (by assumption)]; subst_vars; (first | rw [un_t] | rw [un_f]); first | (rw [until_small (by omega) (by omega) (by omega)]; omega) | rw [until_big (by omega) (by omega) (by omega)]))) [] (rfl) rfl (trivial)
  · refine ExL.nil ?_
    refine Ex.cond_f rfl ?_
    refine Ex.skip ?_
    refine Ex.drawSeqM rfl ?_
    refine ExD.take (i := 0) rfl (by kernel_rfl) (pureVal_ok rfl) ((List.Sublist.refl _)) rfl rfl rfl ?_
    refine ExD.take (i := 1) rfl (by kernel_rfl) (pureVal_ok rfl) ((List.Sublist.refl _)) rfl rfl rfl ?_
    refine ExD.take (i := 2) rfl (by kernel_rfl) (pureVal_ok rfl) ((List.Sublist.refl _)) rfl rfl rfl ?_
    refine ExD.take (i := 3) rfl (by kernel_rfl) (fr_load rfl rfl rfl rfl (CellO.at 9 (Reads.old hp) rfl)) ((List.Sublist.refl _)) rfl rfl rfl ?_
    refine ExD.take (i := 4) rfl (by kernel_rfl) (pureVal_ok rfl) ((List.Sublist.refl _)) rfl rfl rfl ?_
    refine ExD.take (i := 5) rfl (by kernel_rfl) (pureVal_ok rfl) ((List.Sublist.refl _)) rfl rfl rfl ?_
    refine ExD.take (i := 6) rfl (by kernel_rfl) (pureVal_ok rfl) ((List.Sublist.refl _)) rfl rfl rfl ?_
    refine ExD.take (i := 7) rfl (by kernel_rfl) (fr_load rfl rfl rfl rfl (CellO.at 0 (Reads.old hp) rfl)) ((List.Sublist.refl _)) rfl rfl rfl ?_
    refine ExD.take (i := 8) rfl (by kernel_rfl) (pureVal_ok rfl) ((List.Sublist.refl _)) rfl rfl rfl ?_
    refine ExD.take (i := 9) rfl (by kernel_rfl) (pureVal_ok rfl) ((List.Sublist.refl _)) rfl rfl rfl ?_
    refine ExD.take (i := 10) rfl (by kernel_rfl) (pureVal_ok rfl) ((List.Sublist.refl _)) rfl rfl rfl ?_
    refine ExD.take (i := 11) rfl (by kernel_rfl) (fr_loadN rfl rfl rfl rfl rfl (SegO.at 1 8 (Reads.old hp) rfl)) ((List.Sublist.refl _)) rfl rfl rfl ?_
    refine ExD.op (i := 12) rfl (by kernel_rfl) rfl (op_ret rfl rfl rfl (c_l01Value d.stack (by first | assumption | simp_all) _ _ d.shows (by assumption) (by first | assumption | simp_all)) (Reads.get (Reads.old hd)) rfl rfl (fun x2 hx2 => ⟨(List.Sublist.refl _), ?_⟩))
    refine ExD.take (i := 13) rfl (by kernel_rfl) (by first | exact fr_sub64 rfl rfl rfl (by omega) | exact fr_sub rfl rfl rfl) ((List.Sublist.refl _)) rfl rfl rfl ?_
    refine ExD.take (i := 14) rfl (by kernel_rfl) (pureVal_ok rfl) ((List.Sublist.refl _)) rfl rfl rfl ?_
    refine ExD.done (by kernel_rfl) ?_
    refine Ex.seq ?_
    refine Ex.regSeq (ExL.pures 1 rfl ?_)
    refine ExL.nil ?_
    refine Ex.cond rfl (fun hb3 => ?_) (fun hb3 => ?_)
    · refine Ex.region (ExL.pures 1 rfl ?_)
      refine ExL.free (by first | exact fr_neg64 rfl rfl (by omega) | exact fr_neg rfl rfl) rfl rfl rfl ?_
      refine ExL.pures 1 rfl ?_
      refine ExL.nil ?_
      refine Ex.seq ?_
      refine Ex.regSeq (ExL.pures 1 rfl ?_)
      refine ExL.leq rfl rfl rfl rfl rfl rfl (fun h4 => ?_) (fun h4 => ?_)
      · refine ExL.nil ?_
        refine Ex.cond_t rfl ?_
        refine Ex.region (ExL.pures 4 rfl ?_)
        refine ExL.free (fr_load rfl rfl rfl rfl (CellO.at 0 (Reads.old hp) rfl)) rfl rfl rfl ?_
        refine ExL.op rfl (op_ret rfl rfl rfl (c_l01Size _ (by assumption) _ _ (by first | assumption | omega | (unfold maxLen; omega))) (Reads.get (Reads.old hd)) rfl rfl (fun x5 hx5 => ?_))
        refine ExL.free (by first | exact fr_add64 rfl rfl rfl (by omega) | exact fr_add rfl rfl rfl) rfl rfl rfl ?_
        refine ExL.pures 1 rfl ?_
        refine ExL.nil ?_
        refine Ex.regSeq (ExL.pures 2 rfl ?_)
        refine ExL.nil ?_
        refine Ex.ret ?_
        refine RetQ.mk () rfl (.tmp rfl .nil) (tI (by first | rw [if_pos (by assumption)] | (rw [if_neg (by assumption)]; subst_vars; (first | rw [un_t] | rw [un_f]); first | (rw [until_small (by omega) (by omega) (by omega)]; omega) | rw [until_big (by omega) (by omega) (by omega)]))) [] (rfl) rfl (trivial)
      · refine ExL.nil ?_
        refine Ex.cond_f rfl ?_
        refine Ex.skip ?_
        refine Ex.regSeq (ExL.pures 2 rfl ?_)
        refine ExL.nil ?_
        refine Ex.ret ?_
        refine RetQ.mk () rfl (.tmp rfl .nil) (tI (by first | rw [if_pos (by assumption)] | (rw [if_neg (by assumption)]; subst_vars; (first | rw [un_t] | rw [un_f]); first | (rw [until_small (by omega) (by omega) (by omega)]; omega) | rw [until_big (by omega) (by omega) (by omega)]))) [] (rfl) rfl (trivial)
    · refine Ex.skip ?_
      refine Ex.seq ?_
      refine Ex.regSeq (ExL.pures 1 rfl ?_)
      refine ExL.leq rfl rfl rfl rfl rfl rfl (fun h6 => ?_) (fun h6 => ?_)
      · refine ExL.nil ?_
        refine Ex.cond_t rfl ?_
        refine Ex.region (ExL.pures 4 rfl ?_)
        refine ExL.free (fr_load rfl rfl rfl rfl (CellO.at 0 (Reads.old hp) rfl)) rfl rfl rfl ?_
        refine ExL.op rfl (op_ret rfl rfl rfl (c_l01Size _ (by assumption) _ _ (by first | assumption | omega | (unfold maxLen; omega))) (Reads.get (Reads.old hd)) rfl rfl (fun x7 hx7 => ?_))
        refine ExL.free (by first | exact fr_add64 rfl rfl rfl (by omega) | exact fr_add rfl rfl rfl) rfl rfl rfl ?_
        refine ExL.pures 1 rfl ?_
        refine ExL.nil ?_
        refine Ex.regSeq (ExL.pures 2 rfl ?_)
        refine ExL.nil ?_
        refine Ex.ret ?_
        refine RetQ.mk () rfl (.tmp rfl .nil) (tI (by first | rw [if_pos (by assumption)] | (rw [if_neg (by assumption)]; subst_vars; (first | rw [un_t] | rw [un_f]); first | (rw [until_small (by omega) (by omega) (by omega)]; omega) | rw [until_big (by omega) (by omega) (by omega)]))) [] (rfl) rfl (trivial)
      · refine ExL.nil ?_
        refine Ex.cond_f rfl ?_
        refine Ex.skip ?_
        refine Ex.regSeq (ExL.pures 2 rfl ?_)
        refine ExL.nil ?_
        refine Ex.ret ?_
        refine RetQ.mk () rfl (.tmp rfl .nil) (tI (by first | rw [if_pos (by assumption)] | (rw [if_neg (by assumption)]; subst_vars; (first | rw [un_t] | rw [un_f]); first | (rw [until_small (by omega) (by omega) (by omega)]; omega) | rw [until_big (by omega) (by omega) (by omega)]))) [] (rfl) rfl (trivial)
theorem c_lu_f (d : VDev) (hk : OkDev d) (hv : validDev d = true) (Ad : Option Addr) (cd : Nat) (b : Nat) : Ret Tryz.prog 130 [.pointer (some ⟨b, 0, none⟩), .bool false] (fun w => Rd w (some ⟨b, 0, none⟩) (encV Ad cd d) ∧ Rd w Ad (d.stack.flatMap (eI .u8))) (fun x : Unit => .int .i64 (untilW d (1))) (fun x => []) (fun x => True) := c_l07Until d hk hv Ad cd b false
theorem c_lu_t (d : VDev) (hk : OkDev d) (hv : validDev d = true) (Ad : Option Addr) (cd : Nat) (b : Nat) : Ret Tryz.prog 130 [.pointer (some ⟨b, 0, none⟩), .bool true] (fun w => Rd w (some ⟨b, 0, none⟩) (encV Ad cd d) ∧ Rd w Ad (d.stack.flatMap (eI .u8))) (fun x : Unit => .int .i64 (untilW d (-1))) (fun x => []) (fun x => True) := c_l07Until d hk hv Ad cd b true
theorem e_91 : Enters Tryz.prog 91 := Enters.of Tryz.func91 rfl
theorem c_pulse (d : VDev) (hk : OkDev d) (hv : validDev d = true) (Ad : Option Addr) (cd : Nat) (b : Nat) (n st : Int) (hn : 0 ≤ n ∧ n ≤ 1000000000000) (hst : st = 1 ∨ st = -1) : Mut Tryz.prog 91 [.pointer (some ⟨b, 0, none⟩), .int .i64 n, .int .i64 st] [.blk b (encV Ad cd d) 43, .row (.slice Ad d.stack.length cd) 5 1 d.stack.length (d.stack.flatMap (eI .u8))] (fun base w0 F => True) (fun x : Unit => .int .i64 (pulseV d n st).2) (fun x => [.blk b (encV Ad cd (pulseV d n st).1) 43, .row (.slice Ad d.stack.length cd) 5 1 d.stack.length (d.stack.flatMap (eI .u8))]) (fun x => True) := by
  refine Mut.of e_91 Tryz.func91 rfl Tryz.ntmps91 rfl rfl (fun base w0 F hfr => ?_)
  have hkk := hk
  obtain ⟨hl, hu, ha, hpp, htt⟩ := hk
  have hO := devOk ha hv
  have hvs : validStack d.stack = true := by unfold validDev at hv; rw [decide_eq_true_iff] at hv; exact hv.1
  have hvd := hO.vd
  have hm0 : maxLen = 9223372036854775807 := rfl
  have hz := sizeS hO
  have hle := hO.stk.le
  have hps := hO.stk.pos
  have hlt : 0 ≤ val d.stack d.shows.l ∧ val d.stack d.shows.l < prod d.stack := hO.v_lt
  have hpr := hO.preset
  have htk := hO.tick
  have hub := until_bd hO st
  have hst1 : st * (n - (n - untilV d st)) = st * untilV d st := by rw [show n - (n - untilV d st) = untilV d st by omega]
  have hst2 : st * (n - 0) = st * n := by rw [Int.sub_zero]
  have hst3 : -1000000000000 ≤ st * untilV d st ∧ st * untilV d st ≤ 1000000000000 := by rcases hst with rfl | rfl <;> omega
  have hst4 : -1000000000000 ≤ st * n ∧ st * n ≤ 1000000000000 := by rcases hst with rfl | rfl <;> omega
  refine Ex.regSeq (ExL.pures 1 rfl ?_)
  refine ExL.nil ?_
  refine Ex.regSeq (ExL.pures 1 rfl ?_)
  refine ExL.nil ?_
  refine Ex.seq ?_
  refine Ex.block ?_
  refine Ex.regSeq (ExL.pures 3 rfl ?_)
  refine ExL.free (fr_load rfl rfl rfl rfl (CellO.blk (i := 0) rfl rfl)) rfl rfl rfl ?_
  refine ExL.pures 1 rfl ?_
  refine ExL.nil ?_
  refine Ex.cond rfl (fun hb1 => ?_) (fun hb1 => ?_)
  · refine Ex.regSeq (ExL.pures 2 rfl ?_)
    refine ExL.nil ?_
    refine Ex.ret ?_
    refine MutQ.mk () rfl (.tmp rfl .nil) (tI (by first | (rw [pv_stop (by assumption)]; first | done | rfl) | (rw [pv_hit (by assumption) ⟨by omega, by omega⟩]; first | done | rfl) | (rw [pv_on (by assumption) (by omega)]; first | done | rfl))) 2 [0, 1] (by first | (rw [pv_stop (by assumption)]; first | done | rfl) | (rw [pv_hit (by assumption) ⟨by omega, by omega⟩, ← hst1]; first | done | rfl) | (rw [pv_on (by assumption) (by omega), ← hst2]; first | done | rfl)) rfl (trivial)
  · refine Ex.regSeq (ExL.pures 3 rfl ?_)
    refine ExL.free (fr_load rfl rfl rfl rfl (CellO.blk (i := 0) rfl rfl)) rfl rfl rfl ?_
    refine ExL.neq rfl rfl rfl rfl rfl rfl (fun h2 => ?_) (fun h2 => ?_)
    · refine ExL.pures 4 rfl ?_
      refine ExL.op rfl (op_ret rfl rfl rfl (c_until d (by first | assumption | exact ⟨by assumption, by assumption, by assumption, by assumption, by assumption⟩) (by assumption) _ _ _ (st) (by first | assumption | decide | omega)) (fun w hw => ⟨Reads.get (Reads.blk (i := 0) rfl) w hw, Reads.get (Reads.row (i := 1) rfl) w hw⟩) rfl rfl (fun x3 hx3 => ?_))
      refine ExL.geq rfl rfl rfl rfl rfl rfl (fun h4 => ?_) (fun h4 => ?_)
      · refine ExL.pures 2 rfl ?_
        refine ExL.nil ?_
        refine Ex.cond_t rfl ?_
        refine Ex.regSeq (ExL.pures 3 rfl ?_)
        refine ExL.op rfl (op_ret rfl rfl rfl (c_until d (by first | assumption | exact ⟨by assumption, by assumption, by assumption, by assumption, by assumption⟩) (by assumption) _ _ _ (st) (by first | assumption | decide | omega)) (fun w hw => ⟨Reads.get (Reads.blk (i := 0) rfl) w hw, Reads.get (Reads.row (i := 1) rfl) w hw⟩) rfl rfl (fun x5 hx5 => ?_))
        refine ExL.free (by first | exact fr_sub64 rfl rfl rfl (by omega) | exact fr_sub rfl rfl rfl) rfl rfl rfl ?_
        refine ExL.pures 1 rfl ?_
        refine ExL.nil ?_
        refine Ex.region (ExL.pures 3 rfl ?_)
        refine ExL.op rfl (op_storeC (i := 0) rfl rfl rfl rfl rfl rfl rfl rfl rfl rfl ?_)
        refine ExL.nil ?_
        refine Ex.drawSeqI [1] rfl rfl ?_
        refine ExD.take (i := 0) rfl (by kernel_rfl) (pureVal_ok rfl) ((List.Sublist.cons _ (List.Sublist.cons_cons _ (List.nil_sublist _)))) rfl rfl rfl ?_
        refine ExD.take (i := 1) rfl (by kernel_rfl) (pureVal_ok rfl) ((List.Sublist.cons _ (List.Sublist.cons_cons _ (List.nil_sublist _)))) rfl rfl rfl ?_
        refine ExD.take (i := 2) rfl (by kernel_rfl) (pureVal_ok rfl) ((List.Sublist.cons _ (List.Sublist.cons_cons _ (List.nil_sublist _)))) rfl rfl rfl ?_
        refine ExD.take (i := 3) rfl (by kernel_rfl) (pureVal_ok rfl) ((List.Sublist.cons _ (List.Sublist.cons_cons _ (List.nil_sublist _)))) rfl rfl rfl ?_
        refine ExD.take (i := 5) rfl (by kernel_rfl) (pureVal_ok rfl) ((List.Sublist.cons _ (List.Sublist.cons_cons _ (List.nil_sublist _)))) rfl rfl rfl ?_
        refine ExD.take (i := 6) rfl (by kernel_rfl) (pureVal_ok rfl) ((List.Sublist.cons _ (List.Sublist.cons_cons _ (List.nil_sublist _)))) rfl rfl rfl ?_
        refine ExD.take (i := 7) rfl (by kernel_rfl) (pureVal_ok rfl) ((List.Sublist.cons _ (List.Sublist.cons_cons _ (List.nil_sublist _)))) rfl rfl rfl ?_
        refine ExD.take (i := 9) rfl (by kernel_rfl) (pureVal_ok rfl) ((List.Sublist.cons _ (List.Sublist.cons_cons _ (List.nil_sublist _)))) rfl rfl rfl ?_
        refine ExD.take (i := 10) rfl (by kernel_rfl) (pureVal_ok rfl) ((List.Sublist.cons _ (List.Sublist.cons_cons _ (List.nil_sublist _)))) rfl rfl rfl ?_
        refine ExD.take (i := 11) rfl (by kernel_rfl) (pureVal_ok rfl) ((List.Sublist.cons _ (List.Sublist.cons_cons _ (List.nil_sublist _)))) rfl rfl rfl ?_
        refine ExD.take (i := 12) rfl (by kernel_rfl) (by first | exact fr_sub64 rfl rfl rfl (by omega) | exact fr_sub rfl rfl rfl) ((List.Sublist.cons _ (List.Sublist.cons_cons _ (List.nil_sublist _)))) rfl rfl rfl ?_
        refine ExD.take (i := 13) rfl (by kernel_rfl) (by first | exact fr_mul64 rfl rfl rfl (by omega) | exact fr_mul rfl rfl rfl) ((List.Sublist.cons _ (List.Sublist.cons_cons _ (List.nil_sublist _)))) rfl rfl rfl ?_
        refine ExD.two (i := 4) (j := 8) rfl rfl (by kernel_rfl) (by kernel_rfl) (by kernel_rfl) rfl (List.Sublist.cons _ (List.Sublist.cons_cons _ (List.nil_sublist _))) rfl rfl rfl rfl rfl rfl rfl rfl rfl (fr_load rfl rfl rfl rfl (CellO.blk (i := 0) rfl rfl)) (fr_loadN rfl rfl rfl rfl rfl (SegO.part (i := 0) 8 rfl)) (fr_load rfl rfl rfl rfl (CellO.blk (i := 0) rfl rfl)) (fr_loadN rfl rfl rfl rfl rfl (SegO.part (i := 0) 8 rfl)) ?_
        refine ExD.op (i := 14) rfl (by kernel_rfl) rfl (op_ret rfl rfl rfl (c_added d.stack (by first | assumption | simp_all) _ _ d.shows (by assumption) (by first | assumption | simp_all) (by assumption) _ (by omega)) (Reads.get (Reads.row (i := 1) rfl)) rfl rfl (fun x6 hx6 => ⟨(List.Sublist.cons _ (List.Sublist.cons_cons _ (List.nil_sublist _))), ?_⟩))
        refine ExD.take (i := 15) rfl (by kernel_rfl) (pureVal_ok rfl) ((List.Sublist.cons _ (List.Sublist.cons_cons _ (List.nil_sublist _)))) rfl rfl rfl ?_
        refine ExD.take (i := 16) rfl (by kernel_rfl) (pureVal_ok rfl) ((List.Sublist.cons _ (List.Sublist.cons_cons _ (List.nil_sublist _)))) rfl rfl rfl ?_
        refine ExD.take (i := 17) rfl (by kernel_rfl) (pureVal_ok rfl) ((List.Sublist.cons _ (List.Sublist.cons_cons _ (List.nil_sublist _)))) rfl rfl rfl ?_
        refine ExD.take (i := 18) rfl (by kernel_rfl) (pureVal_ok rfl) ((List.Sublist.cons _ (List.Sublist.cons_cons _ (List.nil_sublist _)))) rfl rfl rfl ?_
        refine ExD.take (i := 19) rfl (by kernel_rfl) (pureVal_ok rfl) ((List.Sublist.cons _ (List.Sublist.cons_cons _ (List.nil_sublist _)))) rfl rfl rfl ?_
        refine ExD.op (i := 20) rfl (by kernel_rfl) rfl (op_storeC (i := 0) rfl rfl rfl rfl rfl rfl rfl rfl rfl rfl ⟨(List.Sublist.cons _ (List.Sublist.cons_cons _ (List.nil_sublist _))), ?_⟩)
        refine ExD.done (by kernel_rfl) ?_
        refine Ex.regSeq (ExL.pures 2 rfl ?_)
        refine ExL.nil ?_
        refine Ex.ret ?_
        refine MutQ.mk () rfl (.tmp rfl .nil) (tI (by first | (rw [pv_stop (by assumption)]; first | done | rfl) | (rw [pv_hit (by assumption) ⟨by omega, by omega⟩]; first | done | rfl) | (rw [pv_on (by assumption) (by omega)]; first | done | rfl))) 2 [0, 1] (by first | (rw [pv_stop (by assumption)]; first | done | rfl) | (rw [pv_hit (by assumption) ⟨by omega, by omega⟩, ← hst1]; first | done | rfl) | (rw [pv_on (by assumption) (by omega), ← hst2]; first | done | rfl)) rfl (trivial)
      · refine ExL.pures 2 rfl ?_
        refine ExL.nil ?_
        refine Ex.cond_f rfl ?_
        refine Ex.skip ?_
        refine Ex.drawSeqI [1] rfl rfl ?_
        refine ExD.take (i := 0) rfl (by kernel_rfl) (pureVal_ok rfl) ((List.Sublist.cons _ (List.Sublist.cons_cons _ (List.nil_sublist _)))) rfl rfl rfl ?_
        refine ExD.take (i := 1) rfl (by kernel_rfl) (pureVal_ok rfl) ((List.Sublist.cons _ (List.Sublist.cons_cons _ (List.nil_sublist _)))) rfl rfl rfl ?_
        refine ExD.take (i := 2) rfl (by kernel_rfl) (pureVal_ok rfl) ((List.Sublist.cons _ (List.Sublist.cons_cons _ (List.nil_sublist _)))) rfl rfl rfl ?_
        refine ExD.take (i := 3) rfl (by kernel_rfl) (pureVal_ok rfl) ((List.Sublist.cons _ (List.Sublist.cons_cons _ (List.nil_sublist _)))) rfl rfl rfl ?_
        refine ExD.take (i := 5) rfl (by kernel_rfl) (pureVal_ok rfl) ((List.Sublist.cons _ (List.Sublist.cons_cons _ (List.nil_sublist _)))) rfl rfl rfl ?_
        refine ExD.take (i := 6) rfl (by kernel_rfl) (pureVal_ok rfl) ((List.Sublist.cons _ (List.Sublist.cons_cons _ (List.nil_sublist _)))) rfl rfl rfl ?_
        refine ExD.take (i := 7) rfl (by kernel_rfl) (pureVal_ok rfl) ((List.Sublist.cons _ (List.Sublist.cons_cons _ (List.nil_sublist _)))) rfl rfl rfl ?_
        refine ExD.take (i := 9) rfl (by kernel_rfl) (pureVal_ok rfl) ((List.Sublist.cons _ (List.Sublist.cons_cons _ (List.nil_sublist _)))) rfl rfl rfl ?_
        refine ExD.take (i := 10) rfl (by kernel_rfl) (pureVal_ok rfl) ((List.Sublist.cons _ (List.Sublist.cons_cons _ (List.nil_sublist _)))) rfl rfl rfl ?_
        refine ExD.take (i := 11) rfl (by kernel_rfl) (pureVal_ok rfl) ((List.Sublist.cons _ (List.Sublist.cons_cons _ (List.nil_sublist _)))) rfl rfl rfl ?_
        refine ExD.take (i := 12) rfl (by kernel_rfl) (by first | exact fr_sub64 rfl rfl rfl (by omega) | exact fr_sub rfl rfl rfl) ((List.Sublist.cons _ (List.Sublist.cons_cons _ (List.nil_sublist _)))) rfl rfl rfl ?_
        refine ExD.take (i := 13) rfl (by kernel_rfl) (by first | exact fr_mul64 rfl rfl rfl (by omega) | exact fr_mul rfl rfl rfl) ((List.Sublist.cons _ (List.Sublist.cons_cons _ (List.nil_sublist _)))) rfl rfl rfl ?_
        refine ExD.two (i := 4) (j := 8) rfl rfl (by kernel_rfl) (by kernel_rfl) (by kernel_rfl) rfl (List.Sublist.cons _ (List.Sublist.cons_cons _ (List.nil_sublist _))) rfl rfl rfl rfl rfl rfl rfl rfl rfl (fr_load rfl rfl rfl rfl (CellO.blk (i := 0) rfl rfl)) (fr_loadN rfl rfl rfl rfl rfl (SegO.part (i := 0) 8 rfl)) (fr_load rfl rfl rfl rfl (CellO.blk (i := 0) rfl rfl)) (fr_loadN rfl rfl rfl rfl rfl (SegO.part (i := 0) 8 rfl)) ?_
        refine ExD.op (i := 14) rfl (by kernel_rfl) rfl (op_ret rfl rfl rfl (c_added d.stack (by first | assumption | simp_all) _ _ d.shows (by assumption) (by first | assumption | simp_all) (by assumption) _ (by omega)) (Reads.get (Reads.row (i := 1) rfl)) rfl rfl (fun x7 hx7 => ⟨(List.Sublist.cons _ (List.Sublist.cons_cons _ (List.nil_sublist _))), ?_⟩))
        refine ExD.take (i := 15) rfl (by kernel_rfl) (pureVal_ok rfl) ((List.Sublist.cons _ (List.Sublist.cons_cons _ (List.nil_sublist _)))) rfl rfl rfl ?_
        refine ExD.take (i := 16) rfl (by kernel_rfl) (pureVal_ok rfl) ((List.Sublist.cons _ (List.Sublist.cons_cons _ (List.nil_sublist _)))) rfl rfl rfl ?_
        refine ExD.take (i := 17) rfl (by kernel_rfl) (pureVal_ok rfl) ((List.Sublist.cons _ (List.Sublist.cons_cons _ (List.nil_sublist _)))) rfl rfl rfl ?_
        refine ExD.take (i := 18) rfl (by kernel_rfl) (pureVal_ok rfl) ((List.Sublist.cons _ (List.Sublist.cons_cons _ (List.nil_sublist _)))) rfl rfl rfl ?_
        refine ExD.take (i := 19) rfl (by kernel_rfl) (pureVal_ok rfl) ((List.Sublist.cons _ (List.Sublist.cons_cons _ (List.nil_sublist _)))) rfl rfl rfl ?_
        refine ExD.op (i := 20) rfl (by kernel_rfl) rfl (op_storeC (i := 0) rfl rfl rfl rfl rfl rfl rfl rfl rfl rfl ⟨(List.Sublist.cons _ (List.Sublist.cons_cons _ (List.nil_sublist _))), ?_⟩)
        refine ExD.done (by kernel_rfl) ?_
        refine Ex.regSeq (ExL.pures 2 rfl ?_)
        refine ExL.nil ?_
        refine Ex.ret ?_
        refine MutQ.mk () rfl (.tmp rfl .nil) (tI (by first | (rw [pv_stop (by assumption)]; first | done | rfl) | (rw [pv_hit (by assumption) ⟨by omega, by omega⟩]; first | done | rfl) | (rw [pv_on (by assumption) (by omega)]; first | done | rfl))) 2 [0, 1] (by first | (rw [pv_stop (by assumption)]; first | done | rfl) | (rw [pv_hit (by assumption) ⟨by omega, by omega⟩, ← hst1]; first | done | rfl) | (rw [pv_on (by assumption) (by omega), ← hst2]; first | done | rfl)) rfl (trivial)
    · refine ExL.pures 8 rfl ?_
      refine ExL.nil ?_
      refine Ex.cond_f rfl ?_
      refine Ex.skip ?_
      refine Ex.drawSeqI [1] rfl rfl ?_
      refine ExD.take (i := 0) rfl (by kernel_rfl) (pureVal_ok rfl) ((List.Sublist.cons _ (List.Sublist.cons_cons _ (List.nil_sublist _)))) rfl rfl rfl ?_
      refine ExD.take (i := 1) rfl (by kernel_rfl) (pureVal_ok rfl) ((List.Sublist.cons _ (List.Sublist.cons_cons _ (List.nil_sublist _)))) rfl rfl rfl ?_
      refine ExD.take (i := 2) rfl (by kernel_rfl) (pureVal_ok rfl) ((List.Sublist.cons _ (List.Sublist.cons_cons _ (List.nil_sublist _)))) rfl rfl rfl ?_
      refine ExD.take (i := 3) rfl (by kernel_rfl) (pureVal_ok rfl) ((List.Sublist.cons _ (List.Sublist.cons_cons _ (List.nil_sublist _)))) rfl rfl rfl ?_
      refine ExD.take (i := 5) rfl (by kernel_rfl) (pureVal_ok rfl) ((List.Sublist.cons _ (List.Sublist.cons_cons _ (List.nil_sublist _)))) rfl rfl rfl ?_
      refine ExD.take (i := 6) rfl (by kernel_rfl) (pureVal_ok rfl) ((List.Sublist.cons _ (List.Sublist.cons_cons _ (List.nil_sublist _)))) rfl rfl rfl ?_
      refine ExD.take (i := 7) rfl (by kernel_rfl) (pureVal_ok rfl) ((List.Sublist.cons _ (List.Sublist.cons_cons _ (List.nil_sublist _)))) rfl rfl rfl ?_
      refine ExD.take (i := 9) rfl (by kernel_rfl) (pureVal_ok rfl) ((List.Sublist.cons _ (List.Sublist.cons_cons _ (List.nil_sublist _)))) rfl rfl rfl ?_
      refine ExD.take (i := 10) rfl (by kernel_rfl) (pureVal_ok rfl) ((List.Sublist.cons _ (List.Sublist.cons_cons _ (List.nil_sublist _)))) rfl rfl rfl ?_
      refine ExD.take (i := 11) rfl (by kernel_rfl) (pureVal_ok rfl) ((List.Sublist.cons _ (List.Sublist.cons_cons _ (List.nil_sublist _)))) rfl rfl rfl ?_
      refine ExD.take (i := 12) rfl (by kernel_rfl) (by first | exact fr_sub64 rfl rfl rfl (by omega) | exact fr_sub rfl rfl rfl) ((List.Sublist.cons _ (List.Sublist.cons_cons _ (List.nil_sublist _)))) rfl rfl rfl ?_
      refine ExD.take (i := 13) rfl (by kernel_rfl) (by first | exact fr_mul64 rfl rfl rfl (by omega) | exact fr_mul rfl rfl rfl) ((List.Sublist.cons _ (List.Sublist.cons_cons _ (List.nil_sublist _)))) rfl rfl rfl ?_
      refine ExD.two (i := 4) (j := 8) rfl rfl (by kernel_rfl) (by kernel_rfl) (by kernel_rfl) rfl (List.Sublist.cons _ (List.Sublist.cons_cons _ (List.nil_sublist _))) rfl rfl rfl rfl rfl rfl rfl rfl rfl (fr_load rfl rfl rfl rfl (CellO.blk (i := 0) rfl rfl)) (fr_loadN rfl rfl rfl rfl rfl (SegO.part (i := 0) 8 rfl)) (fr_load rfl rfl rfl rfl (CellO.blk (i := 0) rfl rfl)) (fr_loadN rfl rfl rfl rfl rfl (SegO.part (i := 0) 8 rfl)) ?_
      refine ExD.op (i := 14) rfl (by kernel_rfl) rfl (op_ret rfl rfl rfl (c_added d.stack (by first | assumption | simp_all) _ _ d.shows (by assumption) (by first | assumption | simp_all) (by assumption) _ (by omega)) (Reads.get (Reads.row (i := 1) rfl)) rfl rfl (fun x8 hx8 => ⟨(List.Sublist.cons _ (List.Sublist.cons_cons _ (List.nil_sublist _))), ?_⟩))
      refine ExD.take (i := 15) rfl (by kernel_rfl) (pureVal_ok rfl) ((List.Sublist.cons _ (List.Sublist.cons_cons _ (List.nil_sublist _)))) rfl rfl rfl ?_
      refine ExD.take (i := 16) rfl (by kernel_rfl) (pureVal_ok rfl) ((List.Sublist.cons _ (List.Sublist.cons_cons _ (List.nil_sublist _)))) rfl rfl rfl ?_
      refine ExD.take (i := 17) rfl (by kernel_rfl) (pureVal_ok rfl) ((List.Sublist.cons _ (List.Sublist.cons_cons _ (List.nil_sublist _)))) rfl rfl rfl ?_
      refine ExD.take (i := 18) rfl (by kernel_rfl) (pureVal_ok rfl) ((List.Sublist.cons _ (List.Sublist.cons_cons _ (List.nil_sublist _)))) rfl rfl rfl ?_
      refine ExD.take (i := 19) rfl (by kernel_rfl) (pureVal_ok rfl) ((List.Sublist.cons _ (List.Sublist.cons_cons _ (List.nil_sublist _)))) rfl rfl rfl ?_
      refine ExD.op (i := 20) rfl (by kernel_rfl) rfl (op_storeC (i := 0) rfl rfl rfl rfl rfl rfl rfl rfl rfl rfl ⟨(List.Sublist.cons _ (List.Sublist.cons_cons _ (List.nil_sublist _))), ?_⟩)
      refine ExD.done (by kernel_rfl) ?_
      refine Ex.regSeq (ExL.pures 2 rfl ?_)
      refine ExL.nil ?_
      refine Ex.ret ?_
      refine MutQ.mk () rfl (.tmp rfl .nil) (tI (by first | (rw [pv_stop (by assumption)]; first | done | rfl) | (rw [pv_hit (by assumption) ⟨by omega, by omega⟩]; first | done | rfl) | (rw [pv_on (by assumption) (by omega)]; first | done | rfl))) 2 [0, 1] (by first | (rw [pv_stop (by assumption)]; first | done | rfl) | (rw [pv_hit (by assumption) ⟨by omega, by omega⟩, ← hst1]; first | done | rfl) | (rw [pv_on (by assumption) (by omega), ← hst2]; first | done | rfl)) rfl (trivial)
theorem e_95 : Enters Tryz.prog 95 := Enters.of Tryz.func95 rfl
theorem c_l07Count_f (d : VDev) (hk : OkDev d) (hv : validDev d = true) (Ad : Option Addr) (cd : Nat) (b : Nat) (n : Int) (hn : 0 ≤ n ∧ n ≤ 1000000000000) : Mut Tryz.prog 95 [.pointer (some ⟨b, 0, none⟩), .int .i64 n, .bool false] [.blk b (encV Ad cd d) 43, .row (.slice Ad d.stack.length cd) 5 1 d.stack.length (d.stack.flatMap (eI .u8))] (fun base w0 F => True) (fun x : Unit => .int .i64 (pulseV d n (1)).2) (fun x => [.blk b (encV Ad cd (pulseV d n (1)).1) 43, .row (.slice Ad d.stack.length cd) 5 1 d.stack.length (d.stack.flatMap (eI .u8))]) (fun x => True) := by
  refine Mut.of e_95 Tryz.func95 rfl Tryz.ntmps95 rfl rfl (fun base w0 F hfr => ?_)
  have hkk := hk
  obtain ⟨hl, hu, ha, hpp, htt⟩ := hk
  have hO := devOk ha hv
  have hvs : validStack d.stack = true := by unfold validDev at hv; rw [decide_eq_true_iff] at hv; exact hv.1
  have hvd := hO.vd
  have hm0 : maxLen = 9223372036854775807 := rfl
  have hz := sizeS hO
  have hle := hO.stk.le
  have hps := hO.stk.pos
  have hlt : 0 ≤ val d.stack d.shows.l ∧ val d.stack d.shows.l < prod d.stack := hO.v_lt
  have hpr := hO.preset
  have htk := hO.tick
  have hub := until_bd hO (1)
  have huw := uw (d := d) (st := 1)
  refine Ex.regSeq (ExL.pures 1 rfl ?_)
  refine ExL.nil ?_
  refine Ex.seq ?_
  refine Ex.regSeq (ExL.pures 3 rfl ?_)
  refine ExL.free (fr_load rfl rfl rfl rfl (CellO.blk (i := 0) rfl rfl)) rfl rfl rfl ?_
  refine ExL.nil ?_
  refine Ex.cond rfl (fun hb1 => ?_) (fun hb1 => ?_)
  · refine Ex.regSeq (ExL.pures 2 rfl ?_)
    refine ExL.nil ?_
    refine Ex.ret ?_
    refine MutQ.mk () rfl (.tmp rfl .nil) (tI (by first | (rw [pv_stop (by assumption)]; first | done | rfl) | (rw [uw_pos (d := d) (st := 1) (by omega), pv_hit (by assumption) ⟨by omega, by omega⟩]; first | done | rfl) | (rw [pv_on (by assumption) (by omega)]; first | done | rfl))) 2 [0, 1] (by first | (rw [pv_stop (by assumption)]; first | done | rfl) | (rw [uw_pos (d := d) (st := 1) (by omega), pv_hit (by assumption) ⟨by omega, by omega⟩, Int.one_mul]; first | done | rfl) | (rw [pv_on (by assumption) (by omega), Int.one_mul]; first | done | rfl)) rfl (trivial)
  · refine Ex.skip ?_
    refine Ex.regSeq (ExL.pures 2 rfl ?_)
    refine ExL.op rfl (op_ret rfl rfl rfl (c_lu_f d (by first | assumption | exact ⟨by assumption, by assumption, by assumption, by assumption, by assumption⟩) (by assumption) _ _ _) (fun w hw => ⟨Reads.get (Reads.blk (i := 0) rfl) w hw, Reads.get (Reads.row (i := 1) rfl) w hw⟩) rfl rfl (fun x2 hx2 => ?_))
    refine ExL.pures 1 rfl ?_
    refine ExL.nil ?_
    refine Ex.regSeq (ExL.pures 1 rfl ?_)
    refine ExL.nil ?_
    refine Ex.seq ?_
    refine Ex.regSeq (ExL.pures 1 rfl ?_)
    refine ExL.geq rfl rfl rfl rfl rfl rfl (fun h3 => ?_) (fun h3 => ?_)
    · refine ExL.pures 3 rfl ?_
      refine ExL.geq rfl rfl rfl rfl rfl rfl (fun h4 => ?_) (fun h4 => ?_)
      · refine ExL.pures 1 rfl ?_
        refine ExL.nil ?_
        refine Ex.cond_t rfl ?_
        refine Ex.regSeq (ExL.pures 2 rfl ?_)
        refine ExL.free (by first | exact fr_sub64 rfl rfl rfl (by omega) | exact fr_sub rfl rfl rfl) rfl rfl rfl ?_
        refine ExL.pures 1 rfl ?_
        refine ExL.nil ?_
        refine Ex.regSeq (ExL.pures 2 rfl ?_)
        refine ExL.nil ?_
        refine Ex.region (ExL.pures 3 rfl ?_)
        refine ExL.op rfl (op_storeC (i := 0) rfl rfl rfl rfl rfl rfl rfl rfl rfl rfl ?_)
        refine ExL.nil ?_
        refine Ex.seq ?_
        refine Ex.regSeq (ExL.pures 1 rfl ?_)
        refine ExL.nil ?_
        refine Ex.cond_f rfl ?_
        refine Ex.skip ?_
        refine Ex.drawSeqI [1] rfl rfl ?_
        refine ExD.take (i := 0) rfl (by kernel_rfl) (pureVal_ok rfl) ((List.Sublist.cons _ (List.Sublist.cons_cons _ (List.nil_sublist _)))) rfl rfl rfl ?_
        refine ExD.take (i := 1) rfl (by kernel_rfl) (pureVal_ok rfl) ((List.Sublist.cons _ (List.Sublist.cons_cons _ (List.nil_sublist _)))) rfl rfl rfl ?_
        refine ExD.take (i := 2) rfl (by kernel_rfl) (pureVal_ok rfl) ((List.Sublist.cons _ (List.Sublist.cons_cons _ (List.nil_sublist _)))) rfl rfl rfl ?_
        refine ExD.take (i := 3) rfl (by kernel_rfl) (pureVal_ok rfl) ((List.Sublist.cons _ (List.Sublist.cons_cons _ (List.nil_sublist _)))) rfl rfl rfl ?_
        refine ExD.take (i := 5) rfl (by kernel_rfl) (pureVal_ok rfl) ((List.Sublist.cons _ (List.Sublist.cons_cons _ (List.nil_sublist _)))) rfl rfl rfl ?_
        refine ExD.take (i := 6) rfl (by kernel_rfl) (pureVal_ok rfl) ((List.Sublist.cons _ (List.Sublist.cons_cons _ (List.nil_sublist _)))) rfl rfl rfl ?_
        refine ExD.take (i := 7) rfl (by kernel_rfl) (pureVal_ok rfl) ((List.Sublist.cons _ (List.Sublist.cons_cons _ (List.nil_sublist _)))) rfl rfl rfl ?_
        refine ExD.take (i := 9) rfl (by kernel_rfl) (pureVal_ok rfl) ((List.Sublist.cons _ (List.Sublist.cons_cons _ (List.nil_sublist _)))) rfl rfl rfl ?_
        refine ExD.two (i := 4) (j := 8) rfl rfl (by kernel_rfl) (by kernel_rfl) (by kernel_rfl) rfl (List.Sublist.cons _ (List.Sublist.cons_cons _ (List.nil_sublist _))) rfl rfl rfl rfl rfl rfl rfl rfl rfl (fr_load rfl rfl rfl rfl (CellO.blk (i := 0) rfl rfl)) (fr_loadN rfl rfl rfl rfl rfl (SegO.part (i := 0) 8 rfl)) (fr_load rfl rfl rfl rfl (CellO.blk (i := 0) rfl rfl)) (fr_loadN rfl rfl rfl rfl rfl (SegO.part (i := 0) 8 rfl)) ?_
        refine ExD.op (i := 10) rfl (by kernel_rfl) rfl (op_ret rfl rfl rfl (c_l01Add d.stack (by first | assumption | simp_all) _ _ d.shows (by assumption) (by first | assumption | simp_all) (by assumption) _ (by omega)) (Reads.get (Reads.row (i := 1) rfl)) rfl rfl (fun x5 hx5 => ⟨(List.Sublist.cons _ (List.Sublist.cons_cons _ (List.nil_sublist _))), ?_⟩))
        refine ExD.take (i := 11) rfl (by kernel_rfl) (pureVal_ok rfl) ((List.Sublist.cons _ (List.Sublist.cons_cons _ (List.nil_sublist _)))) rfl rfl rfl ?_
        refine ExD.take (i := 12) rfl (by kernel_rfl) (pureVal_ok rfl) ((List.Sublist.cons _ (List.Sublist.cons_cons _ (List.nil_sublist _)))) rfl rfl rfl ?_
        refine ExD.take (i := 13) rfl (by kernel_rfl) (pureVal_ok rfl) ((List.Sublist.cons _ (List.Sublist.cons_cons _ (List.nil_sublist _)))) rfl rfl rfl ?_
        refine ExD.take (i := 14) rfl (by kernel_rfl) (pureVal_ok rfl) ((List.Sublist.cons _ (List.Sublist.cons_cons _ (List.nil_sublist _)))) rfl rfl rfl ?_
        refine ExD.take (i := 15) rfl (by kernel_rfl) (pureVal_ok rfl) ((List.Sublist.cons _ (List.Sublist.cons_cons _ (List.nil_sublist _)))) rfl rfl rfl ?_
        refine ExD.op (i := 16) rfl (by kernel_rfl) rfl (op_storeC (i := 0) rfl rfl rfl rfl rfl rfl rfl rfl rfl rfl ⟨(List.Sublist.cons _ (List.Sublist.cons_cons _ (List.nil_sublist _))), ?_⟩)
        refine ExD.done (by kernel_rfl) ?_
        refine Ex.regSeq (ExL.pures 2 rfl ?_)
        refine ExL.nil ?_
        refine Ex.ret ?_
        refine MutQ.mk () rfl (.tmp rfl .nil) (tI (by first | (rw [pv_stop (by assumption)]; first | done | rfl) | (rw [uw_pos (d := d) (st := 1) (by omega), pv_hit (by assumption) ⟨by omega, by omega⟩]; first | done | rfl) | (rw [pv_on (by assumption) (by omega)]; first | done | rfl))) 2 [0, 1] (by first | (rw [pv_stop (by assumption)]; first | done | rfl) | (rw [uw_pos (d := d) (st := 1) (by omega), pv_hit (by assumption) ⟨by omega, by omega⟩, Int.one_mul]; first | done | rfl) | (rw [pv_on (by assumption) (by omega), Int.one_mul]; first | done | rfl)) rfl (trivial)
      · refine ExL.pures 1 rfl ?_
        refine ExL.nil ?_
        refine Ex.cond_f rfl ?_
        refine Ex.skip ?_
        refine Ex.seq ?_
        refine Ex.regSeq (ExL.pures 1 rfl ?_)
        refine ExL.nil ?_
        refine Ex.cond_f rfl ?_
        refine Ex.skip ?_
        refine Ex.drawSeqI [1] rfl rfl ?_
        refine ExD.take (i := 0) rfl (by kernel_rfl) (pureVal_ok rfl) ((List.Sublist.cons _ (List.Sublist.cons_cons _ (List.nil_sublist _)))) rfl rfl rfl ?_
        refine ExD.take (i := 1) rfl (by kernel_rfl) (pureVal_ok rfl) ((List.Sublist.cons _ (List.Sublist.cons_cons _ (List.nil_sublist _)))) rfl rfl rfl ?_
        refine ExD.take (i := 2) rfl (by kernel_rfl) (pureVal_ok rfl) ((List.Sublist.cons _ (List.Sublist.cons_cons _ (List.nil_sublist _)))) rfl rfl rfl ?_
        refine ExD.take (i := 3) rfl (by kernel_rfl) (pureVal_ok rfl) ((List.Sublist.cons _ (List.Sublist.cons_cons _ (List.nil_sublist _)))) rfl rfl rfl ?_
        refine ExD.take (i := 5) rfl (by kernel_rfl) (pureVal_ok rfl) ((List.Sublist.cons _ (List.Sublist.cons_cons _ (List.nil_sublist _)))) rfl rfl rfl ?_
        refine ExD.take (i := 6) rfl (by kernel_rfl) (pureVal_ok rfl) ((List.Sublist.cons _ (List.Sublist.cons_cons _ (List.nil_sublist _)))) rfl rfl rfl ?_
        refine ExD.take (i := 7) rfl (by kernel_rfl) (pureVal_ok rfl) ((List.Sublist.cons _ (List.Sublist.cons_cons _ (List.nil_sublist _)))) rfl rfl rfl ?_
        refine ExD.take (i := 9) rfl (by kernel_rfl) (pureVal_ok rfl) ((List.Sublist.cons _ (List.Sublist.cons_cons _ (List.nil_sublist _)))) rfl rfl rfl ?_
        refine ExD.two (i := 4) (j := 8) rfl rfl (by kernel_rfl) (by kernel_rfl) (by kernel_rfl) rfl (List.Sublist.cons _ (List.Sublist.cons_cons _ (List.nil_sublist _))) rfl rfl rfl rfl rfl rfl rfl rfl rfl (fr_load rfl rfl rfl rfl (CellO.blk (i := 0) rfl rfl)) (fr_loadN rfl rfl rfl rfl rfl (SegO.part (i := 0) 8 rfl)) (fr_load rfl rfl rfl rfl (CellO.blk (i := 0) rfl rfl)) (fr_loadN rfl rfl rfl rfl rfl (SegO.part (i := 0) 8 rfl)) ?_
        refine ExD.op (i := 10) rfl (by kernel_rfl) rfl (op_ret rfl rfl rfl (c_l01Add d.stack (by first | assumption | simp_all) _ _ d.shows (by assumption) (by first | assumption | simp_all) (by assumption) _ (by omega)) (Reads.get (Reads.row (i := 1) rfl)) rfl rfl (fun x6 hx6 => ⟨(List.Sublist.cons _ (List.Sublist.cons_cons _ (List.nil_sublist _))), ?_⟩))
        refine ExD.take (i := 11) rfl (by kernel_rfl) (pureVal_ok rfl) ((List.Sublist.cons _ (List.Sublist.cons_cons _ (List.nil_sublist _)))) rfl rfl rfl ?_
        refine ExD.take (i := 12) rfl (by kernel_rfl) (pureVal_ok rfl) ((List.Sublist.cons _ (List.Sublist.cons_cons _ (List.nil_sublist _)))) rfl rfl rfl ?_
        refine ExD.take (i := 13) rfl (by kernel_rfl) (pureVal_ok rfl) ((List.Sublist.cons _ (List.Sublist.cons_cons _ (List.nil_sublist _)))) rfl rfl rfl ?_
        refine ExD.take (i := 14) rfl (by kernel_rfl) (pureVal_ok rfl) ((List.Sublist.cons _ (List.Sublist.cons_cons _ (List.nil_sublist _)))) rfl rfl rfl ?_
        refine ExD.take (i := 15) rfl (by kernel_rfl) (pureVal_ok rfl) ((List.Sublist.cons _ (List.Sublist.cons_cons _ (List.nil_sublist _)))) rfl rfl rfl ?_
        refine ExD.op (i := 16) rfl (by kernel_rfl) rfl (op_storeC (i := 0) rfl rfl rfl rfl rfl rfl rfl rfl rfl rfl ⟨(List.Sublist.cons _ (List.Sublist.cons_cons _ (List.nil_sublist _))), ?_⟩)
        refine ExD.done (by kernel_rfl) ?_
        refine Ex.regSeq (ExL.pures 2 rfl ?_)
        refine ExL.nil ?_
        refine Ex.ret ?_
        refine MutQ.mk () rfl (.tmp rfl .nil) (tI (by first | (rw [pv_stop (by assumption)]; first | done | rfl) | (rw [uw_pos (d := d) (st := 1) (by omega), pv_hit (by assumption) ⟨by omega, by omega⟩]; first | done | rfl) | (rw [pv_on (by assumption) (by omega)]; first | done | rfl))) 2 [0, 1] (by first | (rw [pv_stop (by assumption)]; first | done | rfl) | (rw [uw_pos (d := d) (st := 1) (by omega), pv_hit (by assumption) ⟨by omega, by omega⟩, Int.one_mul]; first | done | rfl) | (rw [pv_on (by assumption) (by omega), Int.one_mul]; first | done | rfl)) rfl (trivial)
    · refine ExL.pures 5 rfl ?_
      refine ExL.nil ?_
      refine Ex.cond_f rfl ?_
      refine Ex.skip ?_
      refine Ex.seq ?_
      refine Ex.regSeq (ExL.pures 1 rfl ?_)
      refine ExL.nil ?_
      refine Ex.cond_f rfl ?_
      refine Ex.skip ?_
      refine Ex.drawSeqI [1] rfl rfl ?_
      refine ExD.take (i := 0) rfl (by kernel_rfl) (pureVal_ok rfl) ((List.Sublist.cons _ (List.Sublist.cons_cons _ (List.nil_sublist _)))) rfl rfl rfl ?_
      refine ExD.take (i := 1) rfl (by kernel_rfl) (pureVal_ok rfl) ((List.Sublist.cons _ (List.Sublist.cons_cons _ (List.nil_sublist _)))) rfl rfl rfl ?_
      refine ExD.take (i := 2) rfl (by kernel_rfl) (pureVal_ok rfl) ((List.Sublist.cons _ (List.Sublist.cons_cons _ (List.nil_sublist _)))) rfl rfl rfl ?_
      refine ExD.take (i := 3) rfl (by kernel_rfl) (pureVal_ok rfl) ((List.Sublist.cons _ (List.Sublist.cons_cons _ (List.nil_sublist _)))) rfl rfl rfl ?_
      refine ExD.take (i := 5) rfl (by kernel_rfl) (pureVal_ok rfl) ((List.Sublist.cons _ (List.Sublist.cons_cons _ (List.nil_sublist _)))) rfl rfl rfl ?_
      refine ExD.take (i := 6) rfl (by kernel_rfl) (pureVal_ok rfl) ((List.Sublist.cons _ (List.Sublist.cons_cons _ (List.nil_sublist _)))) rfl rfl rfl ?_
      refine ExD.take (i := 7) rfl (by kernel_rfl) (pureVal_ok rfl) ((List.Sublist.cons _ (List.Sublist.cons_cons _ (List.nil_sublist _)))) rfl rfl rfl ?_
      refine ExD.take (i := 9) rfl (by kernel_rfl) (pureVal_ok rfl) ((List.Sublist.cons _ (List.Sublist.cons_cons _ (List.nil_sublist _)))) rfl rfl rfl ?_
      refine ExD.two (i := 4) (j := 8) rfl rfl (by kernel_rfl) (by kernel_rfl) (by kernel_rfl) rfl (List.Sublist.cons _ (List.Sublist.cons_cons _ (List.nil_sublist _))) rfl rfl rfl rfl rfl rfl rfl rfl rfl (fr_load rfl rfl rfl rfl (CellO.blk (i := 0) rfl rfl)) (fr_loadN rfl rfl rfl rfl rfl (SegO.part (i := 0) 8 rfl)) (fr_load rfl rfl rfl rfl (CellO.blk (i := 0) rfl rfl)) (fr_loadN rfl rfl rfl rfl rfl (SegO.part (i := 0) 8 rfl)) ?_
      refine ExD.op (i := 10) rfl (by kernel_rfl) rfl (op_ret rfl rfl rfl (c_l01Add d.stack (by first | assumption | simp_all) _ _ d.shows (by assumption) (by first | assumption | simp_all) (by assumption) _ (by omega)) (Reads.get (Reads.row (i := 1) rfl)) rfl rfl (fun x7 hx7 => ⟨(List.Sublist.cons _ (List.Sublist.cons_cons _ (List.nil_sublist _))), ?_⟩))
      refine ExD.take (i := 11) rfl (by kernel_rfl) (pureVal_ok rfl) ((List.Sublist.cons _ (List.Sublist.cons_cons _ (List.nil_sublist _)))) rfl rfl rfl ?_
      refine ExD.take (i := 12) rfl (by kernel_rfl) (pureVal_ok rfl) ((List.Sublist.cons _ (List.Sublist.cons_cons _ (List.nil_sublist _)))) rfl rfl rfl ?_
      refine ExD.take (i := 13) rfl (by kernel_rfl) (pureVal_ok rfl) ((List.Sublist.cons _ (List.Sublist.cons_cons _ (List.nil_sublist _)))) rfl rfl rfl ?_
      refine ExD.take (i := 14) rfl (by kernel_rfl) (pureVal_ok rfl) ((List.Sublist.cons _ (List.Sublist.cons_cons _ (List.nil_sublist _)))) rfl rfl rfl ?_
      refine ExD.take (i := 15) rfl (by kernel_rfl) (pureVal_ok rfl) ((List.Sublist.cons _ (List.Sublist.cons_cons _ (List.nil_sublist _)))) rfl rfl rfl ?_
      refine ExD.op (i := 16) rfl (by kernel_rfl) rfl (op_storeC (i := 0) rfl rfl rfl rfl rfl rfl rfl rfl rfl rfl ⟨(List.Sublist.cons _ (List.Sublist.cons_cons _ (List.nil_sublist _))), ?_⟩)
      refine ExD.done (by kernel_rfl) ?_
      refine Ex.regSeq (ExL.pures 2 rfl ?_)
      refine ExL.nil ?_
      refine Ex.ret ?_
      refine MutQ.mk () rfl (.tmp rfl .nil) (tI (by first | (rw [pv_stop (by assumption)]; first | done | rfl) | (rw [uw_pos (d := d) (st := 1) (by omega), pv_hit (by assumption) ⟨by omega, by omega⟩]; first | done | rfl) | (rw [pv_on (by assumption) (by omega)]; first | done | rfl))) 2 [0, 1] (by first | (rw [pv_stop (by assumption)]; first | done | rfl) | (rw [uw_pos (d := d) (st := 1) (by omega), pv_hit (by assumption) ⟨by omega, by omega⟩, Int.one_mul]; first | done | rfl) | (rw [pv_on (by assumption) (by omega), Int.one_mul]; first | done | rfl)) rfl (trivial)
theorem c_l07Count_t (d : VDev) (hk : OkDev d) (hv : validDev d = true) (Ad : Option Addr) (cd : Nat) (b : Nat) (n : Int) (hn : 0 ≤ n ∧ n ≤ 1000000000000) : Mut Tryz.prog 95 [.pointer (some ⟨b, 0, none⟩), .int .i64 n, .bool true] [.blk b (encV Ad cd d) 43, .row (.slice Ad d.stack.length cd) 5 1 d.stack.length (d.stack.flatMap (eI .u8))] (fun base w0 F => True) (fun x : Unit => .int .i64 (pulseV d n (-1)).2) (fun x => [.blk b (encV Ad cd (pulseV d n (-1)).1) 43, .row (.slice Ad d.stack.length cd) 5 1 d.stack.length (d.stack.flatMap (eI .u8))]) (fun x => True) := by
  refine Mut.of e_95 Tryz.func95 rfl Tryz.ntmps95 rfl rfl (fun base w0 F hfr => ?_)
  have hkk := hk
  obtain ⟨hl, hu, ha, hpp, htt⟩ := hk
  have hO := devOk ha hv
  have hvs : validStack d.stack = true := by unfold validDev at hv; rw [decide_eq_true_iff] at hv; exact hv.1
  have hvd := hO.vd
  have hm0 : maxLen = 9223372036854775807 := rfl
  have hz := sizeS hO
  have hle := hO.stk.le
  have hps := hO.stk.pos
  have hlt : 0 ≤ val d.stack d.shows.l ∧ val d.stack d.shows.l < prod d.stack := hO.v_lt
  have hpr := hO.preset
  have htk := hO.tick
  have hub := until_bd hO (-1)
  have huw := uw (d := d) (st := -1)
  refine Ex.regSeq (ExL.pures 1 rfl ?_)
  refine ExL.nil ?_
  refine Ex.seq ?_
  refine Ex.regSeq (ExL.pures 3 rfl ?_)
  refine ExL.free (fr_load rfl rfl rfl rfl (CellO.blk (i := 0) rfl rfl)) rfl rfl rfl ?_
  refine ExL.nil ?_
  refine Ex.cond rfl (fun hb1 => ?_) (fun hb1 => ?_)
  · refine Ex.regSeq (ExL.pures 2 rfl ?_)
    refine ExL.nil ?_
    refine Ex.ret ?_
    refine MutQ.mk () rfl (.tmp rfl .nil) (tI (by first | (rw [pv_stop (by assumption)]; first | done | rfl) | (rw [uw_pos (d := d) (st := -1) (by omega), pv_hit (by assumption) ⟨by omega, by omega⟩]; first | done | rfl) | (rw [pv_on (by assumption) (by omega)]; first | done | rfl))) 2 [0, 1] (by first | (rw [pv_stop (by assumption)]; first | done | rfl) | (rw [uw_pos (d := d) (st := -1) (by omega), pv_hit (by assumption) ⟨by omega, by omega⟩, Int.neg_mul, Int.one_mul]; first | done | rfl) | (rw [pv_on (by assumption) (by omega), Int.neg_mul, Int.one_mul]; first | done | rfl)) rfl (trivial)
  · refine Ex.skip ?_
    refine Ex.regSeq (ExL.pures 2 rfl ?_)
    refine ExL.op rfl (op_ret rfl rfl rfl (c_lu_t d (by first | assumption | exact ⟨by assumption, by assumption, by assumption, by assumption, by assumption⟩) (by assumption) _ _ _) (fun w hw => ⟨Reads.get (Reads.blk (i := 0) rfl) w hw, Reads.get (Reads.row (i := 1) rfl) w hw⟩) rfl rfl (fun x2 hx2 => ?_))
    refine ExL.pures 1 rfl ?_
    refine ExL.nil ?_
    refine Ex.regSeq (ExL.pures 1 rfl ?_)
    refine ExL.nil ?_
    refine Ex.seq ?_
    refine Ex.regSeq (ExL.pures 1 rfl ?_)
    refine ExL.geq rfl rfl rfl rfl rfl rfl (fun h3 => ?_) (fun h3 => ?_)
    · refine ExL.pures 3 rfl ?_
      refine ExL.geq rfl rfl rfl rfl rfl rfl (fun h4 => ?_) (fun h4 => ?_)
      · refine ExL.pures 1 rfl ?_
        refine ExL.nil ?_
        refine Ex.cond_t rfl ?_
        refine Ex.regSeq (ExL.pures 2 rfl ?_)
        refine ExL.free (by first | exact fr_sub64 rfl rfl rfl (by omega) | exact fr_sub rfl rfl rfl) rfl rfl rfl ?_
        refine ExL.pures 1 rfl ?_
        refine ExL.nil ?_
        refine Ex.regSeq (ExL.pures 2 rfl ?_)
        refine ExL.nil ?_
        refine Ex.region (ExL.pures 3 rfl ?_)
        refine ExL.op rfl (op_storeC (i := 0) rfl rfl rfl rfl rfl rfl rfl rfl rfl rfl ?_)
        refine ExL.nil ?_
        refine Ex.seq ?_
        refine Ex.regSeq (ExL.pures 1 rfl ?_)
        refine ExL.nil ?_
        refine Ex.cond_t rfl ?_
        refine Ex.region (ExL.pures 1 rfl ?_)
        refine ExL.free (by first | exact fr_neg64 rfl rfl (by omega) | exact fr_neg rfl rfl) rfl rfl rfl ?_
        refine ExL.pures 1 rfl ?_
        refine ExL.nil ?_
        refine Ex.drawSeqI [1] rfl rfl ?_
        refine ExD.take (i := 0) rfl (by kernel_rfl) (pureVal_ok rfl) ((List.Sublist.cons _ (List.Sublist.cons_cons _ (List.nil_sublist _)))) rfl rfl rfl ?_
        refine ExD.take (i := 1) rfl (by kernel_rfl) (pureVal_ok rfl) ((List.Sublist.cons _ (List.Sublist.cons_cons _ (List.nil_sublist _)))) rfl rfl rfl ?_
        refine ExD.take (i := 2) rfl (by kernel_rfl) (pureVal_ok rfl) ((List.Sublist.cons _ (List.Sublist.cons_cons _ (List.nil_sublist _)))) rfl rfl rfl ?_
        refine ExD.take (i := 3) rfl (by kernel_rfl) (pureVal_ok rfl) ((List.Sublist.cons _ (List.Sublist.cons_cons _ (List.nil_sublist _)))) rfl rfl rfl ?_
        refine ExD.take (i := 5) rfl (by kernel_rfl) (pureVal_ok rfl) ((List.Sublist.cons _ (List.Sublist.cons_cons _ (List.nil_sublist _)))) rfl rfl rfl ?_
        refine ExD.take (i := 6) rfl (by kernel_rfl) (pureVal_ok rfl) ((List.Sublist.cons _ (List.Sublist.cons_cons _ (List.nil_sublist _)))) rfl rfl rfl ?_
        refine ExD.take (i := 7) rfl (by kernel_rfl) (pureVal_ok rfl) ((List.Sublist.cons _ (List.Sublist.cons_cons _ (List.nil_sublist _)))) rfl rfl rfl ?_
        refine ExD.take (i := 9) rfl (by kernel_rfl) (pureVal_ok rfl) ((List.Sublist.cons _ (List.Sublist.cons_cons _ (List.nil_sublist _)))) rfl rfl rfl ?_
        refine ExD.two (i := 4) (j := 8) rfl rfl (by kernel_rfl) (by kernel_rfl) (by kernel_rfl) rfl (List.Sublist.cons _ (List.Sublist.cons_cons _ (List.nil_sublist _))) rfl rfl rfl rfl rfl rfl rfl rfl rfl (fr_load rfl rfl rfl rfl (CellO.blk (i := 0) rfl rfl)) (fr_loadN rfl rfl rfl rfl rfl (SegO.part (i := 0) 8 rfl)) (fr_load rfl rfl rfl rfl (CellO.blk (i := 0) rfl rfl)) (fr_loadN rfl rfl rfl rfl rfl (SegO.part (i := 0) 8 rfl)) ?_
        refine ExD.op (i := 10) rfl (by kernel_rfl) rfl (op_ret rfl rfl rfl (c_l01Add d.stack (by first | assumption | simp_all) _ _ d.shows (by assumption) (by first | assumption | simp_all) (by assumption) _ (by omega)) (Reads.get (Reads.row (i := 1) rfl)) rfl rfl (fun x5 hx5 => ⟨(List.Sublist.cons _ (List.Sublist.cons_cons _ (List.nil_sublist _))), ?_⟩))
        refine ExD.take (i := 11) rfl (by kernel_rfl) (pureVal_ok rfl) ((List.Sublist.cons _ (List.Sublist.cons_cons _ (List.nil_sublist _)))) rfl rfl rfl ?_
        refine ExD.take (i := 12) rfl (by kernel_rfl) (pureVal_ok rfl) ((List.Sublist.cons _ (List.Sublist.cons_cons _ (List.nil_sublist _)))) rfl rfl rfl ?_
        refine ExD.take (i := 13) rfl (by kernel_rfl) (pureVal_ok rfl) ((List.Sublist.cons _ (List.Sublist.cons_cons _ (List.nil_sublist _)))) rfl rfl rfl ?_
        refine ExD.take (i := 14) rfl (by kernel_rfl) (pureVal_ok rfl) ((List.Sublist.cons _ (List.Sublist.cons_cons _ (List.nil_sublist _)))) rfl rfl rfl ?_
        refine ExD.take (i := 15) rfl (by kernel_rfl) (pureVal_ok rfl) ((List.Sublist.cons _ (List.Sublist.cons_cons _ (List.nil_sublist _)))) rfl rfl rfl ?_
        refine ExD.op (i := 16) rfl (by kernel_rfl) rfl (op_storeC (i := 0) rfl rfl rfl rfl rfl rfl rfl rfl rfl rfl ⟨(List.Sublist.cons _ (List.Sublist.cons_cons _ (List.nil_sublist _))), ?_⟩)
        refine ExD.done (by kernel_rfl) ?_
        refine Ex.regSeq (ExL.pures 2 rfl ?_)
        refine ExL.nil ?_
        refine Ex.ret ?_
        refine MutQ.mk () rfl (.tmp rfl .nil) (tI (by first | (rw [pv_stop (by assumption)]; first | done | rfl) | (rw [uw_pos (d := d) (st := -1) (by omega), pv_hit (by assumption) ⟨by omega, by omega⟩]; first | done | rfl) | (rw [pv_on (by assumption) (by omega)]; first | done | rfl))) 2 [0, 1] (by first | (rw [pv_stop (by assumption)]; first | done | rfl) | (rw [uw_pos (d := d) (st := -1) (by omega), pv_hit (by assumption) ⟨by omega, by omega⟩, Int.neg_mul, Int.one_mul]; first | done | rfl) | (rw [pv_on (by assumption) (by omega), Int.neg_mul, Int.one_mul]; first | done | rfl)) rfl (trivial)
      · refine ExL.pures 1 rfl ?_
        refine ExL.nil ?_
        refine Ex.cond_f rfl ?_
        refine Ex.skip ?_
        refine Ex.seq ?_
        refine Ex.regSeq (ExL.pures 1 rfl ?_)
        refine ExL.nil ?_
        refine Ex.cond_t rfl ?_
        refine Ex.region (ExL.pures 1 rfl ?_)
        refine ExL.free (by first | exact fr_neg64 rfl rfl (by omega) | exact fr_neg rfl rfl) rfl rfl rfl ?_
        refine ExL.pures 1 rfl ?_
        refine ExL.nil ?_
        refine Ex.drawSeqI [1] rfl rfl ?_
        refine ExD.take (i := 0) rfl (by kernel_rfl) (pureVal_ok rfl) ((List.Sublist.cons _ (List.Sublist.cons_cons _ (List.nil_sublist _)))) rfl rfl rfl ?_
        refine ExD.take (i := 1) rfl (by kernel_rfl) (pureVal_ok rfl) ((List.Sublist.cons _ (List.Sublist.cons_cons _ (List.nil_sublist _)))) rfl rfl rfl ?_
        refine ExD.take (i := 2) rfl (by kernel_rfl) (pureVal_ok rfl) ((List.Sublist.cons _ (List.Sublist.cons_cons _ (List.nil_sublist _)))) rfl rfl rfl ?_
        refine ExD.take (i := 3) rfl (by kernel_rfl) (pureVal_ok rfl) ((List.Sublist.cons _ (List.Sublist.cons_cons _ (List.nil_sublist _)))) rfl rfl rfl ?_
        refine ExD.take (i := 5) rfl (by kernel_rfl) (pureVal_ok rfl) ((List.Sublist.cons _ (List.Sublist.cons_cons _ (List.nil_sublist _)))) rfl rfl rfl ?_
        refine ExD.take (i := 6) rfl (by kernel_rfl) (pureVal_ok rfl) ((List.Sublist.cons _ (List.Sublist.cons_cons _ (List.nil_sublist _)))) rfl rfl rfl ?_
        refine ExD.take (i := 7) rfl (by kernel_rfl) (pureVal_ok rfl) ((List.Sublist.cons _ (List.Sublist.cons_cons _ (List.nil_sublist _)))) rfl rfl rfl ?_
        refine ExD.take (i := 9) rfl (by kernel_rfl) (pureVal_ok rfl) ((List.Sublist.cons _ (List.Sublist.cons_cons _ (List.nil_sublist _)))) rfl rfl rfl ?_
        refine ExD.two (i := 4) (j := 8) rfl rfl (by kernel_rfl) (by kernel_rfl) (by kernel_rfl) rfl (List.Sublist.cons _ (List.Sublist.cons_cons _ (List.nil_sublist _))) rfl rfl rfl rfl rfl rfl rfl rfl rfl (fr_load rfl rfl rfl rfl (CellO.blk (i := 0) rfl rfl)) (fr_loadN rfl rfl rfl rfl rfl (SegO.part (i := 0) 8 rfl)) (fr_load rfl rfl rfl rfl (CellO.blk (i := 0) rfl rfl)) (fr_loadN rfl rfl rfl rfl rfl (SegO.part (i := 0) 8 rfl)) ?_
        refine ExD.op (i := 10) rfl (by kernel_rfl) rfl (op_ret rfl rfl rfl (c_l01Add d.stack (by first | assumption | simp_all) _ _ d.shows (by assumption) (by first | assumption | simp_all) (by assumption) _ (by omega)) (Reads.get (Reads.row (i := 1) rfl)) rfl rfl (fun x6 hx6 => ⟨(List.Sublist.cons _ (List.Sublist.cons_cons _ (List.nil_sublist _))), ?_⟩))
        refine ExD.take (i := 11) rfl (by kernel_rfl) (pureVal_ok rfl) ((List.Sublist.cons _ (List.Sublist.cons_cons _ (List.nil_sublist _)))) rfl rfl rfl ?_
        refine ExD.take (i := 12) rfl (by kernel_rfl) (pureVal_ok rfl) ((List.Sublist.cons _ (List.Sublist.cons_cons _ (List.nil_sublist _)))) rfl rfl rfl ?_
        refine ExD.take (i := 13) rfl (by kernel_rfl) (pureVal_ok rfl) ((List.Sublist.cons _ (List.Sublist.cons_cons _ (List.nil_sublist _)))) rfl rfl rfl ?_
        refine ExD.take (i := 14) rfl (by kernel_rfl) (pureVal_ok rfl) ((List.Sublist.cons _ (List.Sublist.cons_cons _ (List.nil_sublist _)))) rfl rfl rfl ?_
        refine ExD.take (i := 15) rfl (by kernel_rfl) (pureVal_ok rfl) ((List.Sublist.cons _ (List.Sublist.cons_cons _ (List.nil_sublist _)))) rfl rfl rfl ?_
        refine ExD.op (i := 16) rfl (by kernel_rfl) rfl (op_storeC (i := 0) rfl rfl rfl rfl rfl rfl rfl rfl rfl rfl ⟨(List.Sublist.cons _ (List.Sublist.cons_cons _ (List.nil_sublist _))), ?_⟩)
        refine ExD.done (by kernel_rfl) ?_
        refine Ex.regSeq (ExL.pures 2 rfl ?_)
        refine ExL.nil ?_
        refine Ex.ret ?_
        refine MutQ.mk () rfl (.tmp rfl .nil) (tI (by first | (rw [pv_stop (by assumption)]; first | done | rfl) | (rw [uw_pos (d := d) (st := -1) (by omega), pv_hit (by assumption) ⟨by omega, by omega⟩]; first | done | rfl) | (rw [pv_on (by assumption) (by omega)]; first | done | rfl))) 2 [0, 1] (by first | (rw [pv_stop (by assumption)]; first | done | rfl) | (rw [uw_pos (d := d) (st := -1) (by omega), pv_hit (by assumption) ⟨by omega, by omega⟩, Int.neg_mul, Int.one_mul]; first | done | rfl) | (rw [pv_on (by assumption) (by omega), Int.neg_mul, Int.one_mul]; first | done | rfl)) rfl (trivial)
    · refine ExL.pures 5 rfl ?_
      refine ExL.nil ?_
      refine Ex.cond_f rfl ?_
      refine Ex.skip ?_
      refine Ex.seq ?_
      refine Ex.regSeq (ExL.pures 1 rfl ?_)
      refine ExL.nil ?_
      refine Ex.cond_t rfl ?_
      refine Ex.region (ExL.pures 1 rfl ?_)
      refine ExL.free (by first | exact fr_neg64 rfl rfl (by omega) | exact fr_neg rfl rfl) rfl rfl rfl ?_
      refine ExL.pures 1 rfl ?_
      refine ExL.nil ?_
      refine Ex.drawSeqI [1] rfl rfl ?_
      refine ExD.take (i := 0) rfl (by kernel_rfl) (pureVal_ok rfl) ((List.Sublist.cons _ (List.Sublist.cons_cons _ (List.nil_sublist _)))) rfl rfl rfl ?_
      refine ExD.take (i := 1) rfl (by kernel_rfl) (pureVal_ok rfl) ((List.Sublist.cons _ (List.Sublist.cons_cons _ (List.nil_sublist _)))) rfl rfl rfl ?_
      refine ExD.take (i := 2) rfl (by kernel_rfl) (pureVal_ok rfl) ((List.Sublist.cons _ (List.Sublist.cons_cons _ (List.nil_sublist _)))) rfl rfl rfl ?_
      refine ExD.take (i := 3) rfl (by kernel_rfl) (pureVal_ok rfl) ((List.Sublist.cons _ (List.Sublist.cons_cons _ (List.nil_sublist _)))) rfl rfl rfl ?_
      refine ExD.take (i := 5) rfl (by kernel_rfl) (pureVal_ok rfl) ((List.Sublist.cons _ (List.Sublist.cons_cons _ (List.nil_sublist _)))) rfl rfl rfl ?_
      refine ExD.take (i := 6) rfl (by kernel_rfl) (pureVal_ok rfl) ((List.Sublist.cons _ (List.Sublist.cons_cons _ (List.nil_sublist _)))) rfl rfl rfl ?_
      refine ExD.take (i := 7) rfl (by kernel_rfl) (pureVal_ok rfl) ((List.Sublist.cons _ (List.Sublist.cons_cons _ (List.nil_sublist _)))) rfl rfl rfl ?_
      refine ExD.take (i := 9) rfl (by kernel_rfl) (pureVal_ok rfl) ((List.Sublist.cons _ (List.Sublist.cons_cons _ (List.nil_sublist _)))) rfl rfl rfl ?_
      refine ExD.two (i := 4) (j := 8) rfl rfl (by kernel_rfl) (by kernel_rfl) (by kernel_rfl) rfl (List.Sublist.cons _ (List.Sublist.cons_cons _ (List.nil_sublist _))) rfl rfl rfl rfl rfl rfl rfl rfl rfl (fr_load rfl rfl rfl rfl (CellO.blk (i := 0) rfl rfl)) (fr_loadN rfl rfl rfl rfl rfl (SegO.part (i := 0) 8 rfl)) (fr_load rfl rfl rfl rfl (CellO.blk (i := 0) rfl rfl)) (fr_loadN rfl rfl rfl rfl rfl (SegO.part (i := 0) 8 rfl)) ?_
      refine ExD.op (i := 10) rfl (by kernel_rfl) rfl (op_ret rfl rfl rfl (c_l01Add d.stack (by first | assumption | simp_all) _ _ d.shows (by assumption) (by first | assumption | simp_all) (by assumption) _ (by omega)) (Reads.get (Reads.row (i := 1) rfl)) rfl rfl (fun x7 hx7 => ⟨(List.Sublist.cons _ (List.Sublist.cons_cons _ (List.nil_sublist _))), ?_⟩))
      refine ExD.take (i := 11) rfl (by kernel_rfl) (pureVal_ok rfl) ((List.Sublist.cons _ (List.Sublist.cons_cons _ (List.nil_sublist _)))) rfl rfl rfl ?_
      refine ExD.take (i := 12) rfl (by kernel_rfl) (pureVal_ok rfl) ((List.Sublist.cons _ (List.Sublist.cons_cons _ (List.nil_sublist _)))) rfl rfl rfl ?_
      refine ExD.take (i := 13) rfl (by kernel_rfl) (pureVal_ok rfl) ((List.Sublist.cons _ (List.Sublist.cons_cons _ (List.nil_sublist _)))) rfl rfl rfl ?_
      refine ExD.take (i := 14) rfl (by kernel_rfl) (pureVal_ok rfl) ((List.Sublist.cons _ (List.Sublist.cons_cons _ (List.nil_sublist _)))) rfl rfl rfl ?_
      refine ExD.take (i := 15) rfl (by kernel_rfl) (pureVal_ok rfl) ((List.Sublist.cons _ (List.Sublist.cons_cons _ (List.nil_sublist _)))) rfl rfl rfl ?_
      refine ExD.op (i := 16) rfl (by kernel_rfl) rfl (op_storeC (i := 0) rfl rfl rfl rfl rfl rfl rfl rfl rfl rfl ⟨(List.Sublist.cons _ (List.Sublist.cons_cons _ (List.nil_sublist _))), ?_⟩)
      refine ExD.done (by kernel_rfl) ?_
      refine Ex.regSeq (ExL.pures 2 rfl ?_)
      refine ExL.nil ?_
      refine Ex.ret ?_
      refine MutQ.mk () rfl (.tmp rfl .nil) (tI (by first | (rw [pv_stop (by assumption)]; first | done | rfl) | (rw [uw_pos (d := d) (st := -1) (by omega), pv_hit (by assumption) ⟨by omega, by omega⟩]; first | done | rfl) | (rw [pv_on (by assumption) (by omega)]; first | done | rfl))) 2 [0, 1] (by first | (rw [pv_stop (by assumption)]; first | done | rfl) | (rw [uw_pos (d := d) (st := -1) (by omega), pv_hit (by assumption) ⟨by omega, by omega⟩, Int.neg_mul, Int.one_mul]; first | done | rfl) | (rw [pv_on (by assumption) (by omega), Int.neg_mul, Int.one_mul]; first | done | rfl)) rfl (trivial)
theorem e_92 : Enters Tryz.prog 92 := Enters.of Tryz.func92 rfl
theorem c_shows (d : VDev) (hv : validStack d.stack = true) (hd0 : validDig d.stack d.shows.l = true) (ha : Nums 255 d.shows.l) (Ad : Option Addr) (cd : Nat) (b : Nat) : Ret Tryz.prog 92 [.pointer (some ⟨b, 0, none⟩)] (fun w => Rd w (some ⟨b, 0, none⟩) (encV Ad cd d) ∧ Rd w Ad (d.stack.flatMap (eI .u8))) (fun x : Unit => .bool (decide (d.preset = d.v))) (fun x => []) (fun x => True) := by
  refine Ret.of e_92 Tryz.func92 rfl Tryz.ntmps92 rfl rfl (fun w hpre => ?_)
  have hp := hpre.1.base
  have hd := hpre.2.base
  refine Ex.regSeq (ExL.pures 1 rfl ?_)
  refine ExL.nil ?_
  refine Ex.drawSeqM rfl ?_
  refine ExD.take (i := 0) rfl (by kernel_rfl) (pureVal_ok rfl) ((List.Sublist.refl _)) rfl rfl rfl ?_
  refine ExD.take (i := 1) rfl (by kernel_rfl) (pureVal_ok rfl) ((List.Sublist.refl _)) rfl rfl rfl ?_
  refine ExD.take (i := 2) rfl (by kernel_rfl) (pureVal_ok rfl) ((List.Sublist.refl _)) rfl rfl rfl ?_
  refine ExD.take (i := 3) rfl (by kernel_rfl) (fr_load rfl rfl rfl rfl (CellO.at 9 (Reads.old hp) rfl)) ((List.Sublist.refl _)) rfl rfl rfl ?_
  refine ExD.take (i := 4) rfl (by kernel_rfl) (pureVal_ok rfl) ((List.Sublist.refl _)) rfl rfl rfl ?_
  refine ExD.take (i := 5) rfl (by kernel_rfl) (pureVal_ok rfl) ((List.Sublist.refl _)) rfl rfl rfl ?_
  refine ExD.take (i := 6) rfl (by kernel_rfl) (pureVal_ok rfl) ((List.Sublist.refl _)) rfl rfl rfl ?_
  refine ExD.take (i := 7) rfl (by kernel_rfl) (fr_load rfl rfl rfl rfl (CellO.at 0 (Reads.old hp) rfl)) ((List.Sublist.refl _)) rfl rfl rfl ?_
  refine ExD.take (i := 8) rfl (by kernel_rfl) (pureVal_ok rfl) ((List.Sublist.refl _)) rfl rfl rfl ?_
  refine ExD.take (i := 9) rfl (by kernel_rfl) (pureVal_ok rfl) ((List.Sublist.refl _)) rfl rfl rfl ?_
  refine ExD.take (i := 10) rfl (by kernel_rfl) (pureVal_ok rfl) ((List.Sublist.refl _)) rfl rfl rfl ?_
  refine ExD.take (i := 11) rfl (by kernel_rfl) (fr_loadN rfl rfl rfl rfl rfl (SegO.at 1 8 (Reads.old hp) rfl)) ((List.Sublist.refl _)) rfl rfl rfl ?_
  refine ExD.op (i := 12) rfl (by kernel_rfl) rfl (op_ret rfl rfl rfl (c_value d.stack (by first | assumption | simp_all) _ _ d.shows (by assumption) (by first | assumption | simp_all)) (Reads.get (Reads.old hd)) rfl rfl (fun x1 hx1 => ⟨(List.Sublist.refl _), ?_⟩))
  refine ExD.take (i := 13) rfl (by kernel_rfl) (fr_eql rfl rfl rfl) ((List.Sublist.refl _)) rfl rfl rfl ?_
  refine ExD.take (i := 14) rfl (by kernel_rfl) (pureVal_ok rfl) ((List.Sublist.refl _)) rfl rfl rfl ?_
  refine ExD.done (by kernel_rfl) ?_
  refine Ex.ret ?_
  refine RetQ.mk () rfl (.tmp rfl .nil) (rfl) [] (rfl) rfl (trivial)
theorem e_47 : Enters Tryz.prog 47 := Enters.of Tryz.func47 rfl
theorem c_do (d : VDev) (hk : OkDev d) (hv : validDev d = true) (Ad : Option Addr) (cd : Nat) (b : Nat) (a : VAct) (hact : validAct a = true) : Mut Tryz.prog 47 [.pointer (some ⟨b, 0, none⟩), .agg (encA a).toArray] [.blk b (encV Ad cd d) 43, .row (.slice Ad d.stack.length cd) 5 1 d.stack.length (d.stack.flatMap (eI .u8))] (fun base w0 F => True) (fun x : Unit => .tuple #[.int .i64 (doV d a).2.1, .int .i64 (doV d a).2.2]) (fun x => [.blk b (encV Ad cd (doV d a).1) 43, .row (.slice Ad d.stack.length cd) 5 1 d.stack.length (d.stack.flatMap (eI .u8))]) (fun x => True) := by
  refine Mut.of e_47 Tryz.func47 rfl Tryz.ntmps47 rfl rfl (fun base w0 F hfr => ?_)
  have hkk := hk
  have han := act_n hact
  obtain ⟨hl, hu, ha, hpp, htt⟩ := hk
  have hO := devOk ha hv
  have hvs : validStack d.stack = true := by unfold validDev at hv; rw [decide_eq_true_iff] at hv; exact hv.1
  have hvd := hO.vd
  have hm0 : maxLen = 9223372036854775807 := rfl
  have hz := sizeS hO
  have hle := hO.stk.le
  have hps := hO.stk.pos
  have hlt : 0 ≤ val d.stack d.shows.l ∧ val d.stack d.shows.l < prod d.stack := hO.v_lt
  have hpr := hO.preset
  have htk := hO.tick
  refine Ex.regSeq (ExL.pures 0 rfl ?_)
  refine ExL.op rfl (op_box rfl rfl rfl rfl rfl (fun b1 => ?_))
  refine ExL.pures 2 rfl ?_
  refine ExL.nil ?_
  refine Ex.seq ?_
  refine Ex.regSeq (ExL.pures 1 rfl ?_)
  refine ExL.free (fr_load rfl rfl rfl rfl (CellO.blk (i := 0) rfl rfl)) rfl rfl rfl ?_
  refine ExL.nil ?_
  refine Ex.block ?_
  refine Ex.regSeq (ExL.pures 0 rfl ?_)
  refine ExL.eql rfl rfl rfl rfl rfl rfl (fun h2 => ?_) (fun h2 => ?_)
  · refine ExL.pures 1 rfl ?_
    refine ExL.nil ?_
    refine Ex.cond_t rfl ?_
    refine Ex.regSeq (ExL.pures 2 rfl ?_)
    refine ExL.free (fr_load rfl rfl rfl rfl (CellO.blk (i := 0) rfl rfl)) rfl rfl rfl ?_
    refine ExL.op rfl (op_mut rfl rfl rfl (c_pulse d (by assumption) (by assumption) _ _ _ _ (1) (by omega) (by first | assumption | decide | omega)) (perm_lt (i := 1) (j := 2) rfl rfl rfl) (trivial) rfl rfl (fun x3 hx3 => ?_))
    refine ExL.pures 2 rfl ?_
    refine ExL.nil ?_
    refine Ex.ret ?_
    refine MutQ.mk () rfl (.tmp rfl (.tmp rfl .nil)) (t2 (vI (by first | (rw [do_1 (by assumption)]; first | done | rfl) | (rw [do_2 (by assumption)]; first | done | rfl) | (rw [do_3n (by assumption) (by omega)]; first | done | rfl) | (rw [do_3 (by assumption) (by omega)]; first | done | rfl) | (rw [do_4 (by assumption)]; first | done | rfl) | (rw [do_5n (by assumption) (by omega)]; first | done | rfl) | (rw [do_5 (by assumption) (by omega)]; first | done | rfl) | (rw [do_0 (by assumption) (by assumption) (by assumption) (by assumption) (by assumption)]; first | done | rfl))) (vI (by first | (rw [do_1 (by assumption)]; first | done | rfl) | (rw [do_2 (by assumption)]; first | done | rfl) | (rw [do_3n (by assumption) (by omega)]; first | done | rfl) | (rw [do_3 (by assumption) (by omega)]; first | done | rfl) | (rw [do_4 (by assumption)]; first | done | rfl) | (rw [do_5n (by assumption) (by omega)]; first | done | rfl) | (rw [do_5 (by assumption) (by omega)]; first | done | rfl) | (rw [do_0 (by assumption) (by assumption) (by assumption) (by assumption) (by assumption)]; first | done | rfl)))) 3 [0, 1] (by first | (rw [do_1 (by assumption)]; first | done | rfl) | (rw [do_2 (by assumption)]; first | done | rfl) | (rw [do_3n (by assumption) (by omega)]; first | done | rfl) | (rw [do_3 (by assumption) (by omega)]; first | done | rfl) | (rw [do_4 (by assumption)]; first | done | rfl) | (rw [do_5n (by assumption) (by omega)]; first | done | rfl) | (rw [do_5 (by assumption) (by omega)]; first | done | rfl) | (rw [do_0 (by assumption) (by assumption) (by assumption) (by assumption) (by assumption)]; first | done | rfl)) rfl (trivial)
  · refine ExL.pures 1 rfl ?_
    refine ExL.nil ?_
    refine Ex.cond_f rfl ?_
    refine Ex.regSeq (ExL.pures 0 rfl ?_)
    refine ExL.eql rfl rfl rfl rfl rfl rfl (fun h4 => ?_) (fun h4 => ?_)
    · refine ExL.pures 1 rfl ?_
      refine ExL.nil ?_
      refine Ex.cond_t rfl ?_
      refine Ex.regSeq (ExL.pures 2 rfl ?_)
      refine ExL.free (fr_load rfl rfl rfl rfl (CellO.blk (i := 0) rfl rfl)) rfl rfl rfl ?_
      refine ExL.op rfl (op_mut rfl rfl rfl (c_pulse d (by assumption) (by assumption) _ _ _ _ (-1) (by omega) (by first | assumption | decide | omega)) (perm_lt (i := 1) (j := 2) rfl rfl rfl) (trivial) rfl rfl (fun x5 hx5 => ?_))
      refine ExL.pures 2 rfl ?_
      refine ExL.nil ?_
      refine Ex.ret ?_
      refine MutQ.mk () rfl (.tmp rfl (.tmp rfl .nil)) (t2 (vI (by first | (rw [do_1 (by assumption)]; first | done | rfl) | (rw [do_2 (by assumption)]; first | done | rfl) | (rw [do_3n (by assumption) (by omega)]; first | done | rfl) | (rw [do_3 (by assumption) (by omega)]; first | done | rfl) | (rw [do_4 (by assumption)]; first | done | rfl) | (rw [do_5n (by assumption) (by omega)]; first | done | rfl) | (rw [do_5 (by assumption) (by omega)]; first | done | rfl) | (rw [do_0 (by assumption) (by assumption) (by assumption) (by assumption) (by assumption)]; first | done | rfl))) (vI (by first | (rw [do_1 (by assumption)]; first | done | rfl) | (rw [do_2 (by assumption)]; first | done | rfl) | (rw [do_3n (by assumption) (by omega)]; first | done | rfl) | (rw [do_3 (by assumption) (by omega)]; first | done | rfl) | (rw [do_4 (by assumption)]; first | done | rfl) | (rw [do_5n (by assumption) (by omega)]; first | done | rfl) | (rw [do_5 (by assumption) (by omega)]; first | done | rfl) | (rw [do_0 (by assumption) (by assumption) (by assumption) (by assumption) (by assumption)]; first | done | rfl)))) 3 [0, 1] (by first | (rw [do_1 (by assumption)]; first | done | rfl) | (rw [do_2 (by assumption)]; first | done | rfl) | (rw [do_3n (by assumption) (by omega)]; first | done | rfl) | (rw [do_3 (by assumption) (by omega)]; first | done | rfl) | (rw [do_4 (by assumption)]; first | done | rfl) | (rw [do_5n (by assumption) (by omega)]; first | done | rfl) | (rw [do_5 (by assumption) (by omega)]; first | done | rfl) | (rw [do_0 (by assumption) (by assumption) (by assumption) (by assumption) (by assumption)]; first | done | rfl)) rfl (trivial)
    · refine ExL.pures 1 rfl ?_
      refine ExL.nil ?_
      refine Ex.cond_f rfl ?_
      refine Ex.regSeq (ExL.pures 0 rfl ?_)
      refine ExL.eql rfl rfl rfl rfl rfl rfl (fun h6 => ?_) (fun h6 => ?_)
      · refine ExL.pures 1 rfl ?_
        refine ExL.nil ?_
        refine Ex.cond_t rfl ?_
        refine Ex.seq ?_
        refine Ex.drawSeqM rfl ?_
        refine ExD.take (i := 0) rfl (by kernel_rfl) (pureVal_ok rfl) ((List.Sublist.refl _)) rfl rfl rfl ?_
        refine ExD.take (i := 1) rfl (by kernel_rfl) (fr_load rfl rfl rfl rfl (CellO.blk (i := 0) rfl rfl)) ((List.Sublist.refl _)) rfl rfl rfl ?_
        refine ExD.cmp_neq (i := 2) rfl (by kernel_rfl) rfl rfl rfl ((List.Sublist.refl _)) rfl rfl rfl (fun h7 => ?_) (fun h7 => ?_)
        · refine ExD.take (i := 3) rfl (by kernel_rfl) (pureVal_ok rfl) ((List.Sublist.refl _)) rfl rfl rfl ?_
          refine ExD.take (i := 4) rfl (by kernel_rfl) (pureVal_ok rfl) ((List.Sublist.refl _)) rfl rfl rfl ?_
          refine ExD.take (i := 5) rfl (by kernel_rfl) (pureVal_ok rfl) ((List.Sublist.refl _)) rfl rfl rfl ?_
          refine ExD.take (i := 6) rfl (by kernel_rfl) (pureVal_ok rfl) ((List.Sublist.refl _)) rfl rfl rfl ?_
          refine ExD.take (i := 7) rfl (by kernel_rfl) (fr_load rfl rfl rfl rfl (CellO.blk (i := 1) rfl rfl)) ((List.Sublist.refl _)) rfl rfl rfl ?_
          refine ExD.take (i := 8) rfl (by kernel_rfl) (pureVal_ok rfl) ((List.Sublist.refl _)) rfl rfl rfl ?_
          refine ExD.take (i := 9) rfl (by kernel_rfl) (fr_load rfl rfl rfl rfl (CellO.blk (i := 0) rfl rfl)) ((List.Sublist.refl _)) rfl rfl rfl ?_
          refine ExD.op (i := 10) rfl (by kernel_rfl) rfl (op_ret rfl rfl rfl (c_hasValue d.stack (by assumption) _ _ (by omega) _) (Reads.get (Reads.row (i := 2) rfl)) rfl rfl (fun x8 hx8 => ⟨(List.Sublist.refl _), ?_⟩))
          refine ExD.take (i := 11) rfl (by kernel_rfl) (pureVal_ok rfl) ((List.Sublist.refl _)) rfl rfl rfl ?_
          refine ExD.take (i := 12) rfl (by kernel_rfl) (pureVal_ok rfl) ((List.Sublist.refl _)) rfl rfl rfl ?_
          refine ExD.done (by kernel_rfl) ?_
          refine Ex.cond rfl (fun hb9 => ?_) (fun hb9 => ?_)
          · replace hb9 := nd_t hb9
            refine Ex.regSeq (ExL.pures 2 rfl ?_)
            refine ExL.nil ?_
            refine Ex.ret ?_
            refine MutQ.mk () rfl (.tmp rfl (.tmp rfl .nil)) (t2 (vI (by first | (rw [do_1 (by assumption)]; first | done | rfl) | (rw [do_2 (by assumption)]; first | done | rfl) | (rw [do_3n (by assumption) (by omega)]; first | done | rfl) | (rw [do_3 (by assumption) (by omega)]; first | done | rfl) | (rw [do_4 (by assumption)]; first | done | rfl) | (rw [do_5n (by assumption) (by omega)]; first | done | rfl) | (rw [do_5 (by assumption) (by omega)]; first | done | rfl) | (rw [do_0 (by assumption) (by assumption) (by assumption) (by assumption) (by assumption)]; first | done | rfl))) (vI (by first | (rw [do_1 (by assumption)]; first | done | rfl) | (rw [do_2 (by assumption)]; first | done | rfl) | (rw [do_3n (by assumption) (by omega)]; first | done | rfl) | (rw [do_3 (by assumption) (by omega)]; first | done | rfl) | (rw [do_4 (by assumption)]; first | done | rfl) | (rw [do_5n (by assumption) (by omega)]; first | done | rfl) | (rw [do_5 (by assumption) (by omega)]; first | done | rfl) | (rw [do_0 (by assumption) (by assumption) (by assumption) (by assumption) (by assumption)]; first | done | rfl)))) 3 [1, 2] (by first | (rw [do_1 (by assumption)]; first | done | rfl) | (rw [do_2 (by assumption)]; first | done | rfl) | (rw [do_3n (by assumption) (by omega)]; first | done | rfl) | (rw [do_3 (by assumption) (by omega)]; first | done | rfl) | (rw [do_4 (by assumption)]; first | done | rfl) | (rw [do_5n (by assumption) (by omega)]; first | done | rfl) | (rw [do_5 (by assumption) (by omega)]; first | done | rfl) | (rw [do_0 (by assumption) (by assumption) (by assumption) (by assumption) (by assumption)]; first | done | rfl)) rfl (trivial)
          · replace hb9 := nd_f hb9
            refine Ex.skip ?_
            refine Ex.regSeq (ExL.pures 2 rfl ?_)
            refine ExL.free (fr_load rfl rfl rfl rfl (CellO.blk (i := 0) rfl rfl)) rfl rfl rfl ?_
            refine ExL.pures 2 rfl ?_
            refine ExL.op rfl (op_storeC (i := 1) rfl rfl rfl rfl rfl rfl rfl rfl rfl rfl ?_)
            refine ExL.nil ?_
            refine Ex.region (ExL.pures 2 rfl ?_)
            refine ExL.op rfl (op_ret rfl rfl rfl (c_shows (⟨d.stack, d.shows, a.n, d.stopped, d.tickets⟩ : VDev) (by assumption) (by assumption) (by assumption) _ _ _) (fun w hw => ⟨Reads.get (Reads.blk (i := 1) rfl) w hw, Reads.get (Reads.row (i := 2) rfl) w hw⟩) rfl rfl (fun x10 hx10 => ?_))
            refine ExL.pures 2 rfl ?_
            refine ExL.op rfl (op_storeC (i := 1) rfl rfl rfl rfl rfl rfl rfl rfl rfl rfl ?_)
            refine ExL.nil ?_
            refine Ex.regSeq (ExL.pures 2 rfl ?_)
            refine ExL.nil ?_
            refine Ex.ret ?_
            refine MutQ.mk () rfl (.tmp rfl (.tmp rfl .nil)) (t2 (vI (by first | (rw [do_1 (by assumption)]; first | done | rfl) | (rw [do_2 (by assumption)]; first | done | rfl) | (rw [do_3n (by assumption) (by omega)]; first | done | rfl) | (rw [do_3 (by assumption) (by omega)]; first | done | rfl) | (rw [do_4 (by assumption)]; first | done | rfl) | (rw [do_5n (by assumption) (by omega)]; first | done | rfl) | (rw [do_5 (by assumption) (by omega)]; first | done | rfl) | (rw [do_0 (by assumption) (by assumption) (by assumption) (by assumption) (by assumption)]; first | done | rfl))) (vI (by first | (rw [do_1 (by assumption)]; first | done | rfl) | (rw [do_2 (by assumption)]; first | done | rfl) | (rw [do_3n (by assumption) (by omega)]; first | done | rfl) | (rw [do_3 (by assumption) (by omega)]; first | done | rfl) | (rw [do_4 (by assumption)]; first | done | rfl) | (rw [do_5n (by assumption) (by omega)]; first | done | rfl) | (rw [do_5 (by assumption) (by omega)]; first | done | rfl) | (rw [do_0 (by assumption) (by assumption) (by assumption) (by assumption) (by assumption)]; first | done | rfl)))) 3 [1, 2] (by first | (rw [do_1 (by assumption)]; first | done | rfl) | (rw [do_2 (by assumption)]; first | done | rfl) | (rw [do_3n (by assumption) (by omega)]; first | done | rfl) | (rw [do_3 (by assumption) (by omega)]; first | done | rfl) | (rw [do_4 (by assumption)]; first | done | rfl) | (rw [do_5n (by assumption) (by omega)]; first | done | rfl) | (rw [do_5 (by assumption) (by omega)]; first | done | rfl) | (rw [do_0 (by assumption) (by assumption) (by assumption) (by assumption) (by assumption)]; first | done | rfl)) rfl (trivial)
        · refine ExD.take (i := 3) rfl (by kernel_rfl) (pureVal_ok rfl) ((List.Sublist.refl _)) rfl rfl rfl ?_
          refine ExD.pass (i := 4) rfl (by kernel_rfl) ((List.Sublist.refl _)) rfl rfl rfl ?_
          refine ExD.pass (i := 5) rfl (by kernel_rfl) ((List.Sublist.refl _)) rfl rfl rfl ?_
          refine ExD.pass (i := 6) rfl (by kernel_rfl) ((List.Sublist.refl _)) rfl rfl rfl ?_
          refine ExD.pass (i := 7) rfl (by kernel_rfl) ((List.Sublist.refl _)) rfl rfl rfl ?_
          refine ExD.pass (i := 8) rfl (by kernel_rfl) ((List.Sublist.refl _)) rfl rfl rfl ?_
          refine ExD.pass (i := 9) rfl (by kernel_rfl) ((List.Sublist.refl _)) rfl rfl rfl ?_
          refine ExD.pass (i := 10) rfl (by kernel_rfl) ((List.Sublist.refl _)) rfl rfl rfl ?_
          refine ExD.pass (i := 11) rfl (by kernel_rfl) ((List.Sublist.refl _)) rfl rfl rfl ?_
          refine ExD.take (i := 12) rfl (by kernel_rfl) (pureVal_ok rfl) ((List.Sublist.refl _)) rfl rfl rfl ?_
          refine ExD.done (by kernel_rfl) ?_
          refine Ex.cond_f rfl ?_
          refine Ex.skip ?_
          refine Ex.regSeq (ExL.pures 2 rfl ?_)
          refine ExL.free (fr_load rfl rfl rfl rfl (CellO.blk (i := 0) rfl rfl)) rfl rfl rfl ?_
          refine ExL.pures 2 rfl ?_
          refine ExL.op rfl (op_storeC (i := 1) rfl rfl rfl rfl rfl rfl rfl rfl rfl rfl ?_)
          refine ExL.nil ?_
          refine Ex.region (ExL.pures 2 rfl ?_)
          refine ExL.op rfl (op_ret rfl rfl rfl (c_shows (⟨d.stack, d.shows, a.n, d.stopped, d.tickets⟩ : VDev) (by assumption) (by assumption) (by assumption) _ _ _) (fun w hw => ⟨Reads.get (Reads.blk (i := 1) rfl) w hw, Reads.get (Reads.row (i := 2) rfl) w hw⟩) rfl rfl (fun x11 hx11 => ?_))
          refine ExL.pures 2 rfl ?_
          refine ExL.op rfl (op_storeC (i := 1) rfl rfl rfl rfl rfl rfl rfl rfl rfl rfl ?_)
          refine ExL.nil ?_
          refine Ex.regSeq (ExL.pures 2 rfl ?_)
          refine ExL.nil ?_
          refine Ex.ret ?_
          refine MutQ.mk () rfl (.tmp rfl (.tmp rfl .nil)) (t2 (vI (by first | (rw [do_1 (by assumption)]; first | done | rfl) | (rw [do_2 (by assumption)]; first | done | rfl) | (rw [do_3n (by assumption) (by omega)]; first | done | rfl) | (rw [do_3 (by assumption) (by omega)]; first | done | rfl) | (rw [do_4 (by assumption)]; first | done | rfl) | (rw [do_5n (by assumption) (by omega)]; first | done | rfl) | (rw [do_5 (by assumption) (by omega)]; first | done | rfl) | (rw [do_0 (by assumption) (by assumption) (by assumption) (by assumption) (by assumption)]; first | done | rfl))) (vI (by first | (rw [do_1 (by assumption)]; first | done | rfl) | (rw [do_2 (by assumption)]; first | done | rfl) | (rw [do_3n (by assumption) (by omega)]; first | done | rfl) | (rw [do_3 (by assumption) (by omega)]; first | done | rfl) | (rw [do_4 (by assumption)]; first | done | rfl) | (rw [do_5n (by assumption) (by omega)]; first | done | rfl) | (rw [do_5 (by assumption) (by omega)]; first | done | rfl) | (rw [do_0 (by assumption) (by assumption) (by assumption) (by assumption) (by assumption)]; first | done | rfl)))) 3 [1, 2] (by first | (rw [do_1 (by assumption)]; first | done | rfl) | (rw [do_2 (by assumption)]; first | done | rfl) | (rw [do_3n (by assumption) (by omega)]; first | done | rfl) | (rw [do_3 (by assumption) (by omega)]; first | done | rfl) | (rw [do_4 (by assumption)]; first | done | rfl) | (rw [do_5n (by assumption) (by omega)]; first | done | rfl) | (rw [do_5 (by assumption) (by omega)]; first | done | rfl) | (rw [do_0 (by assumption) (by assumption) (by assumption) (by assumption) (by assumption)]; first | done | rfl)) rfl (trivial)
      · refine ExL.pures 1 rfl ?_
        refine ExL.nil ?_
        refine Ex.cond_f rfl ?_
        refine Ex.regSeq (ExL.pures 0 rfl ?_)
        refine ExL.eql rfl rfl rfl rfl rfl rfl (fun h12 => ?_) (fun h12 => ?_)
        · refine ExL.pures 1 rfl ?_
          refine ExL.nil ?_
          refine Ex.cond_t rfl ?_
          refine Ex.regSeq (ExL.pures 1 rfl ?_)
          refine ExL.free (fr_build rfl rfl rfl rfl) rfl rfl rfl ?_
          refine ExL.pures 2 rfl ?_
          refine ExL.op rfl (op_storeC (i := 1) rfl rfl rfl rfl rfl rfl rfl rfl rfl rfl ?_)
          refine ExL.nil ?_
          refine Ex.region (ExL.pures 4 rfl ?_)
          refine ExL.free (fr_load rfl rfl rfl rfl (CellO.blk (i := 1) rfl rfl)) rfl rfl rfl ?_
          refine ExL.free (fr_eql rfl rfl rfl) rfl rfl rfl ?_
          refine ExL.pures 2 rfl ?_
          refine ExL.op rfl (op_storeC (i := 1) rfl rfl rfl rfl rfl rfl rfl rfl rfl rfl ?_)
          refine ExL.nil ?_
          refine Ex.regSeq (ExL.pures 2 rfl ?_)
          refine ExL.nil ?_
          refine Ex.ret ?_
          refine MutQ.mk () rfl (.tmp rfl (.tmp rfl .nil)) (t2 (vI (by first | (rw [do_1 (by assumption)]; first | done | rfl) | (rw [do_2 (by assumption)]; first | done | rfl) | (rw [do_3n (by assumption) (by omega)]; first | done | rfl) | (rw [do_3 (by assumption) (by omega)]; first | done | rfl) | (rw [do_4 (by assumption)]; first | done | rfl) | (rw [do_5n (by assumption) (by omega)]; first | done | rfl) | (rw [do_5 (by assumption) (by omega)]; first | done | rfl) | (rw [do_0 (by assumption) (by assumption) (by assumption) (by assumption) (by assumption)]; first | done | rfl))) (vI (by first | (rw [do_1 (by assumption)]; first | done | rfl) | (rw [do_2 (by assumption)]; first | done | rfl) | (rw [do_3n (by assumption) (by omega)]; first | done | rfl) | (rw [do_3 (by assumption) (by omega)]; first | done | rfl) | (rw [do_4 (by assumption)]; first | done | rfl) | (rw [do_5n (by assumption) (by omega)]; first | done | rfl) | (rw [do_5 (by assumption) (by omega)]; first | done | rfl) | (rw [do_0 (by assumption) (by assumption) (by assumption) (by assumption) (by assumption)]; first | done | rfl)))) 3 [1, 2] (by first | (rw [do_1 (by assumption)]; first | done | rfl) | (rw [do_2 (by assumption)]; first | done | rfl) | (rw [do_3n (by assumption) (by omega)]; first | done | rfl) | (rw [do_3 (by assumption) (by omega)]; first | done | rfl) | (rw [do_4 (by assumption)]; first | done | rfl) | (rw [do_5n (by assumption) (by omega)]; first | done | rfl) | (rw [do_5 (by assumption) (by omega)]; first | done | rfl) | (rw [do_0 (by assumption) (by assumption) (by assumption) (by assumption) (by assumption)]; first | done | rfl)) rfl (trivial)
        · refine ExL.pures 1 rfl ?_
          refine ExL.nil ?_
          refine Ex.cond_f rfl ?_
          refine Ex.regSeq (ExL.pures 0 rfl ?_)
          refine ExL.eql rfl rfl rfl rfl rfl rfl (fun h13 => ?_) (fun h13 => ?_)
          · refine ExL.pures 1 rfl ?_
            refine ExL.nil ?_
            refine Ex.cond_t rfl ?_
            refine Ex.seq ?_
            refine Ex.regSeq (ExL.pures 3 rfl ?_)
            refine ExL.free (fr_load rfl rfl rfl rfl (CellO.blk (i := 1) rfl rfl)) rfl rfl rfl ?_
            refine ExL.eql rfl rfl rfl rfl rfl rfl (fun h14 => ?_) (fun h14 => ?_)
            · refine ExL.nil ?_
              refine Ex.cond_t rfl ?_
              refine Ex.regSeq (ExL.pures 2 rfl ?_)
              refine ExL.nil ?_
              refine Ex.ret ?_
              refine MutQ.mk () rfl (.tmp rfl (.tmp rfl .nil)) (t2 (vI (by first | (rw [do_1 (by assumption)]; first | done | rfl) | (rw [do_2 (by assumption)]; first | done | rfl) | (rw [do_3n (by assumption) (by omega)]; first | done | rfl) | (rw [do_3 (by assumption) (by omega)]; first | done | rfl) | (rw [do_4 (by assumption)]; first | done | rfl) | (rw [do_5n (by assumption) (by omega)]; first | done | rfl) | (rw [do_5 (by assumption) (by omega)]; first | done | rfl) | (rw [do_0 (by assumption) (by assumption) (by assumption) (by assumption) (by assumption)]; first | done | rfl))) (vI (by first | (rw [do_1 (by assumption)]; first | done | rfl) | (rw [do_2 (by assumption)]; first | done | rfl) | (rw [do_3n (by assumption) (by omega)]; first | done | rfl) | (rw [do_3 (by assumption) (by omega)]; first | done | rfl) | (rw [do_4 (by assumption)]; first | done | rfl) | (rw [do_5n (by assumption) (by omega)]; first | done | rfl) | (rw [do_5 (by assumption) (by omega)]; first | done | rfl) | (rw [do_0 (by assumption) (by assumption) (by assumption) (by assumption) (by assumption)]; first | done | rfl)))) 3 [1, 2] (by first | (rw [do_1 (by assumption)]; first | done | rfl) | (rw [do_2 (by assumption)]; first | done | rfl) | (rw [do_3n (by assumption) (by omega)]; first | done | rfl) | (rw [do_3 (by assumption) (by omega)]; first | done | rfl) | (rw [do_4 (by assumption)]; first | done | rfl) | (rw [do_5n (by assumption) (by omega)]; first | done | rfl) | (rw [do_5 (by assumption) (by omega)]; first | done | rfl) | (rw [do_0 (by assumption) (by assumption) (by assumption) (by assumption) (by assumption)]; first | done | rfl)) rfl (trivial)
            · refine ExL.nil ?_
              refine Ex.cond_f rfl ?_
              refine Ex.skip ?_
              refine Ex.region (ExL.pures 3 rfl ?_)
              refine ExL.free (fr_load rfl rfl rfl rfl (CellO.blk (i := 1) rfl rfl)) rfl rfl rfl ?_
              refine ExL.free (by first | exact fr_add64 rfl rfl rfl (by omega) | exact fr_add rfl rfl rfl) rfl rfl rfl ?_
              refine ExL.pures 2 rfl ?_
              refine ExL.op rfl (op_storeC (i := 1) rfl rfl rfl rfl rfl rfl rfl rfl rfl rfl ?_)
              refine ExL.nil ?_
              refine Ex.regSeq (ExL.pures 2 rfl ?_)
              refine ExL.nil ?_
              refine Ex.ret ?_
              refine MutQ.mk () rfl (.tmp rfl (.tmp rfl .nil)) (t2 (vI (by first | (rw [do_1 (by assumption)]; first | done | rfl) | (rw [do_2 (by assumption)]; first | done | rfl) | (rw [do_3n (by assumption) (by omega)]; first | done | rfl) | (rw [do_3 (by assumption) (by omega)]; first | done | rfl) | (rw [do_4 (by assumption)]; first | done | rfl) | (rw [do_5n (by assumption) (by omega)]; first | done | rfl) | (rw [do_5 (by assumption) (by omega)]; first | done | rfl) | (rw [do_0 (by assumption) (by assumption) (by assumption) (by assumption) (by assumption)]; first | done | rfl))) (vI (by first | (rw [do_1 (by assumption)]; first | done | rfl) | (rw [do_2 (by assumption)]; first | done | rfl) | (rw [do_3n (by assumption) (by omega)]; first | done | rfl) | (rw [do_3 (by assumption) (by omega)]; first | done | rfl) | (rw [do_4 (by assumption)]; first | done | rfl) | (rw [do_5n (by assumption) (by omega)]; first | done | rfl) | (rw [do_5 (by assumption) (by omega)]; first | done | rfl) | (rw [do_0 (by assumption) (by assumption) (by assumption) (by assumption) (by assumption)]; first | done | rfl)))) 3 [1, 2] (by first | (rw [do_1 (by assumption)]; first | done | rfl) | (rw [do_2 (by assumption)]; first | done | rfl) | (rw [do_3n (by assumption) (by omega)]; first | done | rfl) | (rw [do_3 (by assumption) (by omega)]; first | done | rfl) | (rw [do_4 (by assumption)]; first | done | rfl) | (rw [do_5n (by assumption) (by omega)]; first | done | rfl) | (rw [do_5 (by assumption) (by omega)]; first | done | rfl) | (rw [do_0 (by assumption) (by assumption) (by assumption) (by assumption) (by assumption)]; first | done | rfl)) rfl (trivial)
          · refine ExL.pures 1 rfl ?_
            refine ExL.nil ?_
            refine Ex.cond_f rfl ?_
            refine Ex.skip ?_
            refine Ex.regSeq (ExL.pures 2 rfl ?_)
            refine ExL.nil ?_
            refine Ex.ret ?_
            refine MutQ.mk () rfl (.tmp rfl (.tmp rfl .nil)) (t2 (vI (by first | (rw [do_1 (by assumption)]; first | done | rfl) | (rw [do_2 (by assumption)]; first | done | rfl) | (rw [do_3n (by assumption) (by omega)]; first | done | rfl) | (rw [do_3 (by assumption) (by omega)]; first | done | rfl) | (rw [do_4 (by assumption)]; first | done | rfl) | (rw [do_5n (by assumption) (by omega)]; first | done | rfl) | (rw [do_5 (by assumption) (by omega)]; first | done | rfl) | (rw [do_0 (by assumption) (by assumption) (by assumption) (by assumption) (by assumption)]; first | done | rfl))) (vI (by first | (rw [do_1 (by assumption)]; first | done | rfl) | (rw [do_2 (by assumption)]; first | done | rfl) | (rw [do_3n (by assumption) (by omega)]; first | done | rfl) | (rw [do_3 (by assumption) (by omega)]; first | done | rfl) | (rw [do_4 (by assumption)]; first | done | rfl) | (rw [do_5n (by assumption) (by omega)]; first | done | rfl) | (rw [do_5 (by assumption) (by omega)]; first | done | rfl) | (rw [do_0 (by assumption) (by assumption) (by assumption) (by assumption) (by assumption)]; first | done | rfl)))) 3 [1, 2] (by first | (rw [do_1 (by assumption)]; first | done | rfl) | (rw [do_2 (by assumption)]; first | done | rfl) | (rw [do_3n (by assumption) (by omega)]; first | done | rfl) | (rw [do_3 (by assumption) (by omega)]; first | done | rfl) | (rw [do_4 (by assumption)]; first | done | rfl) | (rw [do_5n (by assumption) (by omega)]; first | done | rfl) | (rw [do_5 (by assumption) (by omega)]; first | done | rfl) | (rw [do_0 (by assumption) (by assumption) (by assumption) (by assumption) (by assumption)]; first | done | rfl)) rfl (trivial)
theorem e_51 : Enters Tryz.prog 51 := Enters.of Tryz.func51 rfl
theorem c_l07Do (d : VDev) (hk : OkDev d) (hv : validDev d = true) (Ad : Option Addr) (cd : Nat) (b : Nat) (a : VAct) (hact : validAct a = true) : Mut Tryz.prog 51 [.pointer (some ⟨b, 0, none⟩), .agg (encA a).toArray] [.blk b (encV Ad cd d) 43, .row (.slice Ad d.stack.length cd) 5 1 d.stack.length (d.stack.flatMap (eI .u8))] (fun base w0 F => True) (fun x : Unit => .tuple #[.int .i64 (doV d a).2.1, .int .i64 (doV d a).2.2]) (fun x => [.blk b (encV Ad cd (doV d a).1) 43, .row (.slice Ad d.stack.length cd) 5 1 d.stack.length (d.stack.flatMap (eI .u8))]) (fun x => True) := by
  refine Mut.of e_51 Tryz.func51 rfl Tryz.ntmps51 rfl rfl (fun base w0 F hfr => ?_)
  have hkk := hk
  have han := act_n hact
  obtain ⟨hl, hu, ha, hpp, htt⟩ := hk
  have hO := devOk ha hv
  have hvs : validStack d.stack = true := by unfold validDev at hv; rw [decide_eq_true_iff] at hv; exact hv.1
  have hvd := hO.vd
  have hm0 : maxLen = 9223372036854775807 := rfl
  have hz := sizeS hO
  have hle := hO.stk.le
  have hps := hO.stk.pos
  have hlt : 0 ≤ val d.stack d.shows.l ∧ val d.stack d.shows.l < prod d.stack := hO.v_lt
  have hpr := hO.preset
  have htk := hO.tick
  refine Ex.regSeq (ExL.pures 0 rfl ?_)
  refine ExL.op rfl (op_box rfl rfl rfl rfl rfl (fun b1 => ?_))
  refine ExL.pures 2 rfl ?_
  refine ExL.nil ?_
  refine Ex.seq ?_
  refine Ex.regSeq (ExL.pures 1 rfl ?_)
  refine ExL.free (fr_load rfl rfl rfl rfl (CellO.blk (i := 0) rfl rfl)) rfl rfl rfl ?_
  refine ExL.nil ?_
  refine Ex.block ?_
  refine Ex.regSeq (ExL.pures 0 rfl ?_)
  refine ExL.eql rfl rfl rfl rfl rfl rfl (fun h2 => ?_) (fun h2 => ?_)
  · refine ExL.pures 1 rfl ?_
    refine ExL.nil ?_
    refine Ex.cond_t rfl ?_
    refine Ex.regSeq (ExL.pures 2 rfl ?_)
    refine ExL.free (fr_load rfl rfl rfl rfl (CellO.blk (i := 0) rfl rfl)) rfl rfl rfl ?_
    refine ExL.op rfl (op_mut rfl rfl rfl (c_l07Count_f d (by assumption) (by assumption) _ _ _ _ (by omega)) (perm_lt (i := 1) (j := 2) rfl rfl rfl) (trivial) rfl rfl (fun x3 hx3 => ?_))
    refine ExL.pures 2 rfl ?_
    refine ExL.nil ?_
    refine Ex.ret ?_
    refine MutQ.mk () rfl (.tmp rfl (.tmp rfl .nil)) (t2 (vI (by first | (rw [do_1 (by assumption)]; first | done | rfl) | (rw [do_2 (by assumption)]; first | done | rfl) | (rw [do_3n (by assumption) (by omega)]; first | done | rfl) | (rw [do_3 (by assumption) (by omega)]; first | done | rfl) | (rw [do_4 (by assumption)]; first | done | rfl) | (rw [do_5n (by assumption) (by omega)]; first | done | rfl) | (rw [do_5 (by assumption) (by omega)]; first | done | rfl) | (rw [do_0 (by assumption) (by assumption) (by assumption) (by assumption) (by assumption)]; first | done | rfl))) (vI (by first | (rw [do_1 (by assumption)]; first | done | rfl) | (rw [do_2 (by assumption)]; first | done | rfl) | (rw [do_3n (by assumption) (by omega)]; first | done | rfl) | (rw [do_3 (by assumption) (by omega)]; first | done | rfl) | (rw [do_4 (by assumption)]; first | done | rfl) | (rw [do_5n (by assumption) (by omega)]; first | done | rfl) | (rw [do_5 (by assumption) (by omega)]; first | done | rfl) | (rw [do_0 (by assumption) (by assumption) (by assumption) (by assumption) (by assumption)]; first | done | rfl)))) 3 [0, 1] (by first | (rw [do_1 (by assumption)]; first | done | rfl) | (rw [do_2 (by assumption)]; first | done | rfl) | (rw [do_3n (by assumption) (by omega)]; first | done | rfl) | (rw [do_3 (by assumption) (by omega)]; first | done | rfl) | (rw [do_4 (by assumption)]; first | done | rfl) | (rw [do_5n (by assumption) (by omega)]; first | done | rfl) | (rw [do_5 (by assumption) (by omega)]; first | done | rfl) | (rw [do_0 (by assumption) (by assumption) (by assumption) (by assumption) (by assumption)]; first | done | rfl)) rfl (trivial)
  · refine ExL.pures 1 rfl ?_
    refine ExL.nil ?_
    refine Ex.cond_f rfl ?_
    refine Ex.regSeq (ExL.pures 0 rfl ?_)
    refine ExL.eql rfl rfl rfl rfl rfl rfl (fun h4 => ?_) (fun h4 => ?_)
    · refine ExL.pures 1 rfl ?_
      refine ExL.nil ?_
      refine Ex.cond_t rfl ?_
      refine Ex.regSeq (ExL.pures 2 rfl ?_)
      refine ExL.free (fr_load rfl rfl rfl rfl (CellO.blk (i := 0) rfl rfl)) rfl rfl rfl ?_
      refine ExL.op rfl (op_mut rfl rfl rfl (c_l07Count_t d (by assumption) (by assumption) _ _ _ _ (by omega)) (perm_lt (i := 1) (j := 2) rfl rfl rfl) (trivial) rfl rfl (fun x5 hx5 => ?_))
      refine ExL.pures 2 rfl ?_
      refine ExL.nil ?_
      refine Ex.ret ?_
      refine MutQ.mk () rfl (.tmp rfl (.tmp rfl .nil)) (t2 (vI (by first | (rw [do_1 (by assumption)]; first | done | rfl) | (rw [do_2 (by assumption)]; first | done | rfl) | (rw [do_3n (by assumption) (by omega)]; first | done | rfl) | (rw [do_3 (by assumption) (by omega)]; first | done | rfl) | (rw [do_4 (by assumption)]; first | done | rfl) | (rw [do_5n (by assumption) (by omega)]; first | done | rfl) | (rw [do_5 (by assumption) (by omega)]; first | done | rfl) | (rw [do_0 (by assumption) (by assumption) (by assumption) (by assumption) (by assumption)]; first | done | rfl))) (vI (by first | (rw [do_1 (by assumption)]; first | done | rfl) | (rw [do_2 (by assumption)]; first | done | rfl) | (rw [do_3n (by assumption) (by omega)]; first | done | rfl) | (rw [do_3 (by assumption) (by omega)]; first | done | rfl) | (rw [do_4 (by assumption)]; first | done | rfl) | (rw [do_5n (by assumption) (by omega)]; first | done | rfl) | (rw [do_5 (by assumption) (by omega)]; first | done | rfl) | (rw [do_0 (by assumption) (by assumption) (by assumption) (by assumption) (by assumption)]; first | done | rfl)))) 3 [0, 1] (by first | (rw [do_1 (by assumption)]; first | done | rfl) | (rw [do_2 (by assumption)]; first | done | rfl) | (rw [do_3n (by assumption) (by omega)]; first | done | rfl) | (rw [do_3 (by assumption) (by omega)]; first | done | rfl) | (rw [do_4 (by assumption)]; first | done | rfl) | (rw [do_5n (by assumption) (by omega)]; first | done | rfl) | (rw [do_5 (by assumption) (by omega)]; first | done | rfl) | (rw [do_0 (by assumption) (by assumption) (by assumption) (by assumption) (by assumption)]; first | done | rfl)) rfl (trivial)
    · refine ExL.pures 1 rfl ?_
      refine ExL.nil ?_
      refine Ex.cond_f rfl ?_
      refine Ex.regSeq (ExL.pures 0 rfl ?_)
      refine ExL.eql rfl rfl rfl rfl rfl rfl (fun h6 => ?_) (fun h6 => ?_)
      · refine ExL.pures 1 rfl ?_
        refine ExL.nil ?_
        refine Ex.cond_t rfl ?_
        refine Ex.seq ?_
        refine Ex.drawSeqM rfl ?_
        refine ExD.take (i := 0) rfl (by kernel_rfl) (pureVal_ok rfl) ((List.Sublist.refl _)) rfl rfl rfl ?_
        refine ExD.take (i := 1) rfl (by kernel_rfl) (fr_load rfl rfl rfl rfl (CellO.blk (i := 0) rfl rfl)) ((List.Sublist.refl _)) rfl rfl rfl ?_
        refine ExD.take (i := 2) rfl (by kernel_rfl) (pureVal_ok rfl) ((List.Sublist.refl _)) rfl rfl rfl ?_
        refine ExD.take (i := 3) rfl (by kernel_rfl) (pureVal_ok rfl) ((List.Sublist.refl _)) rfl rfl rfl ?_
        refine ExD.take (i := 4) rfl (by kernel_rfl) (pureVal_ok rfl) ((List.Sublist.refl _)) rfl rfl rfl ?_
        refine ExD.take (i := 5) rfl (by kernel_rfl) (fr_load rfl rfl rfl rfl (CellO.blk (i := 1) rfl rfl)) ((List.Sublist.refl _)) rfl rfl rfl ?_
        refine ExD.op (i := 6) rfl (by kernel_rfl) rfl (op_ret rfl rfl rfl (c_l01Size _ (by assumption) _ _ (by first | assumption | omega | (unfold maxLen; omega))) (Reads.get (Reads.row (i := 2) rfl)) rfl rfl (fun x7 hx7 => ⟨(List.Sublist.refl _), ?_⟩))
        refine ExD.cmp_geq (i := 7) rfl (by kernel_rfl) rfl rfl rfl ((List.Sublist.refl _)) rfl rfl rfl (fun h8 => ?_) (fun h8 => ?_)
        · refine ExD.done (by kernel_rfl) ?_
          refine Ex.cond_t rfl ?_
          refine Ex.regSeq (ExL.pures 2 rfl ?_)
          refine ExL.nil ?_
          refine Ex.ret ?_
          refine MutQ.mk () rfl (.tmp rfl (.tmp rfl .nil)) (t2 (vI (by first | (rw [do_1 (by assumption)]; first | done | rfl) | (rw [do_2 (by assumption)]; first | done | rfl) | (rw [do_3n (by assumption) (by omega)]; first | done | rfl) | (rw [do_3 (by assumption) (by omega)]; first | done | rfl) | (rw [do_4 (by assumption)]; first | done | rfl) | (rw [do_5n (by assumption) (by omega)]; first | done | rfl) | (rw [do_5 (by assumption) (by omega)]; first | done | rfl) | (rw [do_0 (by assumption) (by assumption) (by assumption) (by assumption) (by assumption)]; first | done | rfl))) (vI (by first | (rw [do_1 (by assumption)]; first | done | rfl) | (rw [do_2 (by assumption)]; first | done | rfl) | (rw [do_3n (by assumption) (by omega)]; first | done | rfl) | (rw [do_3 (by assumption) (by omega)]; first | done | rfl) | (rw [do_4 (by assumption)]; first | done | rfl) | (rw [do_5n (by assumption) (by omega)]; first | done | rfl) | (rw [do_5 (by assumption) (by omega)]; first | done | rfl) | (rw [do_0 (by assumption) (by assumption) (by assumption) (by assumption) (by assumption)]; first | done | rfl)))) 3 [1, 2] (by first | (rw [do_1 (by assumption)]; first | done | rfl) | (rw [do_2 (by assumption)]; first | done | rfl) | (rw [do_3n (by assumption) (by omega)]; first | done | rfl) | (rw [do_3 (by assumption) (by omega)]; first | done | rfl) | (rw [do_4 (by assumption)]; first | done | rfl) | (rw [do_5n (by assumption) (by omega)]; first | done | rfl) | (rw [do_5 (by assumption) (by omega)]; first | done | rfl) | (rw [do_0 (by assumption) (by assumption) (by assumption) (by assumption) (by assumption)]; first | done | rfl)) rfl (trivial)
        · refine ExD.done (by kernel_rfl) ?_
          refine Ex.cond_f rfl ?_
          refine Ex.skip ?_
          refine Ex.regSeq (ExL.pures 2 rfl ?_)
          refine ExL.free (fr_load rfl rfl rfl rfl (CellO.blk (i := 0) rfl rfl)) rfl rfl rfl ?_
          refine ExL.pures 2 rfl ?_
          refine ExL.op rfl (op_storeC (i := 1) rfl rfl rfl rfl rfl rfl rfl rfl rfl rfl ?_)
          refine ExL.nil ?_
          refine Ex.drawI [0, 2] rfl rfl ?_
          refine ExD.take (i := 0) rfl (by kernel_rfl) (pureVal_ok rfl) ((List.Sublist.cons_cons _ (List.Sublist.cons _ (List.Sublist.cons_cons _ (List.nil_sublist _))))) rfl rfl rfl ?_
          refine ExD.take (i := 1) rfl (by kernel_rfl) (pureVal_ok rfl) ((List.Sublist.cons_cons _ (List.Sublist.cons _ (List.Sublist.cons_cons _ (List.nil_sublist _))))) rfl rfl rfl ?_
          refine ExD.take (i := 2) rfl (by kernel_rfl) (fr_load rfl rfl rfl rfl (CellO.blk (i := 0) rfl rfl)) ((List.Sublist.cons_cons _ (List.Sublist.cons _ (List.Sublist.cons_cons _ (List.nil_sublist _))))) rfl rfl rfl ?_
          refine ExD.take (i := 3) rfl (by kernel_rfl) (pureVal_ok rfl) ((List.Sublist.cons_cons _ (List.Sublist.cons _ (List.Sublist.cons_cons _ (List.nil_sublist _))))) rfl rfl rfl ?_
          refine ExD.take (i := 4) rfl (by kernel_rfl) (pureVal_ok rfl) ((List.Sublist.cons_cons _ (List.Sublist.cons _ (List.Sublist.cons_cons _ (List.nil_sublist _))))) rfl rfl rfl ?_
          refine ExD.take (i := 5) rfl (by kernel_rfl) (pureVal_ok rfl) ((List.Sublist.cons_cons _ (List.Sublist.cons _ (List.Sublist.cons_cons _ (List.nil_sublist _))))) rfl rfl rfl ?_
          refine ExD.take (i := 7) rfl (by kernel_rfl) (pureVal_ok rfl) ((List.Sublist.cons_cons _ (List.Sublist.cons _ (List.Sublist.cons_cons _ (List.nil_sublist _))))) rfl rfl rfl ?_
          refine ExD.take (i := 8) rfl (by kernel_rfl) (pureVal_ok rfl) ((List.Sublist.cons_cons _ (List.Sublist.cons _ (List.Sublist.cons_cons _ (List.nil_sublist _))))) rfl rfl rfl ?_
          refine ExD.take (i := 9) rfl (by kernel_rfl) (pureVal_ok rfl) ((List.Sublist.cons_cons _ (List.Sublist.cons _ (List.Sublist.cons_cons _ (List.nil_sublist _))))) rfl rfl rfl ?_
          refine ExD.two (i := 6) (j := 10) rfl rfl (by kernel_rfl) (by kernel_rfl) (by kernel_rfl) rfl (List.Sublist.cons_cons _ (List.Sublist.cons _ (List.Sublist.cons_cons _ (List.nil_sublist _)))) rfl rfl rfl rfl rfl rfl rfl rfl rfl (fr_load rfl rfl rfl rfl (CellO.blk (i := 1) rfl rfl)) (fr_loadN rfl rfl rfl rfl rfl (SegO.part (i := 1) 8 rfl)) (fr_load rfl rfl rfl rfl (CellO.blk (i := 1) rfl rfl)) (fr_loadN rfl rfl rfl rfl rfl (SegO.part (i := 1) 8 rfl)) ?_
          refine ExD.op (i := 11) rfl (by kernel_rfl) rfl (op_ret rfl rfl rfl (c_l01Value d.stack (by first | assumption | simp_all) _ _ d.shows (by assumption) (by first | assumption | simp_all)) (Reads.get (Reads.row (i := 2) rfl)) rfl rfl (fun x9 hx9 => ⟨(List.Sublist.cons_cons _ (List.Sublist.cons _ (List.Sublist.cons_cons _ (List.nil_sublist _)))), ?_⟩))
          refine ExD.take (i := 12) rfl (by kernel_rfl) (fr_eql rfl rfl rfl) ((List.Sublist.cons_cons _ (List.Sublist.cons _ (List.Sublist.cons_cons _ (List.nil_sublist _))))) rfl rfl rfl ?_
          refine ExD.take (i := 13) rfl (by kernel_rfl) (pureVal_ok rfl) ((List.Sublist.cons_cons _ (List.Sublist.cons _ (List.Sublist.cons_cons _ (List.nil_sublist _))))) rfl rfl rfl ?_
          refine ExD.take (i := 14) rfl (by kernel_rfl) (pureVal_ok rfl) ((List.Sublist.cons_cons _ (List.Sublist.cons _ (List.Sublist.cons_cons _ (List.nil_sublist _))))) rfl rfl rfl ?_
          refine ExD.op (i := 15) rfl (by kernel_rfl) rfl (op_storeC (i := 1) rfl rfl rfl rfl rfl rfl rfl rfl rfl rfl ⟨(List.Sublist.cons_cons _ (List.Sublist.cons _ (List.Sublist.cons_cons _ (List.nil_sublist _)))), ?_⟩)
          refine ExD.done (by kernel_rfl) ?_
          refine Ex.regSeq (ExL.pures 2 rfl ?_)
          refine ExL.nil ?_
          refine Ex.ret ?_
          refine MutQ.mk () rfl (.tmp rfl (.tmp rfl .nil)) (t2 (vI (by first | (rw [do_1 (by assumption)]; first | done | rfl) | (rw [do_2 (by assumption)]; first | done | rfl) | (rw [do_3n (by assumption) (by omega)]; first | done | rfl) | (rw [do_3 (by assumption) (by omega)]; first | done | rfl) | (rw [do_4 (by assumption)]; first | done | rfl) | (rw [do_5n (by assumption) (by omega)]; first | done | rfl) | (rw [do_5 (by assumption) (by omega)]; first | done | rfl) | (rw [do_0 (by assumption) (by assumption) (by assumption) (by assumption) (by assumption)]; first | done | rfl))) (vI (by first | (rw [do_1 (by assumption)]; first | done | rfl) | (rw [do_2 (by assumption)]; first | done | rfl) | (rw [do_3n (by assumption) (by omega)]; first | done | rfl) | (rw [do_3 (by assumption) (by omega)]; first | done | rfl) | (rw [do_4 (by assumption)]; first | done | rfl) | (rw [do_5n (by assumption) (by omega)]; first | done | rfl) | (rw [do_5 (by assumption) (by omega)]; first | done | rfl) | (rw [do_0 (by assumption) (by assumption) (by assumption) (by assumption) (by assumption)]; first | done | rfl)))) 3 [1, 2] (by first | (rw [do_1 (by assumption)]; first | done | rfl) | (rw [do_2 (by assumption)]; first | done | rfl) | (rw [do_3n (by assumption) (by omega)]; first | done | rfl) | (rw [do_3 (by assumption) (by omega)]; first | done | rfl) | (rw [do_4 (by assumption)]; first | done | rfl) | (rw [do_5n (by assumption) (by omega)]; first | done | rfl) | (rw [do_5 (by assumption) (by omega)]; first | done | rfl) | (rw [do_0 (by assumption) (by assumption) (by assumption) (by assumption) (by assumption)]; first | done | rfl)) rfl (trivial)
      · refine ExL.pures 1 rfl ?_
        refine ExL.nil ?_
        refine Ex.cond_f rfl ?_
        refine Ex.regSeq (ExL.pures 0 rfl ?_)
        refine ExL.eql rfl rfl rfl rfl rfl rfl (fun h10 => ?_) (fun h10 => ?_)
        · refine ExL.pures 1 rfl ?_
          refine ExL.nil ?_
          refine Ex.cond_t rfl ?_
          refine Ex.regSeq (ExL.pures 1 rfl ?_)
          refine ExL.free (fr_build rfl rfl rfl rfl) rfl rfl rfl ?_
          refine ExL.pures 2 rfl ?_
          refine ExL.op rfl (op_storeC (i := 1) rfl rfl rfl rfl rfl rfl rfl rfl rfl rfl ?_)
          refine ExL.nil ?_
          refine Ex.region (ExL.pures 4 rfl ?_)
          refine ExL.free (fr_load rfl rfl rfl rfl (CellO.blk (i := 1) rfl rfl)) rfl rfl rfl ?_
          refine ExL.free (fr_eql rfl rfl rfl) rfl rfl rfl ?_
          refine ExL.pures 2 rfl ?_
          refine ExL.op rfl (op_storeC (i := 1) rfl rfl rfl rfl rfl rfl rfl rfl rfl rfl ?_)
          refine ExL.nil ?_
          refine Ex.regSeq (ExL.pures 2 rfl ?_)
          refine ExL.nil ?_
          refine Ex.ret ?_
          refine MutQ.mk () rfl (.tmp rfl (.tmp rfl .nil)) (t2 (vI (by first | (rw [do_1 (by assumption)]; first | done | rfl) | (rw [do_2 (by assumption)]; first | done | rfl) | (rw [do_3n (by assumption) (by omega)]; first | done | rfl) | (rw [do_3 (by assumption) (by omega)]; first | done | rfl) | (rw [do_4 (by assumption)]; first | done | rfl) | (rw [do_5n (by assumption) (by omega)]; first | done | rfl) | (rw [do_5 (by assumption) (by omega)]; first | done | rfl) | (rw [do_0 (by assumption) (by assumption) (by assumption) (by assumption) (by assumption)]; first | done | rfl))) (vI (by first | (rw [do_1 (by assumption)]; first | done | rfl) | (rw [do_2 (by assumption)]; first | done | rfl) | (rw [do_3n (by assumption) (by omega)]; first | done | rfl) | (rw [do_3 (by assumption) (by omega)]; first | done | rfl) | (rw [do_4 (by assumption)]; first | done | rfl) | (rw [do_5n (by assumption) (by omega)]; first | done | rfl) | (rw [do_5 (by assumption) (by omega)]; first | done | rfl) | (rw [do_0 (by assumption) (by assumption) (by assumption) (by assumption) (by assumption)]; first | done | rfl)))) 3 [1, 2] (by first | (rw [do_1 (by assumption)]; first | done | rfl) | (rw [do_2 (by assumption)]; first | done | rfl) | (rw [do_3n (by assumption) (by omega)]; first | done | rfl) | (rw [do_3 (by assumption) (by omega)]; first | done | rfl) | (rw [do_4 (by assumption)]; first | done | rfl) | (rw [do_5n (by assumption) (by omega)]; first | done | rfl) | (rw [do_5 (by assumption) (by omega)]; first | done | rfl) | (rw [do_0 (by assumption) (by assumption) (by assumption) (by assumption) (by assumption)]; first | done | rfl)) rfl (trivial)
        · refine ExL.pures 1 rfl ?_
          refine ExL.nil ?_
          refine Ex.cond_f rfl ?_
          refine Ex.regSeq (ExL.pures 0 rfl ?_)
          refine ExL.eql rfl rfl rfl rfl rfl rfl (fun h11 => ?_) (fun h11 => ?_)
          · refine ExL.pures 1 rfl ?_
            refine ExL.nil ?_
            refine Ex.cond_t rfl ?_
            refine Ex.seq ?_
            refine Ex.regSeq (ExL.pures 3 rfl ?_)
            refine ExL.free (fr_load rfl rfl rfl rfl (CellO.blk (i := 1) rfl rfl)) rfl rfl rfl ?_
            refine ExL.geq rfl rfl rfl rfl rfl rfl (fun h12 => ?_) (fun h12 => ?_)
            · refine ExL.nil ?_
              refine Ex.cond_t rfl ?_
              refine Ex.regSeq (ExL.pures 2 rfl ?_)
              refine ExL.nil ?_
              refine Ex.ret ?_
              refine MutQ.mk () rfl (.tmp rfl (.tmp rfl .nil)) (t2 (vI (by first | (rw [do_1 (by assumption)]; first | done | rfl) | (rw [do_2 (by assumption)]; first | done | rfl) | (rw [do_3n (by assumption) (by omega)]; first | done | rfl) | (rw [do_3 (by assumption) (by omega)]; first | done | rfl) | (rw [do_4 (by assumption)]; first | done | rfl) | (rw [do_5n (by assumption) (by omega)]; first | done | rfl) | (rw [do_5 (by assumption) (by omega)]; first | done | rfl) | (rw [do_0 (by assumption) (by assumption) (by assumption) (by assumption) (by assumption)]; first | done | rfl))) (vI (by first | (rw [do_1 (by assumption)]; first | done | rfl) | (rw [do_2 (by assumption)]; first | done | rfl) | (rw [do_3n (by assumption) (by omega)]; first | done | rfl) | (rw [do_3 (by assumption) (by omega)]; first | done | rfl) | (rw [do_4 (by assumption)]; first | done | rfl) | (rw [do_5n (by assumption) (by omega)]; first | done | rfl) | (rw [do_5 (by assumption) (by omega)]; first | done | rfl) | (rw [do_0 (by assumption) (by assumption) (by assumption) (by assumption) (by assumption)]; first | done | rfl)))) 3 [1, 2] (by first | (rw [do_1 (by assumption)]; first | done | rfl) | (rw [do_2 (by assumption)]; first | done | rfl) | (rw [do_3n (by assumption) (by omega)]; first | done | rfl) | (rw [do_3 (by assumption) (by omega)]; first | done | rfl) | (rw [do_4 (by assumption)]; first | done | rfl) | (rw [do_5n (by assumption) (by omega)]; first | done | rfl) | (rw [do_5 (by assumption) (by omega)]; first | done | rfl) | (rw [do_0 (by assumption) (by assumption) (by assumption) (by assumption) (by assumption)]; first | done | rfl)) rfl (trivial)
            · refine ExL.nil ?_
              refine Ex.cond_f rfl ?_
              refine Ex.skip ?_
              refine Ex.region (ExL.pures 3 rfl ?_)
              refine ExL.free (fr_load rfl rfl rfl rfl (CellO.blk (i := 1) rfl rfl)) rfl rfl rfl ?_
              refine ExL.free (by first | exact fr_add64 rfl rfl rfl (by omega) | exact fr_add rfl rfl rfl) rfl rfl rfl ?_
              refine ExL.pures 2 rfl ?_
              refine ExL.op rfl (op_storeC (i := 1) rfl rfl rfl rfl rfl rfl rfl rfl rfl rfl ?_)
              refine ExL.nil ?_
              refine Ex.regSeq (ExL.pures 2 rfl ?_)
              refine ExL.nil ?_
              refine Ex.ret ?_
              refine MutQ.mk () rfl (.tmp rfl (.tmp rfl .nil)) (t2 (vI (by first | (rw [do_1 (by assumption)]; first | done | rfl) | (rw [do_2 (by assumption)]; first | done | rfl) | (rw [do_3n (by assumption) (by omega)]; first | done | rfl) | (rw [do_3 (by assumption) (by omega)]; first | done | rfl) | (rw [do_4 (by assumption)]; first | done | rfl) | (rw [do_5n (by assumption) (by omega)]; first | done | rfl) | (rw [do_5 (by assumption) (by omega)]; first | done | rfl) | (rw [do_0 (by assumption) (by assumption) (by assumption) (by assumption) (by assumption)]; first | done | rfl))) (vI (by first | (rw [do_1 (by assumption)]; first | done | rfl) | (rw [do_2 (by assumption)]; first | done | rfl) | (rw [do_3n (by assumption) (by omega)]; first | done | rfl) | (rw [do_3 (by assumption) (by omega)]; first | done | rfl) | (rw [do_4 (by assumption)]; first | done | rfl) | (rw [do_5n (by assumption) (by omega)]; first | done | rfl) | (rw [do_5 (by assumption) (by omega)]; first | done | rfl) | (rw [do_0 (by assumption) (by assumption) (by assumption) (by assumption) (by assumption)]; first | done | rfl)))) 3 [1, 2] (by first | (rw [do_1 (by assumption)]; first | done | rfl) | (rw [do_2 (by assumption)]; first | done | rfl) | (rw [do_3n (by assumption) (by omega)]; first | done | rfl) | (rw [do_3 (by assumption) (by omega)]; first | done | rfl) | (rw [do_4 (by assumption)]; first | done | rfl) | (rw [do_5n (by assumption) (by omega)]; first | done | rfl) | (rw [do_5 (by assumption) (by omega)]; first | done | rfl) | (rw [do_0 (by assumption) (by assumption) (by assumption) (by assumption) (by assumption)]; first | done | rfl)) rfl (trivial)
          · refine ExL.pures 1 rfl ?_
            refine ExL.nil ?_
            refine Ex.cond_f rfl ?_
            refine Ex.skip ?_
            refine Ex.regSeq (ExL.pures 2 rfl ?_)
            refine ExL.nil ?_
            refine Ex.ret ?_
            refine MutQ.mk () rfl (.tmp rfl (.tmp rfl .nil)) (t2 (vI (by first | (rw [do_1 (by assumption)]; first | done | rfl) | (rw [do_2 (by assumption)]; first | done | rfl) | (rw [do_3n (by assumption) (by omega)]; first | done | rfl) | (rw [do_3 (by assumption) (by omega)]; first | done | rfl) | (rw [do_4 (by assumption)]; first | done | rfl) | (rw [do_5n (by assumption) (by omega)]; first | done | rfl) | (rw [do_5 (by assumption) (by omega)]; first | done | rfl) | (rw [do_0 (by assumption) (by assumption) (by assumption) (by assumption) (by assumption)]; first | done | rfl))) (vI (by first | (rw [do_1 (by assumption)]; first | done | rfl) | (rw [do_2 (by assumption)]; first | done | rfl) | (rw [do_3n (by assumption) (by omega)]; first | done | rfl) | (rw [do_3 (by assumption) (by omega)]; first | done | rfl) | (rw [do_4 (by assumption)]; first | done | rfl) | (rw [do_5n (by assumption) (by omega)]; first | done | rfl) | (rw [do_5 (by assumption) (by omega)]; first | done | rfl) | (rw [do_0 (by assumption) (by assumption) (by assumption) (by assumption) (by assumption)]; first | done | rfl)))) 3 [1, 2] (by first | (rw [do_1 (by assumption)]; first | done | rfl) | (rw [do_2 (by assumption)]; first | done | rfl) | (rw [do_3n (by assumption) (by omega)]; first | done | rfl) | (rw [do_3 (by assumption) (by omega)]; first | done | rfl) | (rw [do_4 (by assumption)]; first | done | rfl) | (rw [do_5n (by assumption) (by omega)]; first | done | rfl) | (rw [do_5 (by assumption) (by omega)]; first | done | rfl) | (rw [do_0 (by assumption) (by assumption) (by assumption) (by assumption) (by assumption)]; first | done | rfl)) rfl (trivial)
end Go.Proofs.YtfcmehdmbfhodaaGreat

/- What these functions of the program hand back, each proved by walking its operations. -/
set_option linter.unusedVariables false
set_option linter.unusedSimpArgs false
set_option maxRecDepth 4000
namespace Go.Proofs.YtfcmehdmbfhodaaGreat
open Go Go.Sx Go.RowKit Go.W Go.Proofs
attribute [local irreducible] Ex ExL ExD Op1 Free RetQ MutQ Reads CellO SegO LoadsAs
theorem e_90 : Enters Tryz.prog 90 := Enters.of Tryz.func90 rfl
theorem c_Clone (s : List Int) (As : Option Addr) (cs : Nat) (hls : s.length ≤ 1048576) : Ret Tryz.prog 90 [.slice As s.length cs] (fun w => Rd w As (s.flatMap (eI .u8))) (fun x : Option Addr × Nat => .slice x.1 s.length x.2) (fun x => [.row (.slice x.1 s.length x.2) 5 1 s.length (s.flatMap (eI .u8))]) (fun x => True) := by
  refine Ret.of e_90 Tryz.func90 rfl Tryz.ntmps90 rfl rfl (fun w hpre => ?_)
  have hs := hpre.base
  have hm0 : maxLen = 9223372036854775807 := rfl
  refine Ex.regSeq (ExL.pures 1 rfl ?_)
  refine ExL.nil ?_
  refine Ex.seq ?_
  refine Ex.regSeq (ExL.pures 1 rfl ?_)
  refine ExL.free (fr_eql_nil rfl rfl rfl rfl) rfl rfl rfl ?_
  refine ExL.nil ?_
  refine Ex.cond rfl (fun hb1 => ?_) (fun hb1 => ?_)
  · refine Ex.regSeq (ExL.pures 1 rfl ?_)
    refine ExL.nil ?_
    refine Ex.nilRow 5 1 ?_
    refine Ex.ret ?_
    obtain rfl := nil_of_none hs (by assumption)
    refine RetQ.mk (none, 0) rfl (.tmp rfl .nil) (rfl) [0] (rfl) rfl (trivial)
  · refine Ex.skip ?_
    refine Ex.regSeq (ExL.pures 0 rfl ?_)
    refine ExL.op rfl (op_buildSlice (sz := 1) rfl rfl rfl rfl rfl rfl rfl rfl (by decide) rfl rfl rfl (fun r2 => ?_))
    refine ExL.pures 1 rfl ?_
    refine ExL.op rfl (op_append0 (sz := 1) (bytes := 1) (i := 0) rfl rfl rfl rfl (Reads.old hs) (flat_len (eI_len .u8) _) (fun e => by simp_all) (all_flat (fun _ => rfl) _) rfl rfl rfl (by constructor <;> first | omega | (unfold maxLen; omega)) rfl rfl (fun A3 cA3 => ?_))
    refine ExL.pures 1 rfl ?_
    refine ExL.nil ?_
    refine Ex.ret ?_
    refine RetQ.mk (A3, cA3) rfl (.tmp rfl .nil) (rfl) [0] (rfl) rfl (trivial)
theorem e_46 : Enters Tryz.prog 46 := Enters.of Tryz.func46 rfl
theorem c_cloneDevice (d : VDev) (Ad : Option Addr) (cd : Nat) (hl : d.stack.length ≤ 1048576) : Ret Tryz.prog 46 [.agg (encV Ad cd d).toArray] (fun w => Rd w Ad (d.stack.flatMap (eI .u8))) (fun x : Option Addr × Nat => .agg (encV x.1 x.2 d).toArray) (fun x => [.row (.slice x.1 d.stack.length x.2) 5 1 d.stack.length (d.stack.flatMap (eI .u8))]) (fun x => True) := by
  refine Ret.of e_46 Tryz.func46 rfl Tryz.ntmps46 rfl rfl (fun w hpre => ?_)
  have hd := hpre.base
  have hm0 : maxLen = 9223372036854775807 := rfl
  refine Ex.regSeq (ExL.pures 0 rfl ?_)
  refine ExL.op rfl (op_box rfl rfl rfl rfl rfl (fun b1 => ?_))
  refine ExL.op rfl (op_alloc rfl rfl rfl rfl rfl (fun b2 => ?_))
  refine ExL.nil ?_
  refine Ex.regSeq (ExL.pures 1 rfl ?_)
  refine ExL.free (fr_load rfl rfl rfl rfl (CellO.blk (i := 1) rfl rfl)) rfl rfl rfl ?_
  refine ExL.op rfl (op_ret rfl rfl rfl (c_Clone d.stack _ _ (by omega)) (Reads.get (Reads.old hd)) rfl rfl (fun x3 hx3 => ?_))
  refine ExL.pures 1 rfl ?_
  refine ExL.op rfl (op_storeC (i := 2) rfl rfl rfl rfl rfl rfl rfl rfl rfl rfl ?_)
  refine ExL.nil ?_
  refine Ex.regSeq (ExL.pures 0 rfl ?_)
  refine ExL.free (fr_loadN rfl rfl rfl rfl rfl (SegO.whole (i := 2) rfl)) rfl rfl rfl ?_
  refine ExL.op rfl (op_storeC (i := 1) rfl rfl rfl rfl rfl rfl rfl rfl rfl rfl ?_)
  refine ExL.nil ?_
  refine Ex.ret ?_
  refine RetQ.mk (x3.1, x3.2) rfl (.cell rfl (.many rfl rfl rfl (SegO.whole (i := 1) rfl)) .nil) (rfl) [0] (rfl) rfl (trivial)
theorem e_50 : Enters Tryz.prog 50 := Enters.of Tryz.func50 rfl
theorem c_l07Copy (d : VDev) (Ad : Option Addr) (cd : Nat) (b : Nat) (hAd : Ad = none → cd = 0) (hl : d.stack.length ≤ 1048576) : Ret Tryz.prog 50 [.pointer (some ⟨b, 0, none⟩)] (fun w => Rd w (some ⟨b, 0, none⟩) (encV Ad cd d) ∧ Rd w Ad (d.stack.flatMap (eI .u8))) (fun x : Option Addr × Nat => .agg (encV x.1 x.2 d).toArray) (fun x => [.row (.slice x.1 d.stack.length x.2) 5 1 d.stack.length (d.stack.flatMap (eI .u8))]) (fun x => True) := by
  refine Ret.of e_50 Tryz.func50 rfl Tryz.ntmps50 rfl rfl (fun w hpre => ?_)
  have hp := hpre.1.base
  have hd := hpre.2.base
  have hm0 : maxLen = 9223372036854775807 := rfl
  refine Ex.regSeq (ExL.pures 0 rfl ?_)
  refine ExL.op rfl (op_alloc rfl rfl rfl rfl rfl (fun b1 => ?_))
  refine ExL.nil ?_
  refine Ex.regSeq (ExL.pures 2 rfl ?_)
  refine ExL.free (fr_loadN rfl rfl rfl rfl rfl (SegO.at 0 12 (Reads.old hp) rfl)) rfl rfl rfl ?_
  refine ExL.op rfl (op_alloc rfl rfl rfl rfl rfl (fun b2 => ?_))
  refine ExL.op rfl (op_storeC (i := 0) rfl rfl rfl rfl rfl rfl rfl rfl rfl rfl ?_)
  refine ExL.nil ?_
  refine Ex.regSeq (ExL.pures 0 rfl ?_)
  refine ExL.op rfl (op_buildSlice (sz := 1) rfl rfl rfl rfl rfl rfl rfl rfl (by decide) rfl rfl rfl (fun r3 => ?_))
  refine ExL.pures 3 rfl ?_
  refine ExL.free (fr_load rfl rfl rfl rfl (CellO.at 0 (Reads.old hp) rfl)) rfl rfl rfl ?_
  refine ExL.op rfl (op_append0 (sz := 1) (bytes := 1) (i := 0) rfl rfl rfl rfl (Reads.old hd) (flat_len (eI_len .u8) _) (fun e => ⟨by subst e; have := fun h => hd.isSome (A := none) h; rcases Nat.eq_zero_or_pos d.stack.length with h | h; exact h; exact absurd (this (by rw [flat_len (eI_len .u8)]; omega)) (by simp), hAd e⟩) (all_flat (fun _ => rfl) _) rfl rfl rfl (by constructor <;> first | omega | (unfold maxLen; omega)) rfl rfl (fun A4 cA4 => ?_))
  refine ExL.pures 1 rfl ?_
  refine ExL.op rfl (op_storeC (i := 1) rfl rfl rfl rfl rfl rfl rfl rfl rfl rfl ?_)
  refine ExL.nil ?_
  refine Ex.regSeq (ExL.pures 0 rfl ?_)
  refine ExL.free (fr_loadN rfl rfl rfl rfl rfl (SegO.whole (i := 1) rfl)) rfl rfl rfl ?_
  refine ExL.op rfl (op_storeC (i := 2) rfl rfl rfl rfl rfl rfl rfl rfl rfl rfl ?_)
  refine ExL.nil ?_
  refine Ex.ret ?_
  refine RetQ.mk (A4, cA4) rfl (.cell rfl (.many rfl rfl rfl (SegO.whole (i := 2) rfl)) .nil) (rfl) [0] (rfl) rfl (trivial)
theorem e_13 : Enters Tryz.prog 13 := Enters.of Tryz.func13 rfl
theorem c_sNewDevice (s : List Int) (hu : Nums 255 s) (As : Option Addr) (cs : Nat) (hls : s.length ≤ 1048576) : Ret Tryz.prog 13 [.slice As s.length cs] (fun w => Rd w As (s.flatMap (eI .u8))) (fun x : Option Addr × Nat => .tuple #[.agg (encV x.1 x.2 (newDev s).1).toArray, .int .i64 (newDev s).2]) (fun x => [.row (.slice x.1 (newDev s).1.stack.length x.2) 5 1 (newDev s).1.stack.length ((newDev s).1.stack.flatMap (eI .u8))]) (fun x => True) := by
  refine Ret.of e_13 Tryz.func13 rfl Tryz.ntmps13 rfl rfl (fun w hpre => ?_)
  have hs := hpre.base
  have hm0 : maxLen = 9223372036854775807 := rfl
  refine Ex.regSeq (ExL.pures 0 rfl ?_)
  refine ExL.op rfl (op_alloc rfl rfl rfl rfl rfl (fun b1 => ?_))
  refine ExL.pures 1 rfl ?_
  refine ExL.nil ?_
  refine Ex.seq ?_
  refine Ex.regSeq (ExL.pures 1 rfl ?_)
  refine ExL.op rfl (op_ret rfl rfl rfl (c_l01Ok _ (by assumption) _ _ (by first | assumption | omega | (unfold maxLen; omega))) (Reads.get (Reads.old hs)) rfl rfl (fun x2 hx2 => ?_))
  refine ExL.pures 1 rfl ?_
  refine ExL.nil ?_
  refine Ex.cond rfl (fun hb3 => ?_) (fun hb3 => ?_)
  · replace hb3 := nb_t hb3
    refine Ex.regSeq (ExL.pures 0 rfl ?_)
    refine ExL.free (fr_build rfl rfl rfl rfl) rfl rfl rfl ?_
    refine ExL.op rfl (op_storeC (i := 0) rfl rfl rfl rfl rfl rfl rfl rfl rfl rfl ?_)
    refine ExL.pures 1 rfl ?_
    refine ExL.nil ?_
    refine Ex.nilRow 5 1 ?_
    refine Ex.ret ?_
    refine RetQ.mk (none, 0) rfl (.cell rfl (.many rfl rfl rfl (SegO.whole (i := 1) rfl)) (.tmp rfl .nil)) (t2 (by first | (rw [nwd_t (by assumption)]; first | done | rfl) | (rw [nwd_f (by assumption)]; first | done | rfl)) (by first | (rw [nwd_t (by assumption)]; first | done | rfl) | (rw [nwd_f (by assumption)]; first | done | rfl))) [0] (by first | (rw [nwd_t (by assumption)]; first | done | rfl) | (rw [nwd_f (by assumption)]; first | done | rfl)) rfl (trivial)
  · replace hb3 := nb_f hb3
    refine Ex.skip ?_
    refine Ex.regSeq (ExL.pures 0 rfl ?_)
    refine ExL.op rfl (op_buildSlice (sz := 1) rfl rfl rfl rfl rfl rfl rfl rfl (by decide) rfl rfl rfl (fun r4 => ?_))
    refine ExL.pures 1 rfl ?_
    refine ExL.op rfl (op_append0 (sz := 1) (bytes := 1) (i := 0) rfl rfl rfl rfl (Reads.old hs) (flat_len (eI_len .u8) _) (fun e => by subst e; have h1 := (stk (by assumption)).len1; have h2 := hs.isSome (A := none) (by rw [flat_len (eI_len .u8)]; omega); cases h2) (all_flat (fun _ => rfl) _) rfl rfl rfl (by constructor <;> first | omega | (unfold maxLen; omega)) rfl rfl (fun A5 cA5 => ?_))
    refine ExL.free (fr_build rfl rfl rfl rfl) rfl rfl rfl ?_
    refine ExL.op rfl (op_storeC (i := 1) rfl rfl rfl rfl rfl rfl rfl rfl rfl rfl ?_)
    refine ExL.pures 1 rfl ?_
    refine ExL.nil ?_
    refine Ex.ret ?_
    refine RetQ.mk (A5, cA5) rfl (.cell rfl (.many rfl rfl rfl (SegO.whole (i := 1) rfl)) (.tmp rfl .nil)) (t2 (by first | (rw [nwd_t (by assumption)]; first | done | rfl) | (rw [nwd_f (by assumption)]; first | done | rfl)) (by first | (rw [nwd_t (by assumption)]; first | done | rfl) | (rw [nwd_f (by assumption)]; first | done | rfl))) [0] (by first | (rw [nwd_t (by assumption)]; first | done | rfl) | (rw [nwd_f (by assumption)]; first | done | rfl)) rfl (trivial)
end Go.Proofs.YtfcmehdmbfhodaaGreat

/- What these functions of the program hand back, each proved by walking its operations. -/
set_option linter.unusedVariables false
set_option linter.unusedSimpArgs false
set_option maxRecDepth 4000
namespace Go.Proofs.YtfcmehdmbfhodaaGreat
open Go Go.Sx Go.RowKit Go.W Go.Proofs
attribute [local irreducible] Ex ExL ExD Op1 Free RetQ MutQ Reads CellO SegO LoadsAs
theorem e_14 : Enters Tryz.prog 14 := Enters.of Tryz.func14 rfl
theorem c_iDoAct (d : VDev) (hk : OkDev d) (Ad : Option Addr) (cd : Nat) (hAd : Ad = none → cd = 0) (hdl : d.stack.length ≤ 1048576) (a : VAct) (hoa : OkAct a) : Ret Tryz.prog 14 [.agg (encV Ad cd d).toArray, .agg (encA a).toArray] (fun w => Rd w Ad (d.stack.flatMap (eI .u8))) (fun x : Option Addr × Nat => .tuple #[.agg (encV x.1 x.2 (doActV d a).1).toArray, .int .i64 (doActV d a).2.1, .int .i64 (doActV d a).2.2]) (fun x => [.row (.slice x.1 (doActV d a).1.stack.length x.2) 5 1 (doActV d a).1.stack.length ((doActV d a).1.stack.flatMap (eI .u8))]) (fun x => True) := by
  refine Ret.of e_14 Tryz.func14 rfl Tryz.ntmps14 rfl rfl (fun w hpre => ?_)
  have hd := hpre.base
  have hk2 := hk
  obtain ⟨hl, hu, ha, hpp, htt⟩ := hk2
  have hm0 : maxLen = 9223372036854775807 := rfl
  refine Ex.regSeq (ExL.pures 0 rfl ?_)
  refine ExL.op rfl (op_box rfl rfl rfl rfl rfl (fun b1 => ?_))
  refine ExL.op rfl (op_box rfl rfl rfl rfl rfl (fun b2 => ?_))
  refine ExL.op rfl (op_alloc rfl rfl rfl rfl rfl (fun b3 => ?_))
  refine ExL.pures 2 rfl ?_
  refine ExL.nil ?_
  refine Ex.seq ?_
  refine Ex.regSeq (ExL.pures 0 rfl ?_)
  refine ExL.free (fr_loadN rfl rfl rfl rfl rfl (SegO.whole (i := 2) rfl)) rfl rfl rfl ?_
  refine ExL.op rfl (op_ret rfl rfl rfl (c_iValidDevice d (by assumption) _ _) (Reads.get (Reads.old hd)) rfl rfl (fun x4 hx4 => ?_))
  refine ExL.pures 2 rfl ?_
  refine ExL.bool (d := 13) rfl (fun hb5 => ?_) (fun hb5 => ?_)
  · replace hb5 := nb_t hb5
    refine ExL.pures 4 rfl ?_
    refine ExL.nil ?_
    refine Ex.cond_t rfl ?_
    refine Ex.regSeq (ExL.pures 0 rfl ?_)
    refine ExL.free (fr_build rfl rfl rfl rfl) rfl rfl rfl ?_
    refine ExL.op rfl (op_storeC (i := 0) rfl rfl rfl rfl rfl rfl rfl rfl rfl rfl ?_)
    refine ExL.pures 2 rfl ?_
    refine ExL.nil ?_
    refine Ex.nilRow 5 1 ?_
    refine Ex.ret ?_
    refine RetQ.mk (none, 0) rfl (.cell rfl (.many rfl rfl rfl (SegO.whole (i := 1) rfl)) (.tmp rfl (.tmp rfl .nil))) (t3 (by first | (rw [da_no ⟨by assumption, by assumption⟩ (by assumption)]; first | done | rfl) | (rw [da_ok ⟨by assumption, by assumption⟩ (by first | assumption | exact not_not_intro (by assumption))]; first | done | rfl) | (rw [da_ok ⟨by assumption, by assumption⟩ (by first | assumption | exact not_not_intro (by assumption)), (by first | assumption | omega : (doV d a).2.2 = 0)]; first | done | rfl) | (rw [da_bad (by simp_all)]; first | done | rfl)) (by first | (rw [da_no ⟨by assumption, by assumption⟩ (by assumption)]; first | done | rfl) | (rw [da_ok ⟨by assumption, by assumption⟩ (by first | assumption | exact not_not_intro (by assumption))]; first | done | rfl) | (rw [da_ok ⟨by assumption, by assumption⟩ (by first | assumption | exact not_not_intro (by assumption)), (by first | assumption | omega : (doV d a).2.2 = 0)]; first | done | rfl) | (rw [da_bad (by simp_all)]; first | done | rfl)) (by first | (rw [da_no ⟨by assumption, by assumption⟩ (by assumption)]; first | done | rfl) | (rw [da_ok ⟨by assumption, by assumption⟩ (by first | assumption | exact not_not_intro (by assumption))]; first | done | rfl) | (rw [da_ok ⟨by assumption, by assumption⟩ (by first | assumption | exact not_not_intro (by assumption)), (by first | assumption | omega : (doV d a).2.2 = 0)]; first | done | rfl) | (rw [da_bad (by simp_all)]; first | done | rfl))) [0] (by first | (rw [da_no ⟨by assumption, by assumption⟩ (by assumption)]; first | done | rfl) | (rw [da_ok ⟨by assumption, by assumption⟩ (by first | assumption | exact not_not_intro (by assumption))]; first | done | rfl) | (rw [da_ok ⟨by assumption, by assumption⟩ (by first | assumption | exact not_not_intro (by assumption)), (by first | assumption | omega : (doV d a).2.2 = 0)]; first | done | rfl) | (rw [da_bad (by simp_all)]; first | done | rfl)) rfl (trivial)
  · replace hb5 := nb_f hb5
    refine ExL.free (fr_loadN rfl rfl rfl rfl rfl (SegO.whole (i := 1) rfl)) rfl rfl rfl ?_
    refine ExL.op rfl (op_ret rfl rfl rfl (c_ValidAct _) (fun _ _ => trivial) rfl rfl (fun x6 hx6 => ?_))
    refine ExL.pures 2 rfl ?_
    refine ExL.nil ?_
    refine Ex.cond rfl (fun hb7 => ?_) (fun hb7 => ?_)
    · replace hb7 := nb_t hb7
      refine Ex.regSeq (ExL.pures 0 rfl ?_)
      refine ExL.free (fr_build rfl rfl rfl rfl) rfl rfl rfl ?_
      refine ExL.op rfl (op_storeC (i := 0) rfl rfl rfl rfl rfl rfl rfl rfl rfl rfl ?_)
      refine ExL.pures 2 rfl ?_
      refine ExL.nil ?_
      refine Ex.nilRow 5 1 ?_
      refine Ex.ret ?_
      refine RetQ.mk (none, 0) rfl (.cell rfl (.many rfl rfl rfl (SegO.whole (i := 1) rfl)) (.tmp rfl (.tmp rfl .nil))) (t3 (by first | (rw [da_no ⟨by assumption, by assumption⟩ (by assumption)]; first | done | rfl) | (rw [da_ok ⟨by assumption, by assumption⟩ (by first | assumption | exact not_not_intro (by assumption))]; first | done | rfl) | (rw [da_ok ⟨by assumption, by assumption⟩ (by first | assumption | exact not_not_intro (by assumption)), (by first | assumption | omega : (doV d a).2.2 = 0)]; first | done | rfl) | (rw [da_bad (by simp_all)]; first | done | rfl)) (by first | (rw [da_no ⟨by assumption, by assumption⟩ (by assumption)]; first | done | rfl) | (rw [da_ok ⟨by assumption, by assumption⟩ (by first | assumption | exact not_not_intro (by assumption))]; first | done | rfl) | (rw [da_ok ⟨by assumption, by assumption⟩ (by first | assumption | exact not_not_intro (by assumption)), (by first | assumption | omega : (doV d a).2.2 = 0)]; first | done | rfl) | (rw [da_bad (by simp_all)]; first | done | rfl)) (by first | (rw [da_no ⟨by assumption, by assumption⟩ (by assumption)]; first | done | rfl) | (rw [da_ok ⟨by assumption, by assumption⟩ (by first | assumption | exact not_not_intro (by assumption))]; first | done | rfl) | (rw [da_ok ⟨by assumption, by assumption⟩ (by first | assumption | exact not_not_intro (by assumption)), (by first | assumption | omega : (doV d a).2.2 = 0)]; first | done | rfl) | (rw [da_bad (by simp_all)]; first | done | rfl))) [0] (by first | (rw [da_no ⟨by assumption, by assumption⟩ (by assumption)]; first | done | rfl) | (rw [da_ok ⟨by assumption, by assumption⟩ (by first | assumption | exact not_not_intro (by assumption))]; first | done | rfl) | (rw [da_ok ⟨by assumption, by assumption⟩ (by first | assumption | exact not_not_intro (by assumption)), (by first | assumption | omega : (doV d a).2.2 = 0)]; first | done | rfl) | (rw [da_bad (by simp_all)]; first | done | rfl)) rfl (trivial)
    · replace hb7 := nb_f hb7
      refine Ex.skip ?_
      refine Ex.regSeq (ExL.pures 0 rfl ?_)
      refine ExL.free (fr_loadN rfl rfl rfl rfl rfl (SegO.whole (i := 2) rfl)) rfl rfl rfl ?_
      refine ExL.op rfl (op_ret rfl rfl rfl (c_cloneDevice d _ _ (by omega)) (Reads.get (Reads.old hd)) rfl rfl (fun x8 hx8 => ?_))
      refine ExL.op rfl (op_alloc rfl rfl rfl rfl rfl (fun b9 => ?_))
      refine ExL.op rfl (op_storeC (i := 0) rfl rfl rfl rfl rfl rfl rfl rfl rfl rfl ?_)
      refine ExL.nil ?_
      refine Ex.regSeq (ExL.pures 0 rfl ?_)
      refine ExL.free (fr_loadN rfl rfl rfl rfl rfl (SegO.whole (i := 3) rfl)) rfl rfl rfl ?_
      refine ExL.op rfl (op_mut rfl rfl rfl (c_do d (by assumption) (by assumption) _ _ _ a (by first | assumption | simp_all)) (perm_lt (i := 0) (j := 1) rfl rfl rfl) (trivial) rfl rfl (fun x10 hx10 => ?_))
      refine ExL.pures 5 rfl ?_
      refine ExL.nil ?_
      refine Ex.seq ?_
      refine Ex.regSeq (ExL.pures 1 rfl ?_)
      refine ExL.neq rfl rfl rfl rfl rfl rfl (fun h11 => ?_) (fun h11 => ?_)
      · refine ExL.nil ?_
        refine Ex.cond_t rfl ?_
        refine Ex.regSeq (ExL.pures 0 rfl ?_)
        refine ExL.free (fr_build rfl rfl rfl rfl) rfl rfl rfl ?_
        refine ExL.pures 1 rfl ?_
        refine ExL.op rfl (op_storeC (i := 2) rfl rfl rfl rfl rfl rfl rfl rfl rfl rfl ?_)
        refine ExL.pures 2 rfl ?_
        refine ExL.nil ?_
        refine Ex.nilRow 5 1 ?_
        refine Ex.ret ?_
        refine RetQ.mk (none, 0) rfl (.cell rfl (.many rfl rfl rfl (SegO.whole (i := 3) rfl)) (.tmp rfl (.tmp rfl .nil))) (t3 (by first | (rw [da_no ⟨by assumption, by assumption⟩ (by assumption)]; first | done | rfl) | (rw [da_ok ⟨by assumption, by assumption⟩ (by first | assumption | exact not_not_intro (by assumption))]; first | done | rfl) | (rw [da_ok ⟨by assumption, by assumption⟩ (by first | assumption | exact not_not_intro (by assumption)), (by first | assumption | omega : (doV d a).2.2 = 0)]; first | done | rfl) | (rw [da_bad (by simp_all)]; first | done | rfl)) (by first | (rw [da_no ⟨by assumption, by assumption⟩ (by assumption)]; first | done | rfl) | (rw [da_ok ⟨by assumption, by assumption⟩ (by first | assumption | exact not_not_intro (by assumption))]; first | done | rfl) | (rw [da_ok ⟨by assumption, by assumption⟩ (by first | assumption | exact not_not_intro (by assumption)), (by first | assumption | omega : (doV d a).2.2 = 0)]; first | done | rfl) | (rw [da_bad (by simp_all)]; first | done | rfl)) (by first | (rw [da_no ⟨by assumption, by assumption⟩ (by assumption)]; first | done | rfl) | (rw [da_ok ⟨by assumption, by assumption⟩ (by first | assumption | exact not_not_intro (by assumption))]; first | done | rfl) | (rw [da_ok ⟨by assumption, by assumption⟩ (by first | assumption | exact not_not_intro (by assumption)), (by first | assumption | omega : (doV d a).2.2 = 0)]; first | done | rfl) | (rw [da_bad (by simp_all)]; first | done | rfl))) [0] (by first | (rw [da_no ⟨by assumption, by assumption⟩ (by assumption)]; first | done | rfl) | (rw [da_ok ⟨by assumption, by assumption⟩ (by first | assumption | exact not_not_intro (by assumption))]; first | done | rfl) | (rw [da_ok ⟨by assumption, by assumption⟩ (by first | assumption | exact not_not_intro (by assumption)), (by first | assumption | omega : (doV d a).2.2 = 0)]; first | done | rfl) | (rw [da_bad (by simp_all)]; first | done | rfl)) rfl (trivial)
      · refine ExL.nil ?_
        refine Ex.cond_f rfl ?_
        refine Ex.skip ?_
        refine Ex.regSeq (ExL.pures 0 rfl ?_)
        refine ExL.free (fr_loadN rfl rfl rfl rfl rfl (SegO.whole (i := 0) rfl)) rfl rfl rfl ?_
        refine ExL.pures 1 rfl ?_
        refine ExL.op rfl (op_storeC (i := 2) rfl rfl rfl rfl rfl rfl rfl rfl rfl rfl ?_)
        refine ExL.pures 2 rfl ?_
        refine ExL.nil ?_
        refine Ex.ret ?_
        refine RetQ.mk (x8.1, x8.2) rfl (.cell rfl (.many rfl rfl rfl (SegO.whole (i := 2) rfl)) (.tmp rfl (.tmp rfl .nil))) (t3 (by first | (rw [da_no ⟨by assumption, by assumption⟩ (by assumption)]; first | done | rfl) | (rw [da_ok ⟨by assumption, by assumption⟩ (by first | assumption | exact not_not_intro (by assumption))]; first | done | rfl) | (rw [da_ok ⟨by assumption, by assumption⟩ (by first | assumption | exact not_not_intro (by assumption)), do_stack]; first | done | rfl) | (rw [da_bad (by simp_all)]; first | done | rfl)) (by first | (rw [da_no ⟨by assumption, by assumption⟩ (by assumption)]; first | done | rfl) | (rw [da_ok ⟨by assumption, by assumption⟩ (by first | assumption | exact not_not_intro (by assumption))]; first | done | rfl) | (rw [da_ok ⟨by assumption, by assumption⟩ (by first | assumption | exact not_not_intro (by assumption)), (by first | assumption | omega : (doV d a).2.2 = 0)]; first | done | rfl) | (rw [da_bad (by simp_all)]; first | done | rfl)) (by first | (rw [da_no ⟨by assumption, by assumption⟩ (by assumption)]; first | done | rfl) | (rw [da_ok ⟨by assumption, by assumption⟩ (by first | assumption | exact not_not_intro (by assumption))]; first | done | rfl) | (rw [da_ok ⟨by assumption, by assumption⟩ (by first | assumption | exact not_not_intro (by assumption)), (by first | assumption | omega : (doV d a).2.2 = 0)]; first | done | rfl) | (rw [da_bad (by simp_all)]; first | done | rfl))) [1] (by first | (rw [da_no ⟨by assumption, by assumption⟩ (by assumption)]; first | done | rfl) | (rw [da_ok ⟨by assumption, by assumption⟩ (by first | assumption | exact not_not_intro (by assumption))]; first | done | rfl) | (rw [da_ok ⟨by assumption, by assumption⟩ (by first | assumption | exact not_not_intro (by assumption)), do_stack]; first | done | rfl) | (rw [da_bad (by simp_all)]; first | done | rfl)) rfl (trivial)
theorem e_15 : Enters Tryz.prog 15 := Enters.of Tryz.func15 rfl
theorem c_sDoAct (d : VDev) (hk : OkDev d) (Ad : Option Addr) (cd : Nat) (hAd : Ad = none → cd = 0) (hdl : d.stack.length ≤ 1048576) (a : VAct) (hoa : OkAct a) : Ret Tryz.prog 15 [.agg (encV Ad cd d).toArray, .agg (encA a).toArray] (fun w => Rd w Ad (d.stack.flatMap (eI .u8))) (fun x : Option Addr × Nat => .tuple #[.agg (encV x.1 x.2 (doActV d a).1).toArray, .int .i64 (doActV d a).2.1, .int .i64 (doActV d a).2.2]) (fun x => [.row (.slice x.1 (doActV d a).1.stack.length x.2) 5 1 (doActV d a).1.stack.length ((doActV d a).1.stack.flatMap (eI .u8))]) (fun x => True) := by
  refine Ret.of e_15 Tryz.func15 rfl Tryz.ntmps15 rfl rfl (fun w hpre => ?_)
  have hd := hpre.base
  have hk2 := hk
  obtain ⟨hl, hu, ha, hpp, htt⟩ := hk2
  have hm0 : maxLen = 9223372036854775807 := rfl
  refine Ex.regSeq (ExL.pures 0 rfl ?_)
  refine ExL.op rfl (op_box rfl rfl rfl rfl rfl (fun b1 => ?_))
  refine ExL.op rfl (op_box rfl rfl rfl rfl rfl (fun b2 => ?_))
  refine ExL.op rfl (op_alloc rfl rfl rfl rfl rfl (fun b3 => ?_))
  refine ExL.pures 2 rfl ?_
  refine ExL.nil ?_
  refine Ex.seq ?_
  refine Ex.regSeq (ExL.pures 0 rfl ?_)
  refine ExL.op rfl (op_ret rfl rfl rfl (c_l07Ok d (by assumption) _ _ _) (fun w hw => ⟨Reads.get (Reads.blk (i := 2) rfl) w hw, Reads.get (Reads.old hd) w hw⟩) rfl rfl (fun x4 hx4 => ?_))
  refine ExL.pures 2 rfl ?_
  refine ExL.bool (d := 12) rfl (fun hb5 => ?_) (fun hb5 => ?_)
  · replace hb5 := nb_t hb5
    refine ExL.pures 4 rfl ?_
    refine ExL.nil ?_
    refine Ex.cond_t rfl ?_
    refine Ex.regSeq (ExL.pures 0 rfl ?_)
    refine ExL.free (fr_build rfl rfl rfl rfl) rfl rfl rfl ?_
    refine ExL.op rfl (op_storeC (i := 0) rfl rfl rfl rfl rfl rfl rfl rfl rfl rfl ?_)
    refine ExL.pures 2 rfl ?_
    refine ExL.nil ?_
    refine Ex.nilRow 5 1 ?_
    refine Ex.ret ?_
    refine RetQ.mk (none, 0) rfl (.cell rfl (.many rfl rfl rfl (SegO.whole (i := 1) rfl)) (.tmp rfl (.tmp rfl .nil))) (t3 (by first | (rw [da_no ⟨by assumption, by assumption⟩ (by assumption)]; first | done | rfl) | (rw [da_ok ⟨by assumption, by assumption⟩ (by first | assumption | exact not_not_intro (by assumption))]; first | done | rfl) | (rw [da_ok ⟨by assumption, by assumption⟩ (by first | assumption | exact not_not_intro (by assumption)), (by first | assumption | omega : (doV d a).2.2 = 0)]; first | done | rfl) | (rw [da_bad (by simp_all)]; first | done | rfl)) (by first | (rw [da_no ⟨by assumption, by assumption⟩ (by assumption)]; first | done | rfl) | (rw [da_ok ⟨by assumption, by assumption⟩ (by first | assumption | exact not_not_intro (by assumption))]; first | done | rfl) | (rw [da_ok ⟨by assumption, by assumption⟩ (by first | assumption | exact not_not_intro (by assumption)), (by first | assumption | omega : (doV d a).2.2 = 0)]; first | done | rfl) | (rw [da_bad (by simp_all)]; first | done | rfl)) (by first | (rw [da_no ⟨by assumption, by assumption⟩ (by assumption)]; first | done | rfl) | (rw [da_ok ⟨by assumption, by assumption⟩ (by first | assumption | exact not_not_intro (by assumption))]; first | done | rfl) | (rw [da_ok ⟨by assumption, by assumption⟩ (by first | assumption | exact not_not_intro (by assumption)), (by first | assumption | omega : (doV d a).2.2 = 0)]; first | done | rfl) | (rw [da_bad (by simp_all)]; first | done | rfl))) [0] (by first | (rw [da_no ⟨by assumption, by assumption⟩ (by assumption)]; first | done | rfl) | (rw [da_ok ⟨by assumption, by assumption⟩ (by first | assumption | exact not_not_intro (by assumption))]; first | done | rfl) | (rw [da_ok ⟨by assumption, by assumption⟩ (by first | assumption | exact not_not_intro (by assumption)), (by first | assumption | omega : (doV d a).2.2 = 0)]; first | done | rfl) | (rw [da_bad (by simp_all)]; first | done | rfl)) rfl (trivial)
  · replace hb5 := nb_f hb5
    refine ExL.free (fr_loadN rfl rfl rfl rfl rfl (SegO.whole (i := 1) rfl)) rfl rfl rfl ?_
    refine ExL.op rfl (op_ret rfl rfl rfl (c_l07Act _) (fun _ _ => trivial) rfl rfl (fun x6 hx6 => ?_))
    refine ExL.pures 2 rfl ?_
    refine ExL.nil ?_
    refine Ex.cond rfl (fun hb7 => ?_) (fun hb7 => ?_)
    · replace hb7 := nb_t hb7
      refine Ex.regSeq (ExL.pures 0 rfl ?_)
      refine ExL.free (fr_build rfl rfl rfl rfl) rfl rfl rfl ?_
      refine ExL.op rfl (op_storeC (i := 0) rfl rfl rfl rfl rfl rfl rfl rfl rfl rfl ?_)
      refine ExL.pures 2 rfl ?_
      refine ExL.nil ?_
      refine Ex.nilRow 5 1 ?_
      refine Ex.ret ?_
      refine RetQ.mk (none, 0) rfl (.cell rfl (.many rfl rfl rfl (SegO.whole (i := 1) rfl)) (.tmp rfl (.tmp rfl .nil))) (t3 (by first | (rw [da_no ⟨by assumption, by assumption⟩ (by assumption)]; first | done | rfl) | (rw [da_ok ⟨by assumption, by assumption⟩ (by first | assumption | exact not_not_intro (by assumption))]; first | done | rfl) | (rw [da_ok ⟨by assumption, by assumption⟩ (by first | assumption | exact not_not_intro (by assumption)), (by first | assumption | omega : (doV d a).2.2 = 0)]; first | done | rfl) | (rw [da_bad (by simp_all)]; first | done | rfl)) (by first | (rw [da_no ⟨by assumption, by assumption⟩ (by assumption)]; first | done | rfl) | (rw [da_ok ⟨by assumption, by assumption⟩ (by first | assumption | exact not_not_intro (by assumption))]; first | done | rfl) | (rw [da_ok ⟨by assumption, by assumption⟩ (by first | assumption | exact not_not_intro (by assumption)), (by first | assumption | omega : (doV d a).2.2 = 0)]; first | done | rfl) | (rw [da_bad (by simp_all)]; first | done | rfl)) (by first | (rw [da_no ⟨by assumption, by assumption⟩ (by assumption)]; first | done | rfl) | (rw [da_ok ⟨by assumption, by assumption⟩ (by first | assumption | exact not_not_intro (by assumption))]; first | done | rfl) | (rw [da_ok ⟨by assumption, by assumption⟩ (by first | assumption | exact not_not_intro (by assumption)), (by first | assumption | omega : (doV d a).2.2 = 0)]; first | done | rfl) | (rw [da_bad (by simp_all)]; first | done | rfl))) [0] (by first | (rw [da_no ⟨by assumption, by assumption⟩ (by assumption)]; first | done | rfl) | (rw [da_ok ⟨by assumption, by assumption⟩ (by first | assumption | exact not_not_intro (by assumption))]; first | done | rfl) | (rw [da_ok ⟨by assumption, by assumption⟩ (by first | assumption | exact not_not_intro (by assumption)), (by first | assumption | omega : (doV d a).2.2 = 0)]; first | done | rfl) | (rw [da_bad (by simp_all)]; first | done | rfl)) rfl (trivial)
    · replace hb7 := nb_f hb7
      refine Ex.skip ?_
      refine Ex.regSeq (ExL.pures 0 rfl ?_)
      refine ExL.op rfl (op_ret rfl rfl rfl (c_l07Copy d _ _ _ (by first | assumption | exact (fun e => nomatch e) | (intro e; simp_all)) (by omega)) (fun w hw => ⟨Reads.get (Reads.blk (i := 2) rfl) w hw, Reads.get (Reads.old hd) w hw⟩) rfl rfl (fun x8 hx8 => ?_))
      refine ExL.op rfl (op_alloc rfl rfl rfl rfl rfl (fun b9 => ?_))
      refine ExL.op rfl (op_storeC (i := 0) rfl rfl rfl rfl rfl rfl rfl rfl rfl rfl ?_)
      refine ExL.nil ?_
      refine Ex.regSeq (ExL.pures 0 rfl ?_)
      refine ExL.free (fr_loadN rfl rfl rfl rfl rfl (SegO.whole (i := 3) rfl)) rfl rfl rfl ?_
      refine ExL.op rfl (op_mut rfl rfl rfl (c_l07Do d (by assumption) (by assumption) _ _ _ a (by first | assumption | simp_all)) (perm_lt (i := 0) (j := 1) rfl rfl rfl) (trivial) rfl rfl (fun x10 hx10 => ?_))
      refine ExL.pures 5 rfl ?_
      refine ExL.nil ?_
      refine Ex.seq ?_
      refine Ex.regSeq (ExL.pures 1 rfl ?_)
      refine ExL.neq rfl rfl rfl rfl rfl rfl (fun h11 => ?_) (fun h11 => ?_)
      · refine ExL.nil ?_
        refine Ex.cond_t rfl ?_
        refine Ex.regSeq (ExL.pures 0 rfl ?_)
        refine ExL.free (fr_build rfl rfl rfl rfl) rfl rfl rfl ?_
        refine ExL.pures 1 rfl ?_
        refine ExL.op rfl (op_storeC (i := 2) rfl rfl rfl rfl rfl rfl rfl rfl rfl rfl ?_)
        refine ExL.pures 2 rfl ?_
        refine ExL.nil ?_
        refine Ex.nilRow 5 1 ?_
        refine Ex.ret ?_
        refine RetQ.mk (none, 0) rfl (.cell rfl (.many rfl rfl rfl (SegO.whole (i := 3) rfl)) (.tmp rfl (.tmp rfl .nil))) (t3 (by first | (rw [da_no ⟨by assumption, by assumption⟩ (by assumption)]; first | done | rfl) | (rw [da_ok ⟨by assumption, by assumption⟩ (by first | assumption | exact not_not_intro (by assumption))]; first | done | rfl) | (rw [da_ok ⟨by assumption, by assumption⟩ (by first | assumption | exact not_not_intro (by assumption)), (by first | assumption | omega : (doV d a).2.2 = 0)]; first | done | rfl) | (rw [da_bad (by simp_all)]; first | done | rfl)) (by first | (rw [da_no ⟨by assumption, by assumption⟩ (by assumption)]; first | done | rfl) | (rw [da_ok ⟨by assumption, by assumption⟩ (by first | assumption | exact not_not_intro (by assumption))]; first | done | rfl) | (rw [da_ok ⟨by assumption, by assumption⟩ (by first | assumption | exact not_not_intro (by assumption)), (by first | assumption | omega : (doV d a).2.2 = 0)]; first | done | rfl) | (rw [da_bad (by simp_all)]; first | done | rfl)) (by first | (rw [da_no ⟨by assumption, by assumption⟩ (by assumption)]; first | done | rfl) | (rw [da_ok ⟨by assumption, by assumption⟩ (by first | assumption | exact not_not_intro (by assumption))]; first | done | rfl) | (rw [da_ok ⟨by assumption, by assumption⟩ (by first | assumption | exact not_not_intro (by assumption)), (by first | assumption | omega : (doV d a).2.2 = 0)]; first | done | rfl) | (rw [da_bad (by simp_all)]; first | done | rfl))) [0] (by first | (rw [da_no ⟨by assumption, by assumption⟩ (by assumption)]; first | done | rfl) | (rw [da_ok ⟨by assumption, by assumption⟩ (by first | assumption | exact not_not_intro (by assumption))]; first | done | rfl) | (rw [da_ok ⟨by assumption, by assumption⟩ (by first | assumption | exact not_not_intro (by assumption)), (by first | assumption | omega : (doV d a).2.2 = 0)]; first | done | rfl) | (rw [da_bad (by simp_all)]; first | done | rfl)) rfl (trivial)
      · refine ExL.nil ?_
        refine Ex.cond_f rfl ?_
        refine Ex.skip ?_
        refine Ex.regSeq (ExL.pures 0 rfl ?_)
        refine ExL.free (fr_loadN rfl rfl rfl rfl rfl (SegO.whole (i := 0) rfl)) rfl rfl rfl ?_
        refine ExL.pures 1 rfl ?_
        refine ExL.op rfl (op_storeC (i := 2) rfl rfl rfl rfl rfl rfl rfl rfl rfl rfl ?_)
        refine ExL.pures 2 rfl ?_
        refine ExL.nil ?_
        refine Ex.ret ?_
        refine RetQ.mk (x8.1, x8.2) rfl (.cell rfl (.many rfl rfl rfl (SegO.whole (i := 2) rfl)) (.tmp rfl (.tmp rfl .nil))) (t3 (by first | (rw [da_no ⟨by assumption, by assumption⟩ (by assumption)]; first | done | rfl) | (rw [da_ok ⟨by assumption, by assumption⟩ (by first | assumption | exact not_not_intro (by assumption))]; first | done | rfl) | (rw [da_ok ⟨by assumption, by assumption⟩ (by first | assumption | exact not_not_intro (by assumption)), do_stack]; first | done | rfl) | (rw [da_bad (by simp_all)]; first | done | rfl)) (by first | (rw [da_no ⟨by assumption, by assumption⟩ (by assumption)]; first | done | rfl) | (rw [da_ok ⟨by assumption, by assumption⟩ (by first | assumption | exact not_not_intro (by assumption))]; first | done | rfl) | (rw [da_ok ⟨by assumption, by assumption⟩ (by first | assumption | exact not_not_intro (by assumption)), (by first | assumption | omega : (doV d a).2.2 = 0)]; first | done | rfl) | (rw [da_bad (by simp_all)]; first | done | rfl)) (by first | (rw [da_no ⟨by assumption, by assumption⟩ (by assumption)]; first | done | rfl) | (rw [da_ok ⟨by assumption, by assumption⟩ (by first | assumption | exact not_not_intro (by assumption))]; first | done | rfl) | (rw [da_ok ⟨by assumption, by assumption⟩ (by first | assumption | exact not_not_intro (by assumption)), (by first | assumption | omega : (doV d a).2.2 = 0)]; first | done | rfl) | (rw [da_bad (by simp_all)]; first | done | rfl))) [1] (by first | (rw [da_no ⟨by assumption, by assumption⟩ (by assumption)]; first | done | rfl) | (rw [da_ok ⟨by assumption, by assumption⟩ (by first | assumption | exact not_not_intro (by assumption))]; first | done | rfl) | (rw [da_ok ⟨by assumption, by assumption⟩ (by first | assumption | exact not_not_intro (by assumption)), do_stack]; first | done | rfl) | (rw [da_bad (by simp_all)]; first | done | rfl)) rfl (trivial)
end Go.Proofs.YtfcmehdmbfhodaaGreat

/- What these functions of the program hand back, each proved by walking its operations. -/
set_option linter.unusedVariables false
set_option linter.unusedSimpArgs false
set_option maxRecDepth 4000
namespace Go.Proofs.YtfcmehdmbfhodaaGreat
open Go Go.Sx Go.RowKit Go.W Go.Proofs
attribute [local irreducible] Ex ExL ExD Op1 Free RetQ MutQ Reads CellO SegO LoadsAs
theorem e_107 : Enters Tryz.prog 107 := Enters.of Tryz.func107 rfl
theorem c_l05Of (s : List Int) (hv : validStack s = true) (As : Option Addr) (cs : Nat) (a : Dig) (ha : Nums 255 a.l) (hd0 : validDig s a.l = true) : Ret Tryz.prog 107 [.slice As s.length cs, .agg (encD a).toArray] (fun w => Rd w As (s.flatMap (eI .u8))) (fun x : Unit => .agg (encPh (phot (putW s a.l zPh.l s.length))).toArray) (fun x => []) (fun x => True) := by
  refine Ret.of e_107 Tryz.func107 rfl Tryz.ntmps107 rfl rfl (fun w hpre => ?_)
  have hs := hpre.base
  have hS := stk hv
  have h8 := hS.len8
  have hDg := digOk h8 ha hd0
  have hm0 : maxLen = 9223372036854775807 := rfl
  refine Ex.regSeq (ExL.pures 0 rfl ?_)
  refine ExL.op rfl (op_box rfl rfl rfl rfl rfl (fun b1 => ?_))
  refine ExL.op rfl (op_alloc rfl rfl rfl rfl rfl (fun b2 => ?_))
  refine ExL.nil ?_
  refine Ex.regSeq (ExL.pures 0 rfl ?_)
  refine ExL.free (fr_build rfl rfl rfl rfl) rfl rfl rfl ?_
  refine ExL.op rfl (op_alloc rfl rfl rfl rfl rfl (fun b3 => ?_))
  refine ExL.op rfl (op_storeC (i := 0) rfl rfl rfl rfl rfl rfl rfl rfl rfl rfl ?_)
  refine ExL.nil ?_
  refine Ex.seq ?_
  refine Ex.regSeq (ExL.pures 1 rfl ?_)
  refine ExL.nil ?_
  refine Ex.block ?_
  refine Ex.loopK (X := Nat) (fun k => [(6, .int .i64 k)]) (fun k => [.blk b3 ((putW s a.l zPh.l k).flatMap encMk) 75]) (fun k => k ≤ s.length) (fun k => s.length - k) 0 [(0, _), (3, _), (4, _), (5, _)] [_, _] 3 [0, 1, 2] ⟨rfl, trivial⟩ ⟨rfl, rfl, rfl, rfl, trivial⟩ (rfl) rfl (Nat.zero_le _) (fun k hI => ?_)
  have hI : k ≤ s.length := hI
  refine Ex.seq ?_
  refine Ex.regSeq (ExL.pures 3 rfl ?_)
  refine ExL.lss rfl rfl rfl rfl rfl rfl (fun h4 => ?_) (fun h4 => ?_)
  · refine ExL.nil ?_
    refine Ex.cond_t rfl ?_
    refine Ex.skip ?_
    refine Ex.seq ?_
    refine Ex.block ?_
    have hks : k < s.length := by omega
    have hdw := hDg k hks
    have hbw := hS.bases k hks
    have hpo := putW_ok (s := s) (d := a.l) (l := zPh.l) okMs_z (fun w hw => by have := hDg w hw; have := hS.bases w hw; omega) k hI
    have hpl : (putW s a.l zPh.l k).length = 8 := by rw [putW_len]; rfl
    refine Ex.drawM rfl ?_
    refine ExD.take (i := 0) rfl (by kernel_rfl) (pureVal_ok rfl) ((List.Sublist.refl _)) rfl rfl rfl ?_
    refine ExD.take (i := 1) rfl (by kernel_rfl) (pureVal_ok rfl) ((List.Sublist.refl _)) rfl rfl rfl ?_
    refine ExD.take (i := 2) rfl (by kernel_rfl) (fr_indexAddr_b (sz := 2) rfl rfl rfl rfl rfl (by omega)) ((List.Sublist.refl _)) rfl rfl rfl ?_
    refine ExD.take (i := 3) rfl (by kernel_rfl) (fr_loadN rfl rfl rfl rfl rfl (segB (i := 0) rfl encMk_len zMk (by rw [hpl]; omega))) ((List.Sublist.refl _)) rfl rfl rfl ?_
    refine ExD.take (i := 4) rfl (by kernel_rfl) (pureVal_ok rfl) ((List.Sublist.refl _)) rfl rfl rfl ?_
    refine ExD.take (i := 5) rfl (by kernel_rfl) (fr_indexAddr_b (sz := 1) rfl rfl rfl rfl rfl (by omega)) ((List.Sublist.refl _)) rfl rfl rfl ?_
    refine ExD.take (i := 6) rfl (by kernel_rfl) (fr_load rfl rfl rfl rfl (CellO.blk (i := 2) rfl (blkG (eI_len .u8) 0 rfl (by rw [dig_len]; omega) rfl))) ((List.Sublist.refl _)) rfl rfl rfl ?_
    refine ExD.take (i := 7) rfl (by kernel_rfl) (by first | exact fr_conv64 rfl rfl rfl rfl (by omega) | exact fr_conv rfl rfl rfl rfl) ((List.Sublist.refl _)) rfl rfl rfl ?_
    refine ExD.op (i := 8) rfl (by kernel_rfl) rfl (op_ret rfl rfl rfl (c_l05Put ((putW s a.l zPh.l k).getD k zMk) (hpo k) (a.l.getD k 0) (by omega)) (fun _ _ => trivial) rfl rfl (fun x5 hx5 => ⟨(List.Sublist.refl _), ?_⟩))
    refine ExD.take (i := 9) rfl (by kernel_rfl) (fr_indexAddr_b (sz := 2) rfl rfl rfl rfl rfl (by omega)) ((List.Sublist.refl _)) rfl rfl rfl ?_
    refine ExD.last (i := 10) rfl (by kernel_rfl) (by kernel_rfl) rfl (op_store (i := 0) rfl rfl rfl rfl rfl rfl rfl rfl (room encMk_len (k := k) (by rw [hpl]; omega) (by simp) rfl) rfl ?_)
    refine ExD.done (by kernel_rfl) ?_
    refine Ex.region (ExL.pures 1 rfl ?_)
    refine ExL.free (by first | exact fr_add64 rfl rfl rfl (by omega) | exact fr_add rfl rfl rfl) rfl rfl rfl ?_
    refine ExL.pures 1 rfl ?_
    refine ExL.nil ?_
    refine Hand.mk (k + 1) 3 [0, 1, 2] ⟨rfl, trivial⟩ ⟨rfl, rfl, rfl, rfl, trivial⟩ (pkB (putW_put (w := k) rfl (by omega) (by simp) rfl)) rfl (by omega) (by omega)
  · refine ExL.nil ?_
    refine Ex.cond_f rfl ?_
    refine Ex.exit ?_
    obtain rfl : k = s.length := (by omega)
    rw [← encPh_ph (l := (putW s a.l zPh.l s.length)) (by rw [putW_len]; rfl)]
    refine Ex.regSeq (ExL.pures 0 rfl ?_)
    refine ExL.free (fr_loadN rfl rfl rfl rfl rfl (SegO.whole (i := 0) rfl)) rfl rfl rfl ?_
    refine ExL.op rfl (op_storeC (i := 1) rfl rfl rfl rfl rfl rfl rfl rfl rfl rfl ?_)
    refine ExL.nil ?_
    refine Ex.ret ?_
    refine RetQ.mk () rfl (.cell rfl (.many rfl rfl rfl (SegO.whole (i := 1) rfl)) .nil) (rfl) [] (rfl) rfl (trivial)
theorem e_65 : Enters Tryz.prog 65 := Enters.of Tryz.func65 rfl
theorem c_l05Blurred (code : List Int) (Ac : Option Addr) (cc : Nat) (hcl : code.length ≤ maxLen) (hcu : Nums 255 code) (b : Nat) (at_ sd : Int) (hat : 0 ≤ at_ ∧ at_ ≤ 500000) (s : List Int) (hv : validStack s = true) (As : Option Addr) (cs : Nat) (a : Dig) (ha : Nums 255 a.l) (hd0 : validDig s a.l = true) : Mut Tryz.prog 65 [.pointer (some ⟨b, 0, none⟩), .slice As s.length cs, .agg (encD a).toArray] [.blk b [.slice Ac code.length cc, .int .i64 at_, .int .u64 sd] 136] (fun base w0 F => RdB base w0 Ac (code.flatMap (eI .u8)) ∧ RdB base w0 As (s.flatMap (eI .u8))) (fun x : (Int × Int) × VPh => .agg (encPh x.2).toArray) (fun x => [.blk b [.slice Ac code.length cc, .int .i64 x.1.1, .int .u64 x.1.2] 136]) (fun x => (OkPh x.2 ∧ photoOk s x.2.l = true ∧ showsM s x.2.l a.l = true) ∧ at_ ≤ x.1.1 ∧ x.1.1 ≤ at_ + 80) := by
  refine Mut.of e_65 Tryz.func65 rfl Tryz.ntmps65 rfl rfl (fun base w0 F hfr => ?_)
  have hcode := hfr.1
  have hs := hfr.2
  have hS := stk hv
  have h8 := hS.len8
  have hDg := digOk h8 ha hd0
  have hm0 : maxLen = 9223372036854775807 := rfl
  refine Ex.regSeq (ExL.pures 0 rfl ?_)
  refine ExL.op rfl (op_box rfl rfl rfl rfl rfl (fun b1 => ?_))
  refine ExL.op rfl (op_alloc rfl rfl rfl rfl rfl (fun b2 => ?_))
  refine ExL.nil ?_
  refine Ex.regSeq (ExL.pures 1 rfl ?_)
  refine ExL.free (fr_loadN rfl rfl rfl rfl rfl (SegO.whole (i := 1) rfl)) rfl rfl rfl ?_
  refine ExL.op rfl (op_ret rfl rfl rfl (c_l05Of s (by assumption) _ _ a (by assumption) (by assumption)) (Reads.get (Reads.old hs)) rfl rfl (fun x3 hx3 => ?_))
  refine ExL.op rfl (op_alloc rfl rfl rfl rfl rfl (fun b4 => ?_))
  refine ExL.op rfl (op_storeC (i := 0) rfl rfl rfl rfl rfl rfl rfl rfl rfl rfl ?_)
  refine ExL.nil ?_
  refine Ex.seq ?_
  refine Ex.regSeq (ExL.pures 1 rfl ?_)
  refine ExL.nil ?_
  refine Ex.block ?_
  refine Ex.loopK (X := BlS) (fun q => [(8, .int .i64 q.k)]) (fun q => [.blk b4 (q.l.flatMap encMk) 75, .blk b [.slice Ac code.length cc, .int .i64 q.at_, .int .u64 q.sd] 136]) (fun q => BlP s a.l q.l ∧ q.k ≤ s.length ∧ at_ ≤ q.at_ ∧ q.at_ ≤ at_ + 10 * (q.k : Int)) (fun q => s.length - q.k) (⟨(phot (putW s a.l zPh.l s.length)).l, at_, sd, 0⟩ : BlS) [(0, _), (1, _), (6, _), (7, _)] (_ :: F) 4 [0, 3, 1] ⟨rfl, trivial⟩ ⟨rfl, rfl, rfl, rfl, trivial⟩ (rfl) rfl ⟨BlP.of hS hDg, by dsimp only; omega, by dsimp only; omega, by dsimp only; omega⟩ (fun q hI => ?_)
  have hI : BlP s a.l q.l ∧ q.k ≤ s.length ∧ at_ ≤ q.at_ ∧ q.at_ ≤ at_ + 10 * (q.k : Int) := hI
  obtain ⟨hB, hks, hat1, hat2⟩ := hI
  refine Ex.seq ?_
  refine Ex.regSeq (ExL.pures 3 rfl ?_)
  refine ExL.lss rfl rfl rfl rfl rfl rfl (fun h5 => ?_) (fun h5 => ?_)
  · refine ExL.nil ?_
    refine Ex.cond_t rfl ?_
    refine Ex.skip ?_
    refine Ex.seq ?_
    refine Ex.block ?_
    have hkl : q.k < s.length := by omega
    have hbw := hS.bases q.k hkl
    refine Ex.regSeq (ExL.pures 1 rfl ?_)
    refine ExL.op rfl (op_mut rfl rfl rfl (c_pick code _ _ (by omega) (by assumption) _ q.at_ _ (by omega) 5 (by omega)) (perm_at (i := 1) rfl) (hcode) rfl rfl (fun x6 hx6 => ?_))
    refine ExL.nil ?_
    refine Ex.block ?_
    refine Ex.regSeq (ExL.pures 0 rfl ?_)
    refine ExL.eql rfl rfl rfl rfl rfl rfl (fun h7 => ?_) (fun h7 => ?_)
    · refine ExL.pures 1 rfl ?_
      refine ExL.nil ?_
      refine Ex.cond_t rfl ?_
      refine Ex.regSeq (ExL.pures 1 rfl ?_)
      refine ExL.op rfl (op_mut rfl rfl rfl (c_pick code _ _ (by omega) (by assumption) _ x6.2.1 _ (by omega) 3 (by omega)) (perm_at (i := 0) rfl) (hcode) rfl rfl (fun x8 hx8 => ?_))
      refine ExL.free (by first | exact fr_add64 rfl rfl rfl (by omega) | exact fr_add rfl rfl rfl) rfl rfl rfl ?_
      refine ExL.pures 1 rfl ?_
      refine ExL.nil ?_
      refine Ex.block ?_
      refine Ex.loopK (X := BlT) (fun r => [(9, .int .i64 r.j)]) (fun r => [.blk b4 (r.l.flatMap encMk) 75, .blk b [.slice Ac code.length cc, .int .i64 r.at_, .int .u64 r.sd] 136]) (fun r => BlP s a.l r.l ∧ 0 ≤ r.j ∧ at_ ≤ r.at_ ∧ r.at_ + 2 * r.j ≤ at_ + 10 * (q.k : Int) + 10) (fun r => r.j.toNat) (⟨q.l, x8.2.1, x8.2.2, (1 + x8.1)⟩ : BlT) [(0, _), (1, _), (6, _), (7, _), (8, _)] (_ :: F) 3 [1, 0, 2] ⟨rfl, trivial⟩ ⟨rfl, rfl, rfl, rfl, rfl, trivial⟩ (rfl) rfl ⟨hB, by dsimp only; omega, by dsimp only; omega, by dsimp only; omega⟩ (fun r hI => ?_)
      have hI : BlP s a.l r.l ∧ 0 ≤ r.j ∧ at_ ≤ r.at_ ∧ r.at_ + 2 * r.j ≤ at_ + 10 * (q.k : Int) + 10 := hI
      obtain ⟨hR, hj0, hat3, hat4⟩ := hI
      refine Ex.seq ?_
      refine Ex.regSeq (ExL.pures 1 rfl ?_)
      refine ExL.gtr rfl rfl rfl rfl rfl rfl (fun h9 => ?_) (fun h9 => ?_)
      · refine ExL.nil ?_
        refine Ex.cond_t rfl ?_
        refine Ex.skip ?_
        refine Ex.seq ?_
        refine Ex.block ?_
        refine Ex.drawI [0, 2] rfl rfl ?_
        refine ExD.take (i := 0) rfl (by kernel_rfl) (pureVal_ok rfl) ((List.Sublist.cons_cons _ (List.Sublist.cons _ (List.Sublist.cons_cons _ (List.nil_sublist _))))) rfl rfl rfl ?_
        refine ExD.take (i := 1) rfl (by kernel_rfl) (pureVal_ok rfl) ((List.Sublist.cons_cons _ (List.Sublist.cons _ (List.Sublist.cons_cons _ (List.nil_sublist _))))) rfl rfl rfl ?_
        refine ExD.take (i := 2) rfl (by kernel_rfl) (fr_indexAddr_b (sz := 2) rfl rfl rfl rfl rfl (by omega)) ((List.Sublist.cons_cons _ (List.Sublist.cons _ (List.Sublist.cons_cons _ (List.nil_sublist _))))) rfl rfl rfl ?_
        refine ExD.take (i := 3) rfl (by kernel_rfl) (fr_loadN rfl rfl rfl rfl rfl (segB (i := 0) rfl encMk_len zMk (by rw [hR.len]; omega))) ((List.Sublist.cons_cons _ (List.Sublist.cons _ (List.Sublist.cons_cons _ (List.nil_sublist _))))) rfl rfl rfl ?_
        refine ExD.take (i := 4) rfl (by kernel_rfl) (pureVal_ok rfl) ((List.Sublist.cons_cons _ (List.Sublist.cons _ (List.Sublist.cons_cons _ (List.nil_sublist _))))) rfl rfl rfl ?_
        refine ExD.take (i := 5) rfl (by kernel_rfl) (pureVal_ok rfl) ((List.Sublist.cons_cons _ (List.Sublist.cons _ (List.Sublist.cons_cons _ (List.nil_sublist _))))) rfl rfl rfl ?_
        refine ExD.take (i := 6) rfl (by kernel_rfl) (pureVal_ok rfl) ((List.Sublist.cons_cons _ (List.Sublist.cons _ (List.Sublist.cons_cons _ (List.nil_sublist _))))) rfl rfl rfl ?_
        refine ExD.take (i := 7) rfl (by kernel_rfl) (fr_indexAddrF (Reads.old hs) (eI_len .u8) rfl rfl rfl rfl rfl rfl (by omega)) ((List.Sublist.cons_cons _ (List.Sublist.cons _ (List.Sublist.cons_cons _ (List.nil_sublist _))))) rfl rfl rfl ?_
        refine ExD.take (i := 8) rfl (by kernel_rfl) (fr_load rfl rfl rfl rfl (by first | exact cellN (Reads.old hs) (eI_len .u8) 0 0 rfl (by omega) rfl | exact cellF (Reads.old hs) (eI_len .u8) 0 0 rfl (by omega) rfl)) ((List.Sublist.cons_cons _ (List.Sublist.cons _ (List.Sublist.cons_cons _ (List.nil_sublist _))))) rfl rfl rfl ?_
        refine ExD.take (i := 9) rfl (by kernel_rfl) (by first | exact fr_conv64 rfl rfl rfl rfl (by omega) | exact fr_conv rfl rfl rfl rfl) ((List.Sublist.cons_cons _ (List.Sublist.cons _ (List.Sublist.cons_cons _ (List.nil_sublist _))))) rfl rfl rfl ?_
        refine ExD.op (i := 10) rfl (by kernel_rfl) rfl (op_mut rfl rfl rfl (c_pick code _ _ (by omega) (by assumption) _ r.at_ _ (by omega) (s.getD q.k 0) (by omega)) (perm_at (i := 1) rfl) (hcode) rfl rfl (fun x10 hx10 => ⟨(List.Sublist.cons _ (List.Sublist.cons_cons _ (List.Sublist.cons_cons _ (List.nil_sublist _)))), ?_⟩))
        refine ExD.op (i := 11) rfl (by kernel_rfl) rfl (op_ret rfl rfl rfl (c_l05Put (r.l.getD q.k zMk) (hR.ok _) x10.1 (by omega)) (fun _ _ => trivial) rfl rfl (fun x11 hx11 => ⟨(List.Sublist.cons _ (List.Sublist.cons_cons _ (List.Sublist.cons_cons _ (List.nil_sublist _)))), ?_⟩))
        refine ExD.take (i := 12) rfl (by kernel_rfl) (fr_indexAddr_b (sz := 2) rfl rfl rfl rfl rfl (by omega)) ((List.Sublist.cons _ (List.Sublist.cons_cons _ (List.Sublist.cons_cons _ (List.nil_sublist _))))) rfl rfl rfl ?_
        refine ExD.last (i := 13) rfl (by kernel_rfl) (by kernel_rfl) rfl (op_store (i := 1) rfl rfl rfl rfl rfl rfl rfl rfl (room encMk_len (k := (↑q.k : Int).toNat) (by rw [hR.len]; omega) (by simp) rfl) rfl ?_)
        refine ExD.done (by kernel_rfl) ?_
        refine Ex.region (ExL.pures 1 rfl ?_)
        refine ExL.free (by first | exact fr_sub64 rfl rfl rfl (by omega) | exact fr_sub rfl rfl rfl) rfl rfl rfl ?_
        refine ExL.pures 1 rfl ?_
        refine ExL.nil ?_
        refine Hand.mk ((⟨(r.l.set q.k (putM (r.l.getD q.k zMk) (x10.1).toNat)), x10.2.1, x10.2.2, r.j - 1⟩ : BlT)) 3 [1, 0, 2] ⟨rfl, trivial⟩ ⟨rfl, rfl, rfl, rfl, rfl, trivial⟩ (by first | rfl | exact pkB (bl_put (by first | (rw [hB.len]; omega) | (rw [hR.len]; omega)) (by first | omega | (simp; done) | (simp; omega)) rfl)) rfl (⟨hR.put hS hDg (by omega) (by omega), by dsimp only; omega, by dsimp only; omega, by dsimp only; omega⟩) (by dsimp only; omega)
      · refine ExL.nil ?_
        refine Ex.cond_f rfl ?_
        refine Ex.exit ?_
        refine Ex.region (ExL.pures 1 rfl ?_)
        refine ExL.free (by first | exact fr_add64 rfl rfl rfl (by omega) | exact fr_add rfl rfl rfl) rfl rfl rfl ?_
        refine ExL.pures 1 rfl ?_
        refine ExL.nil ?_
        refine Hand.mk ((⟨r.l, r.at_, r.sd, q.k + 1⟩ : BlS)) 3 [0, 1, 2] ⟨rfl, trivial⟩ ⟨rfl, rfl, rfl, rfl, trivial⟩ (by first | rfl | exact pkB (bl_put (by first | (rw [hB.len]; omega) | (rw [hR.len]; omega)) (by first | omega | (simp; done) | (simp; omega)) rfl)) rfl (⟨hR, by dsimp only; omega, by dsimp only; omega, by dsimp only; push_cast; omega⟩) (by dsimp only; omega)
    · refine ExL.pures 1 rfl ?_
      refine ExL.nil ?_
      refine Ex.cond_f rfl ?_
      refine Ex.regSeq (ExL.pures 0 rfl ?_)
      refine ExL.eql rfl rfl rfl rfl rfl rfl (fun h12 => ?_) (fun h12 => ?_)
      · refine ExL.pures 1 rfl ?_
        refine ExL.nil ?_
        refine Ex.cond_t rfl ?_
        refine Ex.regSeq (ExL.pures 2 rfl ?_)
        refine ExL.free (fr_indexAddrF (Reads.old hs) (eI_len .u8) rfl rfl rfl rfl rfl rfl (by omega)) rfl rfl rfl ?_
        refine ExL.free (fr_load rfl rfl rfl rfl (by first | exact cellN (Reads.old hs) (eI_len .u8) 0 0 rfl (by omega) rfl | exact cellF (Reads.old hs) (eI_len .u8) 0 0 rfl (by omega) rfl)) rfl rfl rfl ?_
        refine ExL.leq rfl rfl rfl rfl rfl rfl (fun h13 => ?_) (fun h13 => ?_)
        · refine ExL.pures 2 rfl ?_
          refine ExL.op rfl (op_mut rfl rfl rfl (c_one code _ _ (by omega) (by assumption) _ x6.2.1 _ (by omega) 2 (by omega)) (perm_at (i := 0) rfl) (hcode) rfl rfl (fun x14 hx14 => ?_))
          refine ExL.pures 1 rfl ?_
          refine ExL.nil ?_
          refine Ex.cond rfl (fun hb15 => ?_) (fun hb15 => ?_)
          · refine Ex.region (ExL.pures 3 rfl ?_)
            refine ExL.free (fr_indexAddrF (Reads.old hs) (eI_len .u8) rfl rfl rfl rfl rfl rfl (by omega)) rfl rfl rfl ?_
            refine ExL.free (fr_load rfl rfl rfl rfl (by first | exact cellN (Reads.old hs) (eI_len .u8) 0 0 rfl (by omega) rfl | exact cellF (Reads.old hs) (eI_len .u8) 0 0 rfl (by omega) rfl)) rfl rfl rfl ?_
            refine ExL.op rfl (op_ret rfl rfl rfl (c_l05Full (s.getD q.k 0) (by omega)) (fun _ _ => trivial) rfl rfl (fun x16 hx16 => ?_))
            refine ExL.free (fr_indexAddr_b (sz := 2) rfl rfl rfl rfl rfl (by omega)) rfl rfl rfl ?_
            refine ExL.op rfl (op_store (i := 1) rfl rfl rfl rfl rfl rfl rfl rfl (room encMk_len (k := (↑q.k : Int).toNat) (by rw [hB.len]; omega) (by simp) rfl) rfl ?_)
            refine ExL.nil ?_
            refine Ex.region (ExL.pures 1 rfl ?_)
            refine ExL.free (by first | exact fr_add64 rfl rfl rfl (by omega) | exact fr_add rfl rfl rfl) rfl rfl rfl ?_
            refine ExL.pures 1 rfl ?_
            refine ExL.nil ?_
            refine Hand.mk ((⟨(q.l.set q.k (fullM ((s.getD q.k 0)).toNat)), x14.2.1, x14.2.2, q.k + 1⟩ : BlS)) 3 [1, 0, 2] ⟨rfl, trivial⟩ ⟨rfl, rfl, rfl, rfl, trivial⟩ (by first | rfl | exact pkB (bl_put (by first | (rw [hB.len]; omega) | (rw [hR.len]; omega)) (by first | omega | (simp; done) | (simp; omega)) rfl)) rfl (⟨(hB.full hS hDg (by omega)), by dsimp only; omega, by dsimp only; omega, by dsimp only; push_cast; omega⟩) (by dsimp only; omega)
          · refine Ex.skip ?_
            refine Ex.region (ExL.pures 1 rfl ?_)
            refine ExL.free (by first | exact fr_add64 rfl rfl rfl (by omega) | exact fr_add rfl rfl rfl) rfl rfl rfl ?_
            refine ExL.pures 1 rfl ?_
            refine ExL.nil ?_
            refine Hand.mk ((⟨q.l, x14.2.1, x14.2.2, q.k + 1⟩ : BlS)) 3 [1, 0, 2] ⟨rfl, trivial⟩ ⟨rfl, rfl, rfl, rfl, trivial⟩ (by first | rfl | exact pkB (bl_put (by first | (rw [hB.len]; omega) | (rw [hR.len]; omega)) (by first | omega | (simp; done) | (simp; omega)) rfl)) rfl (⟨hB, by dsimp only; omega, by dsimp only; omega, by dsimp only; push_cast; omega⟩) (by dsimp only; omega)
        · refine ExL.pures 4 rfl ?_
          refine ExL.nil ?_
          refine Ex.cond_f rfl ?_
          refine Ex.skip ?_
          refine Ex.region (ExL.pures 1 rfl ?_)
          refine ExL.free (by first | exact fr_add64 rfl rfl rfl (by omega) | exact fr_add rfl rfl rfl) rfl rfl rfl ?_
          refine ExL.pures 1 rfl ?_
          refine ExL.nil ?_
          refine Hand.mk ((⟨q.l, x6.2.1, x6.2.2, q.k + 1⟩ : BlS)) 3 [1, 0, 2] ⟨rfl, trivial⟩ ⟨rfl, rfl, rfl, rfl, trivial⟩ (by first | rfl | exact pkB (bl_put (by first | (rw [hB.len]; omega) | (rw [hR.len]; omega)) (by first | omega | (simp; done) | (simp; omega)) rfl)) rfl (⟨hB, by dsimp only; omega, by dsimp only; omega, by dsimp only; push_cast; omega⟩) (by dsimp only; omega)
      · refine ExL.pures 1 rfl ?_
        refine ExL.nil ?_
        refine Ex.cond_f rfl ?_
        refine Ex.skip ?_
        refine Ex.region (ExL.pures 1 rfl ?_)
        refine ExL.free (by first | exact fr_add64 rfl rfl rfl (by omega) | exact fr_add rfl rfl rfl) rfl rfl rfl ?_
        refine ExL.pures 1 rfl ?_
        refine ExL.nil ?_
        refine Hand.mk ((⟨q.l, x6.2.1, x6.2.2, q.k + 1⟩ : BlS)) 3 [1, 0, 2] ⟨rfl, trivial⟩ ⟨rfl, rfl, rfl, rfl, trivial⟩ (by first | rfl | exact pkB (bl_put (by first | (rw [hB.len]; omega) | (rw [hR.len]; omega)) (by first | omega | (simp; done) | (simp; omega)) rfl)) rfl (⟨hB, by dsimp only; omega, by dsimp only; omega, by dsimp only; push_cast; omega⟩) (by dsimp only; omega)
  · refine ExL.nil ?_
    refine Ex.cond_f rfl ?_
    refine Ex.exit ?_
    rw [← encPh_ph hB.len]
    refine Ex.regSeq (ExL.pures 0 rfl ?_)
    refine ExL.free (fr_loadN rfl rfl rfl rfl rfl (SegO.whole (i := 0) rfl)) rfl rfl rfl ?_
    refine ExL.op rfl (op_storeC (i := 2) rfl rfl rfl rfl rfl rfl rfl rfl rfl rfl ?_)
    refine ExL.nil ?_
    refine Ex.ret ?_
    refine MutQ.mk ((q.at_, q.sd), phot q.l) rfl (.cell rfl (.many rfl rfl rfl (SegO.whole (i := 2) rfl)) .nil) (rfl) 3 [1] (rfl) rfl (⟨hB.photo hS hDg, by dsimp only; omega, by dsimp only; omega⟩)
theorem e_23 : Enters Tryz.prog 23 := Enters.of Tryz.func23 rfl
theorem c_P6Photo (code : List Int) (Ac : Option Addr) (cc : Nat) (hcl : code.length ≤ maxLen) (hcu : Nums 255 code) (s : List Int) (hv : validStack s = true) (As : Option Addr) (cs : Nat) (hu : Nums 255 s) (v : Int) (hv0 : 0 ≤ v ∧ v < size s) : Ret Tryz.prog 23 [.slice Ac code.length cc, .slice As s.length cs, .int .i64 v] (fun w => Rd w Ac (code.flatMap (eI .u8)) ∧ Rd w As (s.flatMap (eI .u8))) (fun x : VPh => .agg (encPh x).toArray) (fun x => []) (fun x => OkPh x ∧ photoOk s x.l = true ∧ showsM s x.l (digs s v) = true) := by
  refine Ret.of e_23 Tryz.func23 rfl Tryz.ntmps23 rfl rfl (fun w hpre => ?_)
  have hcode := hpre.1.base
  have hs := hpre.2.base
  have hS := stk hv
  have h8 := hS.len8
  have hz1 := hS.size_
  have hz2 := hS.le
  have hdl : (dig (digs s v)).l = digs s v := dig_l (digs_len s v)
  have hd1 : Nums 255 (dig (digs s v)).l := by rw [hdl]; exact digs_num hS.bases
  have hd2 : validDig s (dig (digs s v)).l = true := by rw [hdl]; exact digs_valid hS
  have hm0 : maxLen = 9223372036854775807 := rfl
  refine Ex.regSeq (ExL.pures 0 rfl ?_)
  refine ExL.op rfl (op_alloc rfl rfl rfl rfl rfl (fun b1 => ?_))
  refine ExL.nil ?_
  refine Ex.regSeq (ExL.pures 1 rfl ?_)
  refine ExL.op rfl (op_ret rfl rfl rfl (c_l00From code _ _) (fun _ _ => trivial) rfl rfl (fun x2 hx2 => ?_))
  refine ExL.pures 3 rfl ?_
  refine ExL.op rfl (op_ret rfl rfl rfl (c_l01Of s (by first | assumption | simp_all) _ _ _ (by omega)) (Reads.get (Reads.old hs)) rfl rfl (fun x3 hx3 => ?_))
  refine ExL.op rfl (op_mut rfl rfl rfl (c_l05Blurred code _ _ (by omega) (by assumption) _ 0 _ (by omega) s (by assumption) _ _ (dig (digs s v)) (by assumption) (by assumption)) (perm_at (i := 0) rfl) (⟨hcode, hs⟩) rfl rfl (fun x4 hx4 => ?_))
  refine ExL.op rfl (op_storeC (i := 1) rfl rfl rfl rfl rfl rfl rfl rfl rfl rfl ?_)
  refine ExL.nil ?_
  refine Ex.ret ?_
  refine RetQ.mk x4.2 rfl (.cell rfl (.many rfl rfl rfl (SegO.whole (i := 1) rfl)) .nil) (rfl) [] (rfl) rfl (⟨hx4.1.1, hx4.1.2.1, by rw [← hdl]; exact hx4.1.2.2⟩)
end Go.Proofs.YtfcmehdmbfhodaaGreat

/- What these functions of the program hand back, each proved by walking its operations. -/
set_option linter.unusedVariables false
set_option linter.unusedSimpArgs false
set_option maxRecDepth 4000
namespace Go.Proofs.YtfcmehdmbfhodaaGreat
open Go Go.Sx Go.RowKit Go.W Go.Proofs
attribute [local irreducible] Ex ExL ExD Op1 Free RetQ MutQ Reads CellO SegO LoadsAs
theorem e_118 : Enters Tryz.prog 118 := Enters.of Tryz.func118 rfl
theorem c_values (s : List Int) (hv : validStack s = true) (As : Option Addr) (cs : Nat) (p : VPh) (hp : OkPh p) (hP : PhOk s p.l) : Ret Tryz.prog 118 [.slice As s.length cs, .agg (encPh p).toArray] (fun w => Rd w As (s.flatMap (eI .u8))) (fun x : Option Addr × Nat => .slice x.1 (valsP s p).length x.2) (fun x => [.row (.slice x.1 (valsP s p).length x.2) 2 1 (valsP s p).length ((valsP s p).flatMap (eI .i64))]) (fun x => True) := by
  refine Ret.of e_118 Tryz.func118 rfl Tryz.ntmps118 rfl rfl (fun w hpre => ?_)
  have hs := hpre.base
  have hS := stk hv
  have h8 := hS.len8
  have hm0 : maxLen = 9223372036854775807 := rfl
  refine Ex.regSeq (ExL.pures 0 rfl ?_)
  refine ExL.op rfl (op_box rfl rfl rfl rfl rfl (fun b1 => ?_))
  refine ExL.pures 1 rfl ?_
  refine ExL.nil ?_
  refine Ex.regSeq (ExL.pures 0 rfl ?_)
  refine ExL.op rfl (op_buildSlice (sz := 1) rfl rfl rfl rfl rfl rfl rfl rfl (by decide) rfl rfl rfl (fun r2 => ?_))
  refine ExL.pures 1 rfl ?_
  refine ExL.nil ?_
  refine Ex.seq ?_
  refine Ex.regSeq (ExL.pures 2 rfl ?_)
  refine ExL.free (by first | exact fr_sub64 rfl rfl rfl (by omega) | exact fr_sub rfl rfl rfl) rfl rfl rfl ?_
  refine ExL.pures 1 rfl ?_
  refine ExL.nil ?_
  refine Ex.block ?_
  refine Ex.loopA (fun t A c => [(5, .slice A (valW s p.l t).length c), (6, .int .i64 ((s.length : Int) - 1 - t))]) (fun t A c => [.row (.slice A (valW s p.l t).length c) 2 1 (valW s p.l t).length ((valW s p.l t).flatMap (eI .i64))]) (fun t => t ≤ s.length) (fun t => s.length - t) 0 ((some ⟨r2, 0, none⟩)) (1) [(0, _), (3, _), (4, _)] [_] 2 [0, 1] ⟨rfl, agI (by omega), trivial⟩ ⟨rfl, rfl, rfl, trivial⟩ (rfl) rfl (Nat.zero_le _) (fun t A c hI => ?_)
  have hI : t ≤ s.length := hI
  refine Ex.seq ?_
  refine Ex.regSeq (ExL.pures 1 rfl ?_)
  refine ExL.geq rfl rfl rfl rfl rfl rfl (fun h3 => ?_) (fun h3 => ?_)
  · refine ExL.nil ?_
    refine Ex.cond_t rfl ?_
    refine Ex.skip ?_
    refine Ex.seq ?_
    refine Ex.block ?_
    have hts : t < s.length := by omega
    have hjs : (s.length - 1 - t) < s.length := by omega
    have hroom := val_room hP hS hts
    have hbj := hS.bases (s.length - 1 - t) hjs
    rw [show (s.length : Int) - 1 - t = ((s.length - 1 - t : Nat) : Int) by omega]
    have hdl := digI_len' (p.l.getD (s.length - 1 - t) zMk)
    refine Ex.regSeq (ExL.pures 0 rfl ?_)
    refine ExL.op rfl (op_buildSlice (sz := 1) rfl rfl rfl rfl rfl rfl rfl rfl (by decide) rfl rfl rfl (fun r4 => ?_))
    refine ExL.pures 1 rfl ?_
    refine ExL.nil ?_
    refine Ex.seq ?_
    refine Ex.regSeq (ExL.pures 3 rfl ?_)
    refine ExL.nil ?_
    refine Ex.block ?_
    refine Ex.loopA (fun q A2 c2 => [(7, .slice A2 (partV (s.getD (s.length - 1 - t) 0) (digI (p.l.getD (s.length - 1 - t) zMk)) (valW s p.l t) q 0).length c2), (23, .int .i64 q)]) (fun q A2 c2 => [.row (.slice A2 (partV (s.getD (s.length - 1 - t) 0) (digI (p.l.getD (s.length - 1 - t) zMk)) (valW s p.l t) q 0).length c2) 2 1 (partV (s.getD (s.length - 1 - t) 0) (digI (p.l.getD (s.length - 1 - t) zMk)) (valW s p.l t) q 0).length ((partV (s.getD (s.length - 1 - t) 0) (digI (p.l.getD (s.length - 1 - t) zMk)) (valW s p.l t) q 0).flatMap (eI .i64))]) (fun q => q ≤ (valW s p.l t).length) (fun q => (valW s p.l t).length - q) 0 ((some ⟨r4, 0, none⟩)) (0) [(0, _), (3, _), (4, _), (5, _), (6, _), (21, _), (22, _)] [_, _] 3 [0, 1, 2] ⟨rfl, rfl, trivial⟩ ⟨rfl, rfl, rfl, rfl, rfl, rfl, rfl, trivial⟩ (rfl) rfl (Nat.zero_le _) (fun q A2 c2 hI => ?_)
    have hI : q ≤ (valW s p.l t).length := hI
    have hvq := valW_at hP hS (j := t) (by omega) q
    have hmq := valW_mul hP hS (j := t) (by omega) q
    have hpl2 := ptv_le (b := (s.getD (s.length - 1 - t) 0)) (ds := (digI (p.l.getD (s.length - 1 - t) zMk))) hI
    refine Ex.regSeq (ExL.pures 0 rfl ?_)
    refine ExL.lss rfl rfl rfl rfl rfl rfl (fun h5 => ?_) (fun h5 => ?_)
    · refine ExL.nil ?_
      refine Ex.seq ?_
      refine Ex.cond_t rfl ?_
      refine Ex.skip ?_
      refine Ex.seq ?_
      refine Ex.block ?_
      refine Ex.regSeq (ExL.pures 0 rfl ?_)
      refine ExL.free (fr_indexAddrR (sz := 1) 1 rfl rfl rfl rfl rfl rfl (by omega)) rfl rfl rfl ?_
      refine ExL.free (fr_load rfl rfl rfl rfl (by first | exact cellN (Reads.row (i := 1) rfl) (eI_len .i64) 0 0 rfl (by omega) rfl | exact cellF (Reads.row (i := 1) rfl) (eI_len .i64) 0 0 rfl (by omega) rfl)) rfl rfl rfl ?_
      refine ExL.pures 1 rfl ?_
      refine ExL.nil ?_
      refine Ex.regSeq (ExL.pures 1 rfl ?_)
      refine ExL.free (fr_indexAddr_b (sz := 2) rfl rfl rfl rfl rfl (by omega)) rfl rfl rfl ?_
      refine ExL.free (fr_loadN rfl rfl rfl rfl rfl (segB (i := 2) rfl encMk_len zMk (by rw [ph_len]; omega))) rfl rfl rfl ?_
      refine ExL.op rfl (op_ret rfl rfl rfl (c_digitsM (p.l.getD (s.length - 1 - t) zMk) (hp (s.length - 1 - t) (by omega))) (fun _ _ => trivial) rfl rfl (fun x6 hx6 => ?_))
      refine ExL.pures 2 rfl ?_
      refine ExL.nil ?_
      refine Ex.block ?_
      have hql : q < (valW s p.l t).length := by omega
      refine Ex.loopA (fun r A3 c3 => [(7, .slice A3 (partV (s.getD (s.length - 1 - t) 0) (digI (p.l.getD (s.length - 1 - t) zMk)) (valW s p.l t) q r).length c3), (32, .int .i64 r)]) (fun r A3 c3 => [.row (.slice A3 (partV (s.getD (s.length - 1 - t) 0) (digI (p.l.getD (s.length - 1 - t) zMk)) (valW s p.l t) q r).length c3) 2 1 (partV (s.getD (s.length - 1 - t) 0) (digI (p.l.getD (s.length - 1 - t) zMk)) (valW s p.l t) q r).length ((partV (s.getD (s.length - 1 - t) 0) (digI (p.l.getD (s.length - 1 - t) zMk)) (valW s p.l t) q r).flatMap (eI .i64))]) (fun r => r ≤ (digI (p.l.getD (s.length - 1 - t) zMk)).length) (fun r => (digI (p.l.getD (s.length - 1 - t) zMk)).length - r) 0 (A2) (c2) [(0, _), (3, _), (4, _), (5, _), (6, _), (9, _), (21, _), (22, _), (23, _), (30, _), (31, _)] [_, _, _] 4 [1, 0, 2, 3] ⟨rfl, rfl, trivial⟩ ⟨rfl, rfl, rfl, rfl, rfl, rfl, rfl, rfl, rfl, rfl, rfl, trivial⟩ (rfl) rfl (Nat.zero_le _) (fun r A3 c3 hI => ?_)
      have hI : r ≤ (digI (p.l.getD (s.length - 1 - t) zMk)).length := hI
      refine Ex.regSeq (ExL.pures 0 rfl ?_)
      refine ExL.lss rfl rfl rfl rfl rfl rfl (fun h7 => ?_) (fun h7 => ?_)
      · refine ExL.nil ?_
        refine Ex.seq ?_
        refine Ex.cond_t rfl ?_
        refine Ex.skip ?_
        refine Ex.seq ?_
        refine Ex.block ?_
        have hrl : r < (digI (p.l.getD (s.length - 1 - t) zMk)).length := by omega
        have hdr := digI_has (getD_mem 0 hrl)
        have hpl3 := ptv_len (s.getD (s.length - 1 - t) 0) (digI (p.l.getD (s.length - 1 - t) zMk)) (valW s p.l t) q r hql hI
        refine Ex.regSeq (ExL.pures 0 rfl ?_)
        refine ExL.free (fr_indexAddrR (sz := 1) 1 rfl rfl rfl rfl rfl rfl (by omega)) rfl rfl rfl ?_
        refine ExL.free (fr_load rfl rfl rfl rfl (by first | exact cellN (Reads.row (i := 1) rfl) (eI_len .i64) 0 0 rfl (by omega) rfl | exact cellF (Reads.row (i := 1) rfl) (eI_len .i64) 0 0 rfl (by omega) rfl)) rfl rfl rfl ?_
        refine ExL.pures 1 rfl ?_
        refine ExL.nil ?_
        refine Ex.region (ExL.pures 4 rfl ?_)
        refine ExL.free (fr_indexAddrF (Reads.old hs) (eI_len .u8) rfl rfl rfl rfl rfl rfl (by omega)) rfl rfl rfl ?_
        refine ExL.free (fr_load rfl rfl rfl rfl (cellJ ((s.length - 1 - t)) (Reads.old hs) (eI_len .u8) 0 0 rfl (by omega) (by omega) rfl)) rfl rfl rfl ?_
        refine ExL.free (by first | exact fr_conv64 rfl rfl rfl rfl (by omega) | exact fr_conv rfl rfl rfl rfl) rfl rfl rfl ?_
        refine ExL.free (by first | exact fr_mul64 rfl rfl rfl (by omega) | exact fr_mul rfl rfl rfl) rfl rfl rfl ?_
        refine ExL.pures 1 rfl ?_
        refine ExL.free (by first | exact fr_add64 rfl rfl rfl (by omega) | exact fr_add rfl rfl rfl) rfl rfl rfl ?_
        refine ExL.op rfl (op_buildSlice (sz := 1) rfl rfl rfl rfl rfl rfl rfl rfl (by decide) rfl rfl rfl (fun r8 => ?_))
        refine ExL.op rfl (op_append (sz := 1) (bytes := 8) (i := 1) rfl rfl rfl rfl (Reads.row (i := 0) rfl) rfl (fun e => nomatch e) rfl rfl rfl rfl (by constructor <;> first | omega | (unfold maxLen; omega)) rfl rfl (fun A9 cA9 => ?_))
        refine ExL.pures 1 rfl ?_
        refine ExL.nil ?_
        refine Ex.region (ExL.pures 0 rfl ?_)
        refine ExL.free (by first | exact fr_add64 rfl rfl rfl (by omega) | exact fr_add rfl rfl rfl) rfl rfl rfl ?_
        refine ExL.pures 1 rfl ?_
        refine ExL.nil ?_
        refine HandA.of (r + 1) (A9) (cA9) 5 [1, 2, 3, 4] ⟨(by rw [ptv_snoc hrl, List.length_append]; rfl), rfl, trivial⟩ ⟨rfl, rfl, rfl, rfl, rfl, rfl, rfl, rfl, rfl, rfl, rfl, trivial⟩ (by rw [ptv_snoc hrl, List.length_append, List.flatMap_append]; rfl) rfl (by omega) (by omega)
      · refine ExL.nil ?_
        refine Ex.seq ?_
        refine Ex.cond_f rfl ?_
        refine Ex.exit ?_
        obtain rfl : r = (digI (p.l.getD (s.length - 1 - t) zMk)).length := (by omega)
        rw [ptv_next hql rfl]
        refine Ex.region (ExL.pures 0 rfl ?_)
        refine ExL.free (by first | exact fr_add64 rfl rfl rfl (by omega) | exact fr_add rfl rfl rfl) rfl rfl rfl ?_
        refine ExL.pures 1 rfl ?_
        refine ExL.nil ?_
        refine HandA.of (q + 1) (A3) (c3) 4 [0, 2, 3] ⟨rfl, rfl, trivial⟩ ⟨rfl, rfl, rfl, rfl, rfl, rfl, rfl, trivial⟩ (rfl) rfl (by omega) (by omega)
    · refine ExL.nil ?_
      refine Ex.seq ?_
      refine Ex.cond_f rfl ?_
      refine Ex.exit ?_
      obtain rfl : q = (valW s p.l t).length := (by omega)
      rw [ptv_all]
      refine Ex.region (ExL.pures 2 rfl ?_)
      refine ExL.nil ?_
      refine Ex.region (ExL.pures 1 rfl ?_)
      refine ExL.free (by first | exact fr_sub64 rfl rfl rfl (by omega) | exact fr_sub rfl rfl rfl) rfl rfl rfl ?_
      refine ExL.pures 1 rfl ?_
      refine ExL.nil ?_
      refine HandA.of (t + 1) (A2) (c2) 3 [0, 2] ⟨(by first | rfl | (rw [ptv_all]; rfl)), agI (by omega), trivial⟩ ⟨rfl, rfl, rfl, trivial⟩ (by first | rfl | (rw [ptv_all]; rfl)) rfl (by omega) (by omega)
  · refine ExL.nil ?_
    refine Ex.cond_f rfl ?_
    refine Ex.exit ?_
    obtain rfl : t = s.length := (by omega)
    refine Ex.regSeq (ExL.pures 2 rfl ?_)
    refine ExL.nil ?_
    refine Ex.ret ?_
    refine RetQ.mk (A, c) rfl (.tmp rfl .nil) (rfl) [0] (rfl) rfl (trivial)
end Go.Proofs.YtfcmehdmbfhodaaGreat

/- What these functions of the program hand back, each proved by walking its operations. -/
set_option linter.unusedVariables false
set_option linter.unusedSimpArgs false
set_option maxRecDepth 4000
namespace Go.Proofs.YtfcmehdmbfhodaaGreat
open Go Go.Sx Go.RowKit Go.W Go.Proofs
attribute [local irreducible] Ex ExL ExD Op1 Free RetQ MutQ Reads CellO SegO LoadsAs
theorem e_116 : Enters Tryz.prog 116 := Enters.of Tryz.func116 rfl
theorem c_film1 (s : List Int) (hv : validStack s = true) (As : Option Addr) (cs : Nat) (p : VPh) (hp : OkPh p) (b : Nat) : Ret Tryz.prog 116 [.agg (encPh p).toArray, .pointer (some ⟨b, 0, none⟩)] (fun w => Rd w (some ⟨b, 0, none⟩) [.slice As s.length cs] ∧ Rd w As (s.flatMap (eI .u8))) (fun x : Unit => .bool (!photoOk s p.l)) (fun x => []) (fun x => True) := by
  refine Ret.of e_116 Tryz.func116 rfl Tryz.ntmps116 rfl rfl (fun w hpre => ?_)
  have hsb := hpre.1.base
  have hs := hpre.2.base
  refine Ex.regSeq (ExL.pures 0 rfl ?_)
  refine ExL.op rfl (op_box rfl rfl rfl rfl rfl (fun b1 => ?_))
  refine ExL.pures 1 rfl ?_
  refine ExL.nil ?_
  refine Ex.regSeq (ExL.pures 0 rfl ?_)
  refine ExL.free (fr_load rfl rfl rfl rfl (CellO.at 0 (Reads.old hsb) rfl)) rfl rfl rfl ?_
  refine ExL.free (fr_loadN rfl rfl rfl rfl rfl (SegO.whole (i := 0) rfl)) rfl rfl rfl ?_
  refine ExL.op rfl (op_ret rfl rfl rfl (c_photoOK s (by first | assumption | simp_all) _ _ p hp) (Reads.get (Reads.old hs)) rfl rfl (fun x2 hx2 => ?_))
  refine ExL.pures 2 rfl ?_
  refine ExL.nil ?_
  refine Ex.ret ?_
  refine RetQ.mk () rfl (.tmp rfl .nil) (rfl) [] (rfl) rfl (trivial)
theorem e_137 : Enters Tryz.prog 137 := Enters.of Tryz.func137 rfl
theorem c_plIndexFunc (s : List Int) (hv : validStack s = true) (As : Option Addr) (cs : Nat) (b : Nat) (L : List VPh) (hLk : ∀ k, k < L.length → OkPh (L.getD k zPh)) (bl cL : Nat) (hlL : L.length ≤ maxLen) : Ret Tryz.prog 137 [.slice (some ⟨bl, 0, none⟩) L.length cL, .func (.func 116) #[] (List.toArray [.pointer (some ⟨b, 0, none⟩)])] (fun w => Rd w (some ⟨bl, 0, none⟩) (L.flatMap encPh) ∧ Rd w (some ⟨b, 0, none⟩) [.slice As s.length cs] ∧ Rd w As (s.flatMap (eI .u8))) (fun x : Unit => .int .i64 (idxF (fun p : VPh => !photoOk s p.l) L)) (fun x => []) (fun x => True) := by
  refine Ret.of e_137 Tryz.func137 rfl Tryz.ntmps137 rfl rfl (fun w hpre => ?_)
  have hLr := hpre.1.base
  have hsb := hpre.2.1.base
  have hs := hpre.2.2.base
  have hm0 : maxLen = 9223372036854775807 := rfl
  refine Ex.regSeq (ExL.pures 1 rfl ?_)
  refine ExL.nil ?_
  refine Ex.seq ?_
  refine Ex.regSeq (ExL.pures 3 rfl ?_)
  refine ExL.nil ?_
  refine Ex.block ?_
  refine Ex.loopK (X := Nat) (fun k => [(8, .int .i64 k)]) (fun k => []) (fun k => k ≤ L.length ∧ ∀ i, i < k → (fun p : VPh => !photoOk s p.l) (L.getD i zPh) = false) (fun k => L.length - k) 0 [(0, _), (1, _), (7, _)] [] 0 [] ⟨rfl, trivial⟩ ⟨rfl, rfl, rfl, trivial⟩ (rfl) rfl ⟨Nat.zero_le _, fun i hi => by omega⟩ (fun k hI => ?_)
  have hI : k ≤ L.length ∧ ∀ i, i < k → (fun p : VPh => !photoOk s p.l) (L.getD i zPh) = false := hI
  obtain ⟨hk, hall⟩ := hI
  refine Ex.regSeq (ExL.pures 0 rfl ?_)
  refine ExL.lss rfl rfl rfl rfl rfl rfl (fun h1 => ?_) (fun h1 => ?_)
  · refine ExL.nil ?_
    refine Ex.seq ?_
    refine Ex.cond_t rfl ?_
    refine Ex.skip ?_
    refine Ex.seq ?_
    refine Ex.block ?_
    have hk2 : k < L.length := by omega
    refine Ex.regSeq (ExL.pures 2 rfl ?_)
    refine ExL.nil ?_
    refine Ex.regSeq (ExL.pures 3 rfl ?_)
    refine ExL.free (fr_indexAddrF (Reads.old hLr) encPh_len rfl rfl rfl rfl rfl rfl (by omega)) rfl rfl rfl ?_
    refine ExL.free (fr_loadN rfl rfl rfl rfl rfl (by first | exact segN (Reads.old hLr) encPh_len rfl zPh (by omega) | exact segF (Reads.old hLr) encPh_len rfl zPh (by omega))) rfl rfl rfl ?_
    refine ExL.op rfl (op_ret rfl rfl rfl (c_film1 s hv As cs (L.getD k zPh) (hLk _ (by omega)) b) (fun w hw => ⟨Reads.get (Reads.old hsb) w hw, Reads.get (Reads.old hs) w hw⟩) rfl rfl (fun x2 hx2 => ?_))
    refine ExL.nil ?_
    refine Ex.cond rfl (fun hb3 => ?_) (fun hb3 => ?_)
    · refine Ex.regSeq (ExL.pures 2 rfl ?_)
      refine ExL.nil ?_
      refine Ex.ret ?_
      refine RetQ.mk () rfl (.tmp rfl .nil) (tI (by first | exact (idx_hit (d := zPh) (by omega) hall (by assumption)).symm | exact (idx_none (d := zPh) (by omega) hall).symm)) [] (rfl) rfl (trivial)
    · refine Ex.skip ?_
      refine Ex.region (ExL.pures 0 rfl ?_)
      refine ExL.free (by first | exact fr_add64 rfl rfl rfl (by omega) | exact fr_add rfl rfl rfl) rfl rfl rfl ?_
      refine ExL.pures 1 rfl ?_
      refine ExL.nil ?_
      refine Hand.mk (k + 1) 0 [] ⟨rfl, trivial⟩ ⟨rfl, rfl, rfl, trivial⟩ (rfl) rfl (⟨by omega, all_snoc hall (by assumption)⟩) (by omega)
  · refine ExL.nil ?_
    refine Ex.seq ?_
    refine Ex.cond_f rfl ?_
    refine Ex.exit ?_
    refine Ex.regSeq (ExL.pures 1 rfl ?_)
    refine ExL.nil ?_
    refine Ex.ret ?_
    refine RetQ.mk () rfl (.tmp rfl .nil) (tI (by first | exact (idx_hit (d := zPh) (by omega) hall (by assumption)).symm | exact (idx_none (d := zPh) (by omega) hall).symm)) [] (rfl) rfl (trivial)
theorem e_115 : Enters Tryz.prog 115 := Enters.of Tryz.func115 rfl
theorem c_plContainsFunc (s : List Int) (hv : validStack s = true) (As : Option Addr) (cs : Nat) (b : Nat) (L : List VPh) (hLk : ∀ k, k < L.length → OkPh (L.getD k zPh)) (bl cL : Nat) (hlL : L.length ≤ maxLen) : Ret Tryz.prog 115 [.slice (some ⟨bl, 0, none⟩) L.length cL, .func (.func 116) #[] (List.toArray [.pointer (some ⟨b, 0, none⟩)])] (fun w => Rd w (some ⟨bl, 0, none⟩) (L.flatMap encPh) ∧ Rd w (some ⟨b, 0, none⟩) [.slice As s.length cs] ∧ Rd w As (s.flatMap (eI .u8))) (fun x : Unit => .bool (badP s L)) (fun x => []) (fun x => True) := by
  refine Ret.of e_115 Tryz.func115 rfl Tryz.ntmps115 rfl rfl (fun w hpre => ?_)
  have hLr := hpre.1.base
  have hsb := hpre.2.1.base
  have hs := hpre.2.2.base
  have hm0 : maxLen = 9223372036854775807 := rfl
  refine Ex.regSeq (ExL.pures 1 rfl ?_)
  refine ExL.nil ?_
  refine Ex.regSeq (ExL.pures 2 rfl ?_)
  refine ExL.op rfl (op_ret rfl rfl rfl (c_plIndexFunc s (by first | exact hv | assumption) As cs _ L hLk _ _ (by omega)) (fun w hw => ⟨Reads.get (Reads.old hLr) w hw, Reads.get (Reads.old hsb) w hw, Reads.get (Reads.old hs) w hw⟩) rfl rfl (fun x1 hx1 => ?_))
  refine ExL.geq rfl rfl rfl rfl rfl rfl (fun h2 => ?_) (fun h2 => ?_)
  · refine ExL.pures 1 rfl ?_
    refine ExL.nil ?_
    refine Ex.ret ?_
    refine RetQ.mk () rfl (.tmp rfl .nil) (tB (by rw [bad_idx]; first | exact dec_t (by omega) | exact dec_f (by omega) | rfl)) [] (rfl) rfl (trivial)
  · refine ExL.pures 1 rfl ?_
    refine ExL.nil ?_
    refine Ex.ret ?_
    refine RetQ.mk () rfl (.tmp rfl .nil) (tB (by rw [bad_idx]; first | exact dec_t (by omega) | exact dec_f (by omega) | rfl)) [] (rfl) rfl (trivial)
end Go.Proofs.YtfcmehdmbfhodaaGreat

/- What these functions of the program hand back, each proved by walking its operations. -/
set_option linter.unusedVariables false
set_option linter.unusedSimpArgs false
set_option maxRecDepth 4000
namespace Go.Proofs.YtfcmehdmbfhodaaGreat
open Go Go.Sx Go.RowKit Go.W Go.Proofs
attribute [local irreducible] Ex ExL ExD Op1 Free RetQ MutQ Reads CellO SegO LoadsAs
theorem e_71 : Enters Tryz.prog 71 := Enters.of Tryz.func71 rfl
theorem c_filmOf_t (s : List Int) (hu : Nums 255 s) (As : Option Addr) (cs : Nat) (hls : s.length ≤ maxLen) (L : List VPh) (hLk : ∀ k, k < L.length → OkPh (L.getD k zPh)) (bl cL : Nat) (hlL : L.length ≤ maxLen) (lo hi us : Int) (hc0 : codeF s L lo hi us = 0) : Ret Tryz.prog 71 [.slice As s.length cs, .slice (some ⟨bl, 0, none⟩) L.length cL, .int .i64 lo, .int .i64 hi, .int .i64 us] (fun w => Rd w As (s.flatMap (eI .u8)) ∧ Rd w (some ⟨bl, 0, none⟩) (L.flatMap encPh)) (fun x : FX => .tuple #[.pointer (some ⟨x.b, 0, none⟩), .int .i64 0]) (fun x => [.blk x.b [.slice x.A x.K.length x.c, .int .i64 lo, .int .i64 hi] 132, .row (.slice x.A x.K.length x.c) 129 1 x.K.length (x.K.flatMap encX), .pile (x.K.map (rwX (eI .i64) 2 1))]) (fun x => x.K.map (·.xs) = filmL s L) := by
  refine Ret.of e_71 Tryz.func71 rfl Tryz.ntmps71 rfl rfl (fun w hpre => ?_)
  have hs := hpre.1.base
  have hLr := hpre.2.base
  have hm0 : maxLen = 9223372036854775807 := rfl
  obtain ⟨hv, hnb, hrg, hmy⟩ := cf_of hc0
  have hS := stk hv
  have hLp := okLp hLk hv hnb
  have hsb0 := hs
  refine Ex.regSeq (ExL.pures 0 rfl ?_)
  refine ExL.op rfl (op_box rfl rfl rfl rfl rfl (fun b1 => ?_))
  refine ExL.pures 2 rfl ?_
  refine ExL.nil ?_
  refine Ex.seq ?_
  refine Ex.regSeq (ExL.pures 0 rfl ?_)
  refine ExL.free (fr_load rfl rfl rfl rfl (CellO.blk (i := 0) rfl rfl)) rfl rfl rfl ?_
  refine ExL.op rfl (op_ret rfl rfl rfl (c_ValidStack _ (by assumption) _ _ (by first | assumption | omega | (unfold maxLen; omega))) (Reads.get (Reads.old hs)) rfl rfl (fun x2 hx2 => ?_))
  refine ExL.pures 2 rfl ?_
  refine ExL.bool (d := 18) rfl (fun hb3 => ?_) (fun hb3 => ?_)
  · replace hb3 := nb_t hb3
    refine ExL.pures 4 rfl ?_
    refine ExL.nil ?_
    refine Ex.cond_t rfl ?_
    exfalso; simp_all
  · replace hb3 := nb_f hb3
    refine ExL.pures 1 rfl ?_
    refine ExL.free (fr_makeFunc rfl rfl rfl) rfl rfl rfl ?_
    refine ExL.op rfl (op_ret rfl rfl rfl (c_plContainsFunc s (by first | exact hv | assumption) As cs _ L hLk _ _ (by omega)) (fun w hw => ⟨Reads.get (Reads.old hLr) w hw, Reads.get (Reads.blk (i := 0) rfl) w hw, Reads.get (Reads.old hs) w hw⟩) rfl rfl (fun x4 hx4 => ?_))
    refine ExL.pures 1 rfl ?_
    refine ExL.nil ?_
    refine Ex.cond rfl (fun hb5 => ?_) (fun hb5 => ?_)
    · exfalso; simp_all
    · refine Ex.skip ?_
      refine Ex.seq ?_
      refine Ex.regSeq (ExL.pures 2 rfl ?_)
      refine ExL.op rfl (op_ret rfl rfl rfl (c_within _ _ _) (fun _ _ => trivial) rfl rfl (fun x6 hx6 => ?_))
      refine ExL.pures 2 rfl ?_
      refine ExL.bool (d := 27) rfl (fun hb7 => ?_) (fun hb7 => ?_)
      · replace hb7 := nd_t hb7
        refine ExL.pures 19 rfl ?_
        refine ExL.nil ?_
        refine Ex.cond_t rfl ?_
        exfalso; omega
      · replace hb7 := nd_f hb7
        refine ExL.pures 1 rfl ?_
        refine ExL.lss rfl rfl rfl rfl rfl rfl (fun h8 => ?_) (fun h8 => ?_)
        · refine ExL.pures 17 rfl ?_
          refine ExL.nil ?_
          refine Ex.cond_t rfl ?_
          exfalso; omega
        · refine ExL.pures 4 rfl ?_
          refine ExL.gtr rfl rfl rfl rfl rfl rfl (fun h9 => ?_) (fun h9 => ?_)
          · refine ExL.pures 12 rfl ?_
            refine ExL.nil ?_
            refine Ex.cond_t rfl ?_
            exfalso; omega
          · refine ExL.pures 3 rfl ?_
            refine ExL.gtr rfl rfl rfl rfl rfl rfl (fun h10 => ?_) (fun h10 => ?_)
            · refine ExL.pures 8 rfl ?_
              refine ExL.nil ?_
              refine Ex.cond_t rfl ?_
              exfalso; omega
            · refine ExL.pures 5 rfl ?_
              refine ExL.op rfl (op_ret rfl rfl rfl (c_within _ _ _) (fun _ _ => trivial) rfl rfl (fun x11 hx11 => ?_))
              refine ExL.pures 2 rfl ?_
              refine ExL.nil ?_
              refine Ex.cond rfl (fun hb12 => ?_) (fun hb12 => ?_)
              · replace hb12 := nd_t hb12
                exfalso; omega
              · replace hb12 := nd_f hb12
                refine Ex.skip ?_
                refine Ex.regSeq (ExL.pures 2 rfl ?_)
                refine ExL.free (fr_build rfl rfl rfl rfl) rfl rfl rfl ?_
                refine ExL.op rfl (op_box rfl rfl rfl rfl rfl (fun b13 => ?_))
                refine ExL.pures 1 rfl ?_
                refine ExL.nil ?_
                refine Ex.seq ?_
                refine Ex.nilRow 129 1 ?_
                refine Ex.pile0 ?_
                refine Ex.regSeq (ExL.pures 3 rfl ?_)
                refine ExL.nil ?_
                refine Ex.block ?_
                refine Ex.loopK (X := FSt) (fun q => [(53, .int .i64 q.K.length)]) (fun q => [.blk b13 [.slice q.A q.K.length q.c, .int .i64 lo, .int .i64 hi] 132, .row (.slice q.A q.K.length q.c) 129 1 q.K.length (q.K.flatMap encX), .pile (q.K.map (rwX (eI .i64) 2 1))]) (fun q => q.K.length ≤ L.length ∧ q.K.map (·.xs) = (filmL s L).take q.K.length ∧ ∀ i, i < q.K.length → decide (400 < choV (L.getD i zPh).l s.length) = false) (fun q => L.length - q.K.length) ⟨none, 0, []⟩ [(5, _), (12, _), (51, _), (52, _)] [_] 4 [2, 1, 0, 3] ⟨rfl, trivial⟩ ⟨rfl, rfl, rfl, rfl, trivial⟩ (rfl) rfl ⟨Nat.zero_le _, rfl, fun i hi => by simp at hi⟩ (fun q hI => ?_)
                have hI : q.K.length ≤ L.length ∧ q.K.map (·.xs) = (filmL s L).take q.K.length ∧ ∀ i, i < q.K.length → decide (400 < choV (L.getD i zPh).l s.length) = false := hI
                obtain ⟨hK, hKm, hall⟩ := hI
                refine Ex.regSeq (ExL.pures 0 rfl ?_)
                refine ExL.lss rfl rfl rfl rfl rfl rfl (fun h14 => ?_) (fun h14 => ?_)
                · refine ExL.nil ?_
                  refine Ex.seq ?_
                  refine Ex.cond_t rfl ?_
                  refine Ex.skip ?_
                  refine Ex.seq ?_
                  refine Ex.block ?_
                  refine Ex.regSeq (ExL.pures 0 rfl ?_)
                  refine ExL.free (fr_indexAddrF (Reads.old hLr) encPh_len rfl rfl rfl rfl rfl rfl (by omega)) rfl rfl rfl ?_
                  refine ExL.free (fr_loadN rfl rfl rfl rfl rfl (by first | exact segN (Reads.old hLr) encPh_len rfl zPh (by omega) | exact segF (Reads.old hLr) encPh_len rfl zPh (by omega))) rfl rfl rfl ?_
                  refine ExL.op rfl (op_alloc rfl rfl rfl rfl rfl (fun b15 => ?_))
                  refine ExL.op rfl (op_storeC (i := 0) rfl rfl rfl rfl rfl rfl rfl rfl rfl rfl ?_)
                  refine ExL.nil ?_
                  refine Ex.seq ?_
                  refine Ex.regSeq (ExL.pures 0 rfl ?_)
                  refine ExL.free (fr_load rfl rfl rfl rfl (CellO.blk (i := 4) rfl rfl)) rfl rfl rfl ?_
                  refine ExL.pures 1 rfl ?_
                  refine ExL.op rfl (op_ret rfl rfl rfl (c_choices s (by first | assumption | exact stk (by assumption)) (L.getD q.K.length zPh) (hLp _ (by omega)) (hLk _ (by omega)) _ _ s.length (by omega)) (Reads.get (Reads.blk (i := 0) rfl)) rfl rfl (fun x16 hx16 => ?_))
                  refine ExL.gtr rfl rfl rfl rfl rfl rfl (fun h17 => ?_) (fun h17 => ?_)
                  · refine ExL.nil ?_
                    refine Ex.cond_t rfl ?_
                    have h9 := any_at (d := zPh) hmy (k := q.K.length) (by omega)
                    rw [decide_eq_false_iff_not] at h9
                    exfalso; omega
                  · refine ExL.nil ?_
                    refine Ex.cond_f rfl ?_
                    refine Ex.skip ?_
                    refine Ex.drawI [0, 3, 4] rfl rfl ?_
                    refine ExD.take (i := 0) rfl (by kernel_rfl) (pureVal_ok rfl) ((List.Sublist.cons_cons _ (List.Sublist.cons _ (List.Sublist.cons _ (List.Sublist.refl _))))) rfl rfl rfl ?_
                    refine ExD.take (i := 1) rfl (by kernel_rfl) (pureVal_ok rfl) ((List.Sublist.cons_cons _ (List.Sublist.cons _ (List.Sublist.cons _ (List.Sublist.refl _))))) rfl rfl rfl ?_
                    refine ExD.take (i := 2) rfl (by kernel_rfl) (pureVal_ok rfl) ((List.Sublist.cons_cons _ (List.Sublist.cons _ (List.Sublist.cons _ (List.Sublist.refl _))))) rfl rfl rfl ?_
                    refine ExD.take (i := 3) rfl (by kernel_rfl) (pureVal_ok rfl) ((List.Sublist.cons_cons _ (List.Sublist.cons _ (List.Sublist.cons _ (List.Sublist.refl _))))) rfl rfl rfl ?_
                    refine ExD.take (i := 5) rfl (by kernel_rfl) (fr_load rfl rfl rfl rfl (CellO.blk (i := 2) rfl rfl)) ((List.Sublist.cons_cons _ (List.Sublist.cons _ (List.Sublist.cons _ (List.Sublist.refl _))))) rfl rfl rfl ?_
                    refine ExD.take (i := 6) rfl (by kernel_rfl) (fr_loadN rfl rfl rfl rfl rfl (SegO.whole (i := 0) rfl)) ((List.Sublist.cons_cons _ (List.Sublist.cons _ (List.Sublist.cons _ (List.Sublist.refl _))))) rfl rfl rfl ?_
                    refine ExD.fork (i := 4) (j := 7) rfl rfl (by kernel_rfl) rfl rfl (Op1.of_free (fr_load rfl rfl rfl rfl (CellO.blk (i := 1) rfl rfl)) rfl rfl ⟨(List.Sublist.cons_cons _ (List.Sublist.cons _ (List.Sublist.cons _ (List.Sublist.refl _)))), ?_⟩) (op_ret rfl rfl rfl (c_values s (by first | assumption | simp_all) _ _ (L.getD q.K.length zPh) (hLk _ (by omega)) (hLp _ (by omega))) (Reads.get (Reads.old hs)) rfl rfl (fun x18 hx18 => ⟨(List.Sublist.cons _ (List.Sublist.cons_cons _ (List.Sublist.cons _ (List.Sublist.cons _ (List.Sublist.refl _))))), ?_⟩))
                    · refine ExD.op (i := 7) rfl (by kernel_rfl) rfl (op_ret rfl rfl rfl (c_values s (by first | assumption | simp_all) _ _ (L.getD q.K.length zPh) (hLk _ (by omega)) (hLp _ (by omega))) (Reads.get (Reads.old hs)) rfl rfl (fun x19 hx19 => ⟨(List.Sublist.cons _ (List.Sublist.cons_cons _ (List.Sublist.cons _ (List.Sublist.cons _ (List.Sublist.refl _))))), ?_⟩))
                      refine ExD.op (i := 8) rfl (by kernel_rfl) rfl (op_buildSlice (sz := 1) rfl rfl rfl rfl rfl rfl rfl rfl (by decide) rfl rfl rfl (fun r20 => ⟨(List.Sublist.cons _ (List.Sublist.cons _ (List.Sublist.cons_cons _ (List.Sublist.cons _ (List.Sublist.cons _ (List.Sublist.refl _)))))), ?_⟩))
                      refine ExD.op (i := 9) rfl (by kernel_rfl) rfl (op_append (sz := 1) (bytes := 24) (i := 4) rfl rfl rfl rfl (Reads.row (i := 0) rfl) rfl (fun e => nomatch e) rfl rfl rfl rfl (by constructor <;> first | omega | (unfold maxLen; omega)) rfl rfl (fun A21 cA21 => ⟨(List.Sublist.cons _ (List.Sublist.cons _ (List.Sublist.cons_cons _ (List.Sublist.cons _ (List.Sublist.cons _ (List.Sublist.refl _)))))), ?_⟩))
                      refine ExD.take (i := 10) rfl (by kernel_rfl) (pureVal_ok rfl) ((List.Sublist.cons _ (List.Sublist.cons _ (List.Sublist.cons_cons _ (List.Sublist.cons _ (List.Sublist.cons _ (List.Sublist.refl _))))))) rfl rfl rfl ?_
                      refine ExD.take (i := 11) rfl (by kernel_rfl) (pureVal_ok rfl) ((List.Sublist.cons _ (List.Sublist.cons _ (List.Sublist.cons_cons _ (List.Sublist.cons _ (List.Sublist.cons _ (List.Sublist.refl _))))))) rfl rfl rfl ?_
                      refine ExD.op (i := 12) rfl (by kernel_rfl) rfl (op_storeC (i := 3) rfl rfl rfl rfl rfl rfl rfl rfl rfl rfl ⟨(List.Sublist.cons _ (List.Sublist.cons _ (List.Sublist.cons_cons _ (List.Sublist.cons _ (List.Sublist.cons _ (List.Sublist.refl _)))))), ?_⟩)
                      refine ExD.done (by kernel_rfl) ?_
                      refine Ex.conv (layEnd (perm_lt (i := 1) (j := 5) rfl rfl rfl)) ?_
                      refine Ex.region (ExL.pures 0 rfl ?_)
                      refine ExL.free (by first | exact fr_add64 rfl rfl rfl (by omega) | exact fr_add rfl rfl rfl) rfl rfl rfl ?_
                      refine ExL.pures 1 rfl ?_
                      refine ExL.nil ?_
                      have hKn : (q.K ++ [(⟨x19.1, x19.2, valsP s (L.getD q.K.length zPh)⟩ : VX Int)]).length = q.K.length + 1 := by simp
                      refine Hand.mk (⟨A21, cA21, q.K ++ [(⟨x19.1, x19.2, valsP s (L.getD q.K.length zPh)⟩ : VX Int)]⟩) 6 [3, 4, 0, 5] ⟨agI (by first | rfl | (simp; done) | (dsimp only; rw [hKn]; rfl)), trivial⟩ ⟨rfl, rfl, rfl, rfl, trivial⟩ (by first | rfl | (simp only [List.map_append, List.flatMap_append, hKn]; rfl)) rfl (⟨by dsimp only; omega, kx_step hKm (by omega) rfl, by dsimp only; rw [hKn]; exact all_snoc hall (by first | exact decide_eq_false (by omega) | (simp; omega))⟩) (by dsimp only; omega)
                    · refine ExD.fork (i := 4) (j := 8) rfl rfl (by kernel_rfl) rfl rfl (Op1.of_free (fr_load rfl rfl rfl rfl (CellO.blk (i := 2) rfl rfl)) rfl rfl ⟨(List.Sublist.cons _ (List.Sublist.cons_cons _ (List.Sublist.cons _ (List.Sublist.cons _ (List.Sublist.refl _))))), ?_⟩) (op_buildSlice (sz := 1) rfl rfl rfl rfl rfl rfl rfl rfl (by decide) rfl rfl rfl (fun r23 => ⟨(List.Sublist.cons _ (List.Sublist.cons _ (List.Sublist.cons_cons _ (List.Sublist.cons _ (List.Sublist.cons _ (List.Sublist.refl _)))))), ?_⟩))
                      · refine ExD.op (i := 8) rfl (by kernel_rfl) rfl (op_buildSlice (sz := 1) rfl rfl rfl rfl rfl rfl rfl rfl (by decide) rfl rfl rfl (fun r24 => ⟨(List.Sublist.cons _ (List.Sublist.cons _ (List.Sublist.cons_cons _ (List.Sublist.cons _ (List.Sublist.cons _ (List.Sublist.refl _)))))), ?_⟩))
                        refine ExD.op (i := 9) rfl (by kernel_rfl) rfl (op_append (sz := 1) (bytes := 24) (i := 4) rfl rfl rfl rfl (Reads.row (i := 0) rfl) rfl (fun e => nomatch e) rfl rfl rfl rfl (by constructor <;> first | omega | (unfold maxLen; omega)) rfl rfl (fun A25 cA25 => ⟨(List.Sublist.cons _ (List.Sublist.cons _ (List.Sublist.cons_cons _ (List.Sublist.cons _ (List.Sublist.cons _ (List.Sublist.refl _)))))), ?_⟩))
                        refine ExD.take (i := 10) rfl (by kernel_rfl) (pureVal_ok rfl) ((List.Sublist.cons _ (List.Sublist.cons _ (List.Sublist.cons_cons _ (List.Sublist.cons _ (List.Sublist.cons _ (List.Sublist.refl _))))))) rfl rfl rfl ?_
                        refine ExD.take (i := 11) rfl (by kernel_rfl) (pureVal_ok rfl) ((List.Sublist.cons _ (List.Sublist.cons _ (List.Sublist.cons_cons _ (List.Sublist.cons _ (List.Sublist.cons _ (List.Sublist.refl _))))))) rfl rfl rfl ?_
                        refine ExD.op (i := 12) rfl (by kernel_rfl) rfl (op_storeC (i := 3) rfl rfl rfl rfl rfl rfl rfl rfl rfl rfl ⟨(List.Sublist.cons _ (List.Sublist.cons _ (List.Sublist.cons_cons _ (List.Sublist.cons _ (List.Sublist.cons _ (List.Sublist.refl _)))))), ?_⟩)
                        refine ExD.done (by kernel_rfl) ?_
                        refine Ex.conv (layEnd (perm_lt (i := 1) (j := 5) rfl rfl rfl)) ?_
                        refine Ex.region (ExL.pures 0 rfl ?_)
                        refine ExL.free (by first | exact fr_add64 rfl rfl rfl (by omega) | exact fr_add rfl rfl rfl) rfl rfl rfl ?_
                        refine ExL.pures 1 rfl ?_
                        refine ExL.nil ?_
                        have hKn : (q.K ++ [(⟨x18.1, x18.2, valsP s (L.getD q.K.length zPh)⟩ : VX Int)]).length = q.K.length + 1 := by simp
                        refine Hand.mk (⟨A25, cA25, q.K ++ [(⟨x18.1, x18.2, valsP s (L.getD q.K.length zPh)⟩ : VX Int)]⟩) 6 [3, 4, 0, 5] ⟨agI (by first | rfl | (simp; done) | (dsimp only; rw [hKn]; rfl)), trivial⟩ ⟨rfl, rfl, rfl, rfl, trivial⟩ (by first | rfl | (simp only [List.map_append, List.flatMap_append, hKn]; rfl)) rfl (⟨by dsimp only; omega, kx_step hKm (by omega) rfl, by dsimp only; rw [hKn]; exact all_snoc hall (by first | exact decide_eq_false (by omega) | (simp; omega))⟩) (by dsimp only; omega)
                      · refine ExD.op (i := 4) rfl (by kernel_rfl) rfl (Op1.of_free (fr_load rfl rfl rfl rfl (CellO.blk (i := 3) rfl rfl)) rfl rfl ⟨(List.Sublist.cons _ (List.Sublist.cons _ (List.Sublist.cons_cons _ (List.Sublist.cons _ (List.Sublist.cons _ (List.Sublist.refl _)))))), ?_⟩)
                        refine ExD.op (i := 9) rfl (by kernel_rfl) rfl (op_append (sz := 1) (bytes := 24) (i := 4) rfl rfl rfl rfl (Reads.row (i := 0) rfl) rfl (fun e => nomatch e) rfl rfl rfl rfl (by constructor <;> first | omega | (unfold maxLen; omega)) rfl rfl (fun A27 cA27 => ⟨(List.Sublist.cons _ (List.Sublist.cons _ (List.Sublist.cons_cons _ (List.Sublist.cons _ (List.Sublist.cons _ (List.Sublist.refl _)))))), ?_⟩))
                        refine ExD.take (i := 10) rfl (by kernel_rfl) (pureVal_ok rfl) ((List.Sublist.cons _ (List.Sublist.cons _ (List.Sublist.cons_cons _ (List.Sublist.cons _ (List.Sublist.cons _ (List.Sublist.refl _))))))) rfl rfl rfl ?_
                        refine ExD.take (i := 11) rfl (by kernel_rfl) (pureVal_ok rfl) ((List.Sublist.cons _ (List.Sublist.cons _ (List.Sublist.cons_cons _ (List.Sublist.cons _ (List.Sublist.cons _ (List.Sublist.refl _))))))) rfl rfl rfl ?_
                        refine ExD.op (i := 12) rfl (by kernel_rfl) rfl (op_storeC (i := 3) rfl rfl rfl rfl rfl rfl rfl rfl rfl rfl ⟨(List.Sublist.cons _ (List.Sublist.cons _ (List.Sublist.cons_cons _ (List.Sublist.cons _ (List.Sublist.cons _ (List.Sublist.refl _)))))), ?_⟩)
                        refine ExD.done (by kernel_rfl) ?_
                        refine Ex.conv (layEnd (perm_lt (i := 1) (j := 5) rfl rfl rfl)) ?_
                        refine Ex.region (ExL.pures 0 rfl ?_)
                        refine ExL.free (by first | exact fr_add64 rfl rfl rfl (by omega) | exact fr_add rfl rfl rfl) rfl rfl rfl ?_
                        refine ExL.pures 1 rfl ?_
                        refine ExL.nil ?_
                        have hKn : (q.K ++ [(⟨x18.1, x18.2, valsP s (L.getD q.K.length zPh)⟩ : VX Int)]).length = q.K.length + 1 := by simp
                        refine Hand.mk (⟨A27, cA27, q.K ++ [(⟨x18.1, x18.2, valsP s (L.getD q.K.length zPh)⟩ : VX Int)]⟩) 6 [3, 4, 0, 5] ⟨agI (by first | rfl | (simp; done) | (dsimp only; rw [hKn]; rfl)), trivial⟩ ⟨rfl, rfl, rfl, rfl, trivial⟩ (by first | rfl | (simp only [List.map_append, List.flatMap_append, hKn]; rfl)) rfl (⟨by dsimp only; omega, kx_step hKm (by omega) rfl, by dsimp only; rw [hKn]; exact all_snoc hall (by first | exact decide_eq_false (by omega) | (simp; omega))⟩) (by dsimp only; omega)
                · refine ExL.nil ?_
                  refine Ex.seq ?_
                  refine Ex.cond_f rfl ?_
                  refine Ex.exit ?_
                  have hKn : q.K.length = L.length := by omega
                  have hKe := kx_fin hKm hKn
                  refine Ex.regSeq (ExL.pures 3 rfl ?_)
                  refine ExL.nil ?_
                  refine Ex.ret ?_
                  refine RetQ.mk ⟨b13, q.A, q.c, q.K⟩ rfl (.tmp rfl (.tmp rfl .nil)) (rfl) [0, 1, 2] (rfl) rfl (hKe)
theorem c_filmOf_f (s : List Int) (hu : Nums 255 s) (As : Option Addr) (cs : Nat) (hls : s.length ≤ maxLen) (L : List VPh) (hLk : ∀ k, k < L.length → OkPh (L.getD k zPh)) (bl cL : Nat) (hlL : L.length ≤ maxLen) (lo hi us : Int) (hc0 : codeF s L lo hi us ≠ 0) : Ret Tryz.prog 71 [.slice As s.length cs, .slice (some ⟨bl, 0, none⟩) L.length cL, .int .i64 lo, .int .i64 hi, .int .i64 us] (fun w => Rd w As (s.flatMap (eI .u8)) ∧ Rd w (some ⟨bl, 0, none⟩) (L.flatMap encPh)) (fun x : Unit => .tuple #[.pointer none, .int .i64 (codeF s L lo hi us)]) (fun x => []) (fun x => True) := by
  refine Ret.of e_71 Tryz.func71 rfl Tryz.ntmps71 rfl rfl (fun w hpre => ?_)
  have hs := hpre.1.base
  have hLr := hpre.2.base
  have hm0 : maxLen = 9223372036854775807 := rfl
  refine Ex.regSeq (ExL.pures 0 rfl ?_)
  refine ExL.op rfl (op_box rfl rfl rfl rfl rfl (fun b1 => ?_))
  refine ExL.pures 2 rfl ?_
  refine ExL.nil ?_
  refine Ex.seq ?_
  refine Ex.regSeq (ExL.pures 0 rfl ?_)
  refine ExL.free (fr_load rfl rfl rfl rfl (CellO.blk (i := 0) rfl rfl)) rfl rfl rfl ?_
  refine ExL.op rfl (op_ret rfl rfl rfl (c_ValidStack _ (by assumption) _ _ (by first | assumption | omega | (unfold maxLen; omega))) (Reads.get (Reads.old hs)) rfl rfl (fun x2 hx2 => ?_))
  refine ExL.pures 2 rfl ?_
  refine ExL.bool (d := 18) rfl (fun hb3 => ?_) (fun hb3 => ?_)
  · replace hb3 := nb_t hb3
    refine ExL.pures 4 rfl ?_
    refine ExL.nil ?_
    refine Ex.cond_t rfl ?_
    refine Ex.regSeq (ExL.pures 2 rfl ?_)
    refine ExL.nil ?_
    refine Ex.ret ?_
    refine RetQ.mk () rfl (.tmp rfl (.tmp rfl .nil)) (t2 rfl (vI (by first | (rw [bad_1 (by assumption)]; first | done | rfl) | (rw [bad_2 (by assumption)]; first | done | rfl) | (rw [bad_3 (by assumption) (by assumption) (by omega)]; first | done | rfl) | (rw [bad_4 (k := q.K.length) hv hnb (by omega) (by omega) (by omega)]; first | done | rfl)))) [] (rfl) rfl (trivial)
  · replace hb3 := nb_f hb3
    refine ExL.pures 1 rfl ?_
    refine ExL.free (fr_makeFunc rfl rfl rfl) rfl rfl rfl ?_
    refine ExL.op rfl (op_ret rfl rfl rfl (c_plContainsFunc s (by first | exact hv | assumption) As cs _ L hLk _ _ (by omega)) (fun w hw => ⟨Reads.get (Reads.old hLr) w hw, Reads.get (Reads.blk (i := 0) rfl) w hw, Reads.get (Reads.old hs) w hw⟩) rfl rfl (fun x4 hx4 => ?_))
    refine ExL.pures 1 rfl ?_
    refine ExL.nil ?_
    refine Ex.cond rfl (fun hb5 => ?_) (fun hb5 => ?_)
    · refine Ex.regSeq (ExL.pures 2 rfl ?_)
      refine ExL.nil ?_
      refine Ex.ret ?_
      refine RetQ.mk () rfl (.tmp rfl (.tmp rfl .nil)) (t2 rfl (vI (by first | (rw [bad_1 (by assumption)]; first | done | rfl) | (rw [bad_2 (by assumption)]; first | done | rfl) | (rw [bad_3 (by assumption) (by assumption) (by omega)]; first | done | rfl) | (rw [bad_4 (k := q.K.length) hv hnb (by omega) (by omega) (by omega)]; first | done | rfl)))) [] (rfl) rfl (trivial)
    · refine Ex.skip ?_
      refine Ex.seq ?_
      refine Ex.regSeq (ExL.pures 2 rfl ?_)
      refine ExL.op rfl (op_ret rfl rfl rfl (c_within _ _ _) (fun _ _ => trivial) rfl rfl (fun x6 hx6 => ?_))
      refine ExL.pures 2 rfl ?_
      refine ExL.bool (d := 27) rfl (fun hb7 => ?_) (fun hb7 => ?_)
      · replace hb7 := nd_t hb7
        refine ExL.pures 19 rfl ?_
        refine ExL.nil ?_
        refine Ex.cond_t rfl ?_
        refine Ex.regSeq (ExL.pures 2 rfl ?_)
        refine ExL.nil ?_
        refine Ex.ret ?_
        refine RetQ.mk () rfl (.tmp rfl (.tmp rfl .nil)) (t2 rfl (vI (by first | (rw [bad_1 (by assumption)]; first | done | rfl) | (rw [bad_2 (by assumption)]; first | done | rfl) | (rw [bad_3 (by assumption) (by assumption) (by omega)]; first | done | rfl) | (rw [bad_4 (k := q.K.length) hv hnb (by omega) (by omega) (by omega)]; first | done | rfl)))) [] (rfl) rfl (trivial)
      · replace hb7 := nd_f hb7
        refine ExL.pures 1 rfl ?_
        refine ExL.lss rfl rfl rfl rfl rfl rfl (fun h8 => ?_) (fun h8 => ?_)
        · refine ExL.pures 17 rfl ?_
          refine ExL.nil ?_
          refine Ex.cond_t rfl ?_
          refine Ex.regSeq (ExL.pures 2 rfl ?_)
          refine ExL.nil ?_
          refine Ex.ret ?_
          refine RetQ.mk () rfl (.tmp rfl (.tmp rfl .nil)) (t2 rfl (vI (by first | (rw [bad_1 (by assumption)]; first | done | rfl) | (rw [bad_2 (by assumption)]; first | done | rfl) | (rw [bad_3 (by assumption) (by assumption) (by omega)]; first | done | rfl) | (rw [bad_4 (k := q.K.length) hv hnb (by omega) (by omega) (by omega)]; first | done | rfl)))) [] (rfl) rfl (trivial)
        · refine ExL.pures 4 rfl ?_
          refine ExL.gtr rfl rfl rfl rfl rfl rfl (fun h9 => ?_) (fun h9 => ?_)
          · refine ExL.pures 12 rfl ?_
            refine ExL.nil ?_
            refine Ex.cond_t rfl ?_
            refine Ex.regSeq (ExL.pures 2 rfl ?_)
            refine ExL.nil ?_
            refine Ex.ret ?_
            refine RetQ.mk () rfl (.tmp rfl (.tmp rfl .nil)) (t2 rfl (vI (by first | (rw [bad_1 (by assumption)]; first | done | rfl) | (rw [bad_2 (by assumption)]; first | done | rfl) | (rw [bad_3 (by assumption) (by assumption) (by omega)]; first | done | rfl) | (rw [bad_4 (k := q.K.length) hv hnb (by omega) (by omega) (by omega)]; first | done | rfl)))) [] (rfl) rfl (trivial)
          · refine ExL.pures 3 rfl ?_
            refine ExL.gtr rfl rfl rfl rfl rfl rfl (fun h10 => ?_) (fun h10 => ?_)
            · refine ExL.pures 8 rfl ?_
              refine ExL.nil ?_
              refine Ex.cond_t rfl ?_
              refine Ex.regSeq (ExL.pures 2 rfl ?_)
              refine ExL.nil ?_
              refine Ex.ret ?_
              refine RetQ.mk () rfl (.tmp rfl (.tmp rfl .nil)) (t2 rfl (vI (by first | (rw [bad_1 (by assumption)]; first | done | rfl) | (rw [bad_2 (by assumption)]; first | done | rfl) | (rw [bad_3 (by assumption) (by assumption) (by omega)]; first | done | rfl) | (rw [bad_4 (k := q.K.length) hv hnb (by omega) (by omega) (by omega)]; first | done | rfl)))) [] (rfl) rfl (trivial)
            · refine ExL.pures 5 rfl ?_
              refine ExL.op rfl (op_ret rfl rfl rfl (c_within _ _ _) (fun _ _ => trivial) rfl rfl (fun x11 hx11 => ?_))
              refine ExL.pures 2 rfl ?_
              refine ExL.nil ?_
              refine Ex.cond rfl (fun hb12 => ?_) (fun hb12 => ?_)
              · replace hb12 := nd_t hb12
                refine Ex.regSeq (ExL.pures 2 rfl ?_)
                refine ExL.nil ?_
                refine Ex.ret ?_
                refine RetQ.mk () rfl (.tmp rfl (.tmp rfl .nil)) (t2 rfl (vI (by first | (rw [bad_1 (by assumption)]; first | done | rfl) | (rw [bad_2 (by assumption)]; first | done | rfl) | (rw [bad_3 (by assumption) (by assumption) (by omega)]; first | done | rfl) | (rw [bad_4 (k := q.K.length) hv hnb (by omega) (by omega) (by omega)]; first | done | rfl)))) [] (rfl) rfl (trivial)
              · replace hb12 := nd_f hb12
                refine Ex.skip ?_
                have hv : validStack s = true := by first | assumption | simp_all
                have hnb : badP s L = false := by first | assumption | simp_all
                have hS := stk hv
                have hLp := okLp hLk hv hnb
                refine Ex.regSeq (ExL.pures 2 rfl ?_)
                refine ExL.free (fr_build rfl rfl rfl rfl) rfl rfl rfl ?_
                refine ExL.op rfl (op_box rfl rfl rfl rfl rfl (fun b13 => ?_))
                refine ExL.pures 1 rfl ?_
                refine ExL.nil ?_
                refine Ex.seq ?_
                refine Ex.nilRow 129 1 ?_
                refine Ex.pile0 ?_
                refine Ex.regSeq (ExL.pures 3 rfl ?_)
                refine ExL.nil ?_
                refine Ex.block ?_
                refine Ex.loopK (X := FSt) (fun q => [(53, .int .i64 q.K.length)]) (fun q => [.blk b13 [.slice q.A q.K.length q.c, .int .i64 lo, .int .i64 hi] 132, .row (.slice q.A q.K.length q.c) 129 1 q.K.length (q.K.flatMap encX), .pile (q.K.map (rwX (eI .i64) 2 1))]) (fun q => q.K.length ≤ L.length ∧ q.K.map (·.xs) = (filmL s L).take q.K.length ∧ ∀ i, i < q.K.length → decide (400 < choV (L.getD i zPh).l s.length) = false) (fun q => L.length - q.K.length) ⟨none, 0, []⟩ [(5, _), (12, _), (51, _), (52, _)] [_] 4 [2, 1, 0, 3] ⟨rfl, trivial⟩ ⟨rfl, rfl, rfl, rfl, trivial⟩ (rfl) rfl ⟨Nat.zero_le _, rfl, fun i hi => by simp at hi⟩ (fun q hI => ?_)
                have hI : q.K.length ≤ L.length ∧ q.K.map (·.xs) = (filmL s L).take q.K.length ∧ ∀ i, i < q.K.length → decide (400 < choV (L.getD i zPh).l s.length) = false := hI
                obtain ⟨hK, hKm, hall⟩ := hI
                refine Ex.regSeq (ExL.pures 0 rfl ?_)
                refine ExL.lss rfl rfl rfl rfl rfl rfl (fun h14 => ?_) (fun h14 => ?_)
                · refine ExL.nil ?_
                  refine Ex.seq ?_
                  refine Ex.cond_t rfl ?_
                  refine Ex.skip ?_
                  refine Ex.seq ?_
                  refine Ex.block ?_
                  refine Ex.regSeq (ExL.pures 0 rfl ?_)
                  refine ExL.free (fr_indexAddrF (Reads.old hLr) encPh_len rfl rfl rfl rfl rfl rfl (by omega)) rfl rfl rfl ?_
                  refine ExL.free (fr_loadN rfl rfl rfl rfl rfl (by first | exact segN (Reads.old hLr) encPh_len rfl zPh (by omega) | exact segF (Reads.old hLr) encPh_len rfl zPh (by omega))) rfl rfl rfl ?_
                  refine ExL.op rfl (op_alloc rfl rfl rfl rfl rfl (fun b15 => ?_))
                  refine ExL.op rfl (op_storeC (i := 0) rfl rfl rfl rfl rfl rfl rfl rfl rfl rfl ?_)
                  refine ExL.nil ?_
                  refine Ex.seq ?_
                  refine Ex.regSeq (ExL.pures 0 rfl ?_)
                  refine ExL.free (fr_load rfl rfl rfl rfl (CellO.blk (i := 4) rfl rfl)) rfl rfl rfl ?_
                  refine ExL.pures 1 rfl ?_
                  refine ExL.op rfl (op_ret rfl rfl rfl (c_choices s (by first | assumption | exact stk (by assumption)) (L.getD q.K.length zPh) (hLp _ (by omega)) (hLk _ (by omega)) _ _ s.length (by omega)) (Reads.get (Reads.blk (i := 0) rfl)) rfl rfl (fun x16 hx16 => ?_))
                  refine ExL.gtr rfl rfl rfl rfl rfl rfl (fun h17 => ?_) (fun h17 => ?_)
                  · refine ExL.nil ?_
                    refine Ex.cond_t rfl ?_
                    refine Ex.regSeq (ExL.pures 2 rfl ?_)
                    refine ExL.nil ?_
                    refine Ex.ret ?_
                    refine RetQ.mk () rfl (.tmp rfl (.tmp rfl .nil)) (t2 rfl (vI (by first | (rw [bad_1 (by assumption)]; first | done | rfl) | (rw [bad_2 (by assumption)]; first | done | rfl) | (rw [bad_3 (by assumption) (by assumption) (by omega)]; first | done | rfl) | (rw [bad_4 (k := q.K.length) hv hnb (by omega) (by omega) (by omega)]; first | done | rfl)))) [] (rfl) rfl (trivial)
                  · refine ExL.nil ?_
                    refine Ex.cond_f rfl ?_
                    refine Ex.skip ?_
                    refine Ex.drawI [0, 3, 4] rfl rfl ?_
                    refine ExD.take (i := 0) rfl (by kernel_rfl) (pureVal_ok rfl) ((List.Sublist.cons_cons _ (List.Sublist.cons _ (List.Sublist.cons _ (List.Sublist.refl _))))) rfl rfl rfl ?_
                    refine ExD.take (i := 1) rfl (by kernel_rfl) (pureVal_ok rfl) ((List.Sublist.cons_cons _ (List.Sublist.cons _ (List.Sublist.cons _ (List.Sublist.refl _))))) rfl rfl rfl ?_
                    refine ExD.take (i := 2) rfl (by kernel_rfl) (pureVal_ok rfl) ((List.Sublist.cons_cons _ (List.Sublist.cons _ (List.Sublist.cons _ (List.Sublist.refl _))))) rfl rfl rfl ?_
                    refine ExD.take (i := 3) rfl (by kernel_rfl) (pureVal_ok rfl) ((List.Sublist.cons_cons _ (List.Sublist.cons _ (List.Sublist.cons _ (List.Sublist.refl _))))) rfl rfl rfl ?_
                    refine ExD.take (i := 5) rfl (by kernel_rfl) (fr_load rfl rfl rfl rfl (CellO.blk (i := 2) rfl rfl)) ((List.Sublist.cons_cons _ (List.Sublist.cons _ (List.Sublist.cons _ (List.Sublist.refl _))))) rfl rfl rfl ?_
                    refine ExD.take (i := 6) rfl (by kernel_rfl) (fr_loadN rfl rfl rfl rfl rfl (SegO.whole (i := 0) rfl)) ((List.Sublist.cons_cons _ (List.Sublist.cons _ (List.Sublist.cons _ (List.Sublist.refl _))))) rfl rfl rfl ?_
                    refine ExD.fork (i := 4) (j := 7) rfl rfl (by kernel_rfl) rfl rfl (Op1.of_free (fr_load rfl rfl rfl rfl (CellO.blk (i := 1) rfl rfl)) rfl rfl ⟨(List.Sublist.cons_cons _ (List.Sublist.cons _ (List.Sublist.cons _ (List.Sublist.refl _)))), ?_⟩) (op_ret rfl rfl rfl (c_values s (by first | assumption | simp_all) _ _ (L.getD q.K.length zPh) (hLk _ (by omega)) (hLp _ (by omega))) (Reads.get (Reads.old hs)) rfl rfl (fun x18 hx18 => ⟨(List.Sublist.cons _ (List.Sublist.cons_cons _ (List.Sublist.cons _ (List.Sublist.cons _ (List.Sublist.refl _))))), ?_⟩))
                    · refine ExD.op (i := 7) rfl (by kernel_rfl) rfl (op_ret rfl rfl rfl (c_values s (by first | assumption | simp_all) _ _ (L.getD q.K.length zPh) (hLk _ (by omega)) (hLp _ (by omega))) (Reads.get (Reads.old hs)) rfl rfl (fun x19 hx19 => ⟨(List.Sublist.cons _ (List.Sublist.cons_cons _ (List.Sublist.cons _ (List.Sublist.cons _ (List.Sublist.refl _))))), ?_⟩))
                      refine ExD.op (i := 8) rfl (by kernel_rfl) rfl (op_buildSlice (sz := 1) rfl rfl rfl rfl rfl rfl rfl rfl (by decide) rfl rfl rfl (fun r20 => ⟨(List.Sublist.cons _ (List.Sublist.cons _ (List.Sublist.cons_cons _ (List.Sublist.cons _ (List.Sublist.cons _ (List.Sublist.refl _)))))), ?_⟩))
                      refine ExD.op (i := 9) rfl (by kernel_rfl) rfl (op_append (sz := 1) (bytes := 24) (i := 4) rfl rfl rfl rfl (Reads.row (i := 0) rfl) rfl (fun e => nomatch e) rfl rfl rfl rfl (by constructor <;> first | omega | (unfold maxLen; omega)) rfl rfl (fun A21 cA21 => ⟨(List.Sublist.cons _ (List.Sublist.cons _ (List.Sublist.cons_cons _ (List.Sublist.cons _ (List.Sublist.cons _ (List.Sublist.refl _)))))), ?_⟩))
                      refine ExD.take (i := 10) rfl (by kernel_rfl) (pureVal_ok rfl) ((List.Sublist.cons _ (List.Sublist.cons _ (List.Sublist.cons_cons _ (List.Sublist.cons _ (List.Sublist.cons _ (List.Sublist.refl _))))))) rfl rfl rfl ?_
                      refine ExD.take (i := 11) rfl (by kernel_rfl) (pureVal_ok rfl) ((List.Sublist.cons _ (List.Sublist.cons _ (List.Sublist.cons_cons _ (List.Sublist.cons _ (List.Sublist.cons _ (List.Sublist.refl _))))))) rfl rfl rfl ?_
                      refine ExD.op (i := 12) rfl (by kernel_rfl) rfl (op_storeC (i := 3) rfl rfl rfl rfl rfl rfl rfl rfl rfl rfl ⟨(List.Sublist.cons _ (List.Sublist.cons _ (List.Sublist.cons_cons _ (List.Sublist.cons _ (List.Sublist.cons _ (List.Sublist.refl _)))))), ?_⟩)
                      refine ExD.done (by kernel_rfl) ?_
                      refine Ex.conv (layEnd (perm_lt (i := 1) (j := 5) rfl rfl rfl)) ?_
                      refine Ex.region (ExL.pures 0 rfl ?_)
                      refine ExL.free (by first | exact fr_add64 rfl rfl rfl (by omega) | exact fr_add rfl rfl rfl) rfl rfl rfl ?_
                      refine ExL.pures 1 rfl ?_
                      refine ExL.nil ?_
                      have hKn : (q.K ++ [(⟨x19.1, x19.2, valsP s (L.getD q.K.length zPh)⟩ : VX Int)]).length = q.K.length + 1 := by simp
                      refine Hand.mk (⟨A21, cA21, q.K ++ [(⟨x19.1, x19.2, valsP s (L.getD q.K.length zPh)⟩ : VX Int)]⟩) 6 [3, 4, 0, 5] ⟨agI (by first | rfl | (simp; done) | (dsimp only; rw [hKn]; rfl)), trivial⟩ ⟨rfl, rfl, rfl, rfl, trivial⟩ (by first | rfl | (simp only [List.map_append, List.flatMap_append, hKn]; rfl)) rfl (⟨by dsimp only; omega, kx_step hKm (by omega) rfl, by dsimp only; rw [hKn]; exact all_snoc hall (by first | exact decide_eq_false (by omega) | (simp; omega))⟩) (by dsimp only; omega)
                    · refine ExD.fork (i := 4) (j := 8) rfl rfl (by kernel_rfl) rfl rfl (Op1.of_free (fr_load rfl rfl rfl rfl (CellO.blk (i := 2) rfl rfl)) rfl rfl ⟨(List.Sublist.cons _ (List.Sublist.cons_cons _ (List.Sublist.cons _ (List.Sublist.cons _ (List.Sublist.refl _))))), ?_⟩) (op_buildSlice (sz := 1) rfl rfl rfl rfl rfl rfl rfl rfl (by decide) rfl rfl rfl (fun r23 => ⟨(List.Sublist.cons _ (List.Sublist.cons _ (List.Sublist.cons_cons _ (List.Sublist.cons _ (List.Sublist.cons _ (List.Sublist.refl _)))))), ?_⟩))
                      · refine ExD.op (i := 8) rfl (by kernel_rfl) rfl (op_buildSlice (sz := 1) rfl rfl rfl rfl rfl rfl rfl rfl (by decide) rfl rfl rfl (fun r24 => ⟨(List.Sublist.cons _ (List.Sublist.cons _ (List.Sublist.cons_cons _ (List.Sublist.cons _ (List.Sublist.cons _ (List.Sublist.refl _)))))), ?_⟩))
                        refine ExD.op (i := 9) rfl (by kernel_rfl) rfl (op_append (sz := 1) (bytes := 24) (i := 4) rfl rfl rfl rfl (Reads.row (i := 0) rfl) rfl (fun e => nomatch e) rfl rfl rfl rfl (by constructor <;> first | omega | (unfold maxLen; omega)) rfl rfl (fun A25 cA25 => ⟨(List.Sublist.cons _ (List.Sublist.cons _ (List.Sublist.cons_cons _ (List.Sublist.cons _ (List.Sublist.cons _ (List.Sublist.refl _)))))), ?_⟩))
                        refine ExD.take (i := 10) rfl (by kernel_rfl) (pureVal_ok rfl) ((List.Sublist.cons _ (List.Sublist.cons _ (List.Sublist.cons_cons _ (List.Sublist.cons _ (List.Sublist.cons _ (List.Sublist.refl _))))))) rfl rfl rfl ?_
                        refine ExD.take (i := 11) rfl (by kernel_rfl) (pureVal_ok rfl) ((List.Sublist.cons _ (List.Sublist.cons _ (List.Sublist.cons_cons _ (List.Sublist.cons _ (List.Sublist.cons _ (List.Sublist.refl _))))))) rfl rfl rfl ?_
                        refine ExD.op (i := 12) rfl (by kernel_rfl) rfl (op_storeC (i := 3) rfl rfl rfl rfl rfl rfl rfl rfl rfl rfl ⟨(List.Sublist.cons _ (List.Sublist.cons _ (List.Sublist.cons_cons _ (List.Sublist.cons _ (List.Sublist.cons _ (List.Sublist.refl _)))))), ?_⟩)
                        refine ExD.done (by kernel_rfl) ?_
                        refine Ex.conv (layEnd (perm_lt (i := 1) (j := 5) rfl rfl rfl)) ?_
                        refine Ex.region (ExL.pures 0 rfl ?_)
                        refine ExL.free (by first | exact fr_add64 rfl rfl rfl (by omega) | exact fr_add rfl rfl rfl) rfl rfl rfl ?_
                        refine ExL.pures 1 rfl ?_
                        refine ExL.nil ?_
                        have hKn : (q.K ++ [(⟨x18.1, x18.2, valsP s (L.getD q.K.length zPh)⟩ : VX Int)]).length = q.K.length + 1 := by simp
                        refine Hand.mk (⟨A25, cA25, q.K ++ [(⟨x18.1, x18.2, valsP s (L.getD q.K.length zPh)⟩ : VX Int)]⟩) 6 [3, 4, 0, 5] ⟨agI (by first | rfl | (simp; done) | (dsimp only; rw [hKn]; rfl)), trivial⟩ ⟨rfl, rfl, rfl, rfl, trivial⟩ (by first | rfl | (simp only [List.map_append, List.flatMap_append, hKn]; rfl)) rfl (⟨by dsimp only; omega, kx_step hKm (by omega) rfl, by dsimp only; rw [hKn]; exact all_snoc hall (by first | exact decide_eq_false (by omega) | (simp; omega))⟩) (by dsimp only; omega)
                      · refine ExD.op (i := 4) rfl (by kernel_rfl) rfl (Op1.of_free (fr_load rfl rfl rfl rfl (CellO.blk (i := 3) rfl rfl)) rfl rfl ⟨(List.Sublist.cons _ (List.Sublist.cons _ (List.Sublist.cons_cons _ (List.Sublist.cons _ (List.Sublist.cons _ (List.Sublist.refl _)))))), ?_⟩)
                        refine ExD.op (i := 9) rfl (by kernel_rfl) rfl (op_append (sz := 1) (bytes := 24) (i := 4) rfl rfl rfl rfl (Reads.row (i := 0) rfl) rfl (fun e => nomatch e) rfl rfl rfl rfl (by constructor <;> first | omega | (unfold maxLen; omega)) rfl rfl (fun A27 cA27 => ⟨(List.Sublist.cons _ (List.Sublist.cons _ (List.Sublist.cons_cons _ (List.Sublist.cons _ (List.Sublist.cons _ (List.Sublist.refl _)))))), ?_⟩))
                        refine ExD.take (i := 10) rfl (by kernel_rfl) (pureVal_ok rfl) ((List.Sublist.cons _ (List.Sublist.cons _ (List.Sublist.cons_cons _ (List.Sublist.cons _ (List.Sublist.cons _ (List.Sublist.refl _))))))) rfl rfl rfl ?_
                        refine ExD.take (i := 11) rfl (by kernel_rfl) (pureVal_ok rfl) ((List.Sublist.cons _ (List.Sublist.cons _ (List.Sublist.cons_cons _ (List.Sublist.cons _ (List.Sublist.cons _ (List.Sublist.refl _))))))) rfl rfl rfl ?_
                        refine ExD.op (i := 12) rfl (by kernel_rfl) rfl (op_storeC (i := 3) rfl rfl rfl rfl rfl rfl rfl rfl rfl rfl ⟨(List.Sublist.cons _ (List.Sublist.cons _ (List.Sublist.cons_cons _ (List.Sublist.cons _ (List.Sublist.cons _ (List.Sublist.refl _)))))), ?_⟩)
                        refine ExD.done (by kernel_rfl) ?_
                        refine Ex.conv (layEnd (perm_lt (i := 1) (j := 5) rfl rfl rfl)) ?_
                        refine Ex.region (ExL.pures 0 rfl ?_)
                        refine ExL.free (by first | exact fr_add64 rfl rfl rfl (by omega) | exact fr_add rfl rfl rfl) rfl rfl rfl ?_
                        refine ExL.pures 1 rfl ?_
                        refine ExL.nil ?_
                        have hKn : (q.K ++ [(⟨x18.1, x18.2, valsP s (L.getD q.K.length zPh)⟩ : VX Int)]).length = q.K.length + 1 := by simp
                        refine Hand.mk (⟨A27, cA27, q.K ++ [(⟨x18.1, x18.2, valsP s (L.getD q.K.length zPh)⟩ : VX Int)]⟩) 6 [3, 4, 0, 5] ⟨agI (by first | rfl | (simp; done) | (dsimp only; rw [hKn]; rfl)), trivial⟩ ⟨rfl, rfl, rfl, rfl, trivial⟩ (by first | rfl | (simp only [List.map_append, List.flatMap_append, hKn]; rfl)) rfl (⟨by dsimp only; omega, kx_step hKm (by omega) rfl, by dsimp only; rw [hKn]; exact all_snoc hall (by first | exact decide_eq_false (by omega) | (simp; omega))⟩) (by dsimp only; omega)
                · refine ExL.nil ?_
                  refine Ex.seq ?_
                  refine Ex.cond_f rfl ?_
                  refine Ex.exit ?_
                  have hKn : q.K.length = L.length := by omega
                  have hKe := kx_fin hKm hKn
                  exfalso; exact hc0 (cf_all hv hnb (by omega) (k := q.K.length) (by omega) hall)
theorem e_72 : Enters Tryz.prog 72 := Enters.of Tryz.func72 rfl
theorem c_goes (v0 : Value) (lo hi : Int) (hlh : 0 ≤ lo ∧ hi ≤ 1000000000000) (b : Nat) (u v : Int) (hu : 0 ≤ u ∧ u ≤ 1000000000000) (hv : 0 ≤ v ∧ v ≤ 1000000000000) : Ret Tryz.prog 72 [.pointer (some ⟨b, 0, none⟩), .int .i64 u, .int .i64 v] (fun w => Rd w (some ⟨b, 0, none⟩) [v0, .int .i64 lo, .int .i64 hi]) (fun x : Unit => .bool (goesB lo hi u v)) (fun x => []) (fun x => True) := by
  refine Ret.of e_72 Tryz.func72 rfl Tryz.ntmps72 rfl rfl (fun w hpre => ?_)
  have hpt := hpre.base
  refine Ex.regSeq (ExL.pures 1 rfl ?_)
  refine ExL.nil ?_
  refine Ex.drawSeqM rfl ?_
  refine ExD.take (i := 0) rfl (by kernel_rfl) (pureVal_ok rfl) ((List.Sublist.refl _)) rfl rfl rfl ?_
  refine ExD.take (i := 1) rfl (by kernel_rfl) (pureVal_ok rfl) ((List.Sublist.refl _)) rfl rfl rfl ?_
  refine ExD.take (i := 2) rfl (by kernel_rfl) (by first | exact fr_sub64 rfl rfl rfl (by omega) | exact fr_sub rfl rfl rfl) ((List.Sublist.refl _)) rfl rfl rfl ?_
  refine ExD.take (i := 3) rfl (by kernel_rfl) (pureVal_ok rfl) ((List.Sublist.refl _)) rfl rfl rfl ?_
  refine ExD.take (i := 4) rfl (by kernel_rfl) (pureVal_ok rfl) ((List.Sublist.refl _)) rfl rfl rfl ?_
  refine ExD.take (i := 5) rfl (by kernel_rfl) (pureVal_ok rfl) ((List.Sublist.refl _)) rfl rfl rfl ?_
  refine ExD.take (i := 6) rfl (by kernel_rfl) (fr_load rfl rfl rfl rfl (CellO.at 1 (Reads.old hpt) rfl)) ((List.Sublist.refl _)) rfl rfl rfl ?_
  refine ExD.take (i := 7) rfl (by kernel_rfl) (pureVal_ok rfl) ((List.Sublist.refl _)) rfl rfl rfl ?_
  refine ExD.take (i := 8) rfl (by kernel_rfl) (pureVal_ok rfl) ((List.Sublist.refl _)) rfl rfl rfl ?_
  refine ExD.take (i := 9) rfl (by kernel_rfl) (pureVal_ok rfl) ((List.Sublist.refl _)) rfl rfl rfl ?_
  refine ExD.take (i := 10) rfl (by kernel_rfl) (fr_load rfl rfl rfl rfl (CellO.at 2 (Reads.old hpt) rfl)) ((List.Sublist.refl _)) rfl rfl rfl ?_
  refine ExD.op (i := 11) rfl (by kernel_rfl) rfl (op_ret rfl rfl rfl (c_within _ _ _) (fun _ _ => trivial) rfl rfl (fun x1 hx1 => ⟨(List.Sublist.refl _), ?_⟩))
  refine ExD.take (i := 12) rfl (by kernel_rfl) (pureVal_ok rfl) ((List.Sublist.refl _)) rfl rfl rfl ?_
  refine ExD.done (by kernel_rfl) ?_
  refine Ex.ret ?_
  refine RetQ.mk () rfl (.tmp rfl .nil) (rfl) [] (rfl) rfl (trivial)
end Go.Proofs.YtfcmehdmbfhodaaGreat

/- What these functions of the program hand back, each proved by walking its operations. -/
set_option linter.unusedVariables false
set_option linter.unusedSimpArgs false
set_option maxRecDepth 4000
namespace Go.Proofs.YtfcmehdmbfhodaaGreat
open Go Go.Sx Go.RowKit Go.W Go.Proofs
attribute [local irreducible] Ex ExL ExD Op1 Free RetQ MutQ Reads CellO SegO LoadsAs
end Go.Proofs.YtfcmehdmbfhodaaGreat

/- What these functions of the program hand back, each proved by walking its operations. -/
set_option linter.unusedVariables false
set_option linter.unusedSimpArgs false
set_option maxRecDepth 4000
namespace Go.Proofs.YtfcmehdmbfhodaaGreat
open Go Go.Sx Go.RowKit Go.W Go.Proofs
attribute [local irreducible] Ex ExL ExD Op1 Free RetQ MutQ Reads CellO SegO LoadsAs
end Go.Proofs.YtfcmehdmbfhodaaGreat

/- What these functions of the program hand back, each proved by walking its operations. -/
set_option linter.unusedVariables false
set_option linter.unusedSimpArgs false
set_option maxRecDepth 4000
namespace Go.Proofs.YtfcmehdmbfhodaaGreat
open Go Go.Sx Go.RowKit Go.W Go.Proofs
attribute [local irreducible] Ex ExL ExD Op1 Free RetQ MutQ Reads CellO SegO LoadsAs
end Go.Proofs.YtfcmehdmbfhodaaGreat

/- What these functions of the program hand back, each proved by walking its operations. -/
set_option linter.unusedVariables false
set_option linter.unusedSimpArgs false
set_option maxRecDepth 4000
namespace Go.Proofs.YtfcmehdmbfhodaaGreat
open Go Go.Sx Go.RowKit Go.W Go.Proofs
attribute [local irreducible] Ex ExL ExD Op1 Free RetQ MutQ Reads CellO SegO LoadsAs
theorem e_26 : Enters Tryz.prog 26 := Enters.of Tryz.func26 rfl
theorem c_iWays_f (s : List Int) (hu : Nums 255 s) (As : Option Addr) (cs : Nat) (hls : s.length ≤ maxLen) (L : List VPh) (hLk : ∀ k, k < L.length → OkPh (L.getD k zPh)) (bl cL : Nat) (hlL : L.length ≤ maxLen) (lo hi : Int) (hc0 : codeF s L lo hi lo ≠ 0) : Ret Tryz.prog 26 [.slice As s.length cs, .slice (some ⟨bl, 0, none⟩) L.length cL, .int .i64 lo, .int .i64 hi] (fun w => Rd w As (s.flatMap (eI .u8)) ∧ Rd w (some ⟨bl, 0, none⟩) (L.flatMap encPh)) (fun x : Unit => .tuple #[.int .i64 (waysV s L lo hi).1, .int .i64 (waysV s L lo hi).2]) (fun x => []) (fun x => True) := by
  refine Ret.of e_26 Tryz.func26 rfl Tryz.ntmps26 rfl rfl (fun w hpre => ?_)
  have hs := hpre.1.base
  have hLr := hpre.2.base
  have hm0 : maxLen = 9223372036854775807 := rfl
  refine Ex.regSeq (ExL.pures 2 rfl ?_)
  refine ExL.nil ?_
  refine Ex.regSeq (ExL.pures 5 rfl ?_)
  refine ExL.op rfl (op_ret rfl rfl rfl (c_filmOf_f s (by assumption) _ _ (by omega) L (by assumption) _ _ (by omega) lo hi lo hc0) (fun w hw => ⟨Reads.get (Reads.old hs) w hw, Reads.get (Reads.old hLr) w hw⟩) rfl rfl (fun x1 hx1 => ?_))
  refine ExL.pures 5 rfl ?_
  refine ExL.nil ?_
  refine Ex.seq ?_
  refine Ex.regSeq (ExL.pures 1 rfl ?_)
  refine ExL.neq rfl rfl rfl rfl rfl rfl (fun h2 => ?_) (fun h2 => ?_)
  · refine ExL.nil ?_
    refine Ex.cond_t rfl ?_
    refine Ex.regSeq (ExL.pures 3 rfl ?_)
    refine ExL.nil ?_
    refine Ex.ret ?_
    refine RetQ.mk () rfl (.tmp rfl (.tmp rfl .nil)) (t2 (vI (by first | (rw [wv_c hc0]; first | done | rfl))) (vI (by first | (rw [wv_c hc0]; first | done | rfl)))) [] (rfl) rfl (trivial)
  · refine ExL.nil ?_
    refine Ex.cond_f rfl ?_
    refine Ex.skip ?_
    exfalso; omega
theorem c_iWays_t (s : List Int) (hu : Nums 255 s) (As : Option Addr) (cs : Nat) (hls : s.length ≤ maxLen) (L : List VPh) (hLk : ∀ k, k < L.length → OkPh (L.getD k zPh)) (bl cL : Nat) (hlL : L.length ≤ maxLen) (lo hi : Int) (hc0 : codeF s L lo hi lo = 0) : Ret Tryz.prog 26 [.slice As s.length cs, .slice (some ⟨bl, 0, none⟩) L.length cL, .int .i64 lo, .int .i64 hi] (fun w => Rd w As (s.flatMap (eI .u8)) ∧ Rd w (some ⟨bl, 0, none⟩) (L.flatMap encPh)) (fun x : Unit => .tuple #[.int .i64 (waysV s L lo hi).1, .int .i64 (waysV s L lo hi).2]) (fun x => []) (fun x => True) := by
  refine Ret.of e_26 Tryz.func26 rfl Tryz.ntmps26 rfl rfl (fun w hpre => ?_)
  have hs := hpre.1.base
  have hLr := hpre.2.base
  have hm0 : maxLen = 9223372036854775807 := rfl
  have hLo : ∀ p ∈ L, OkPh p := fun p hp => by obtain ⟨i, hi, rfl⟩ := List.getElem_of_mem hp; have := hLk i hi; simpa [List.getD, hi] using this
  have hF := film hLo hc0
  have hl0 := hF.l0
  have hlh := hF.le
  have hh1 := hF.h1
  have hS := hF.st
  have hv := hF.vs
  have hn1 := hF.len
  refine Ex.regSeq (ExL.pures 2 rfl ?_)
  refine ExL.nil ?_
  refine Ex.regSeq (ExL.pures 5 rfl ?_)
  refine ExL.op rfl (op_ret rfl rfl rfl (c_filmOf_t s (by assumption) _ _ (by omega) L (by assumption) _ _ (by omega) lo hi lo hc0) (fun w hw => ⟨Reads.get (Reads.old hs) w hw, Reads.get (Reads.old hLr) w hw⟩) rfl rfl (fun x1 hx1 => ?_))
  have hfk := fk hF hx1
  have hkl := hfk.len
  have hfv := hfk.v
  have hfl := hfk.vl
  refine ExL.pures 5 rfl ?_
  refine ExL.nil ?_
  refine Ex.seq ?_
  refine Ex.regSeq (ExL.pures 1 rfl ?_)
  refine ExL.neq rfl rfl rfl rfl rfl rfl (fun h2 => ?_) (fun h2 => ?_)
  · refine ExL.nil ?_
    refine Ex.cond_t rfl ?_
    exfalso; omega
  · refine ExL.nil ?_
    refine Ex.cond_f rfl ?_
    refine Ex.skip ?_
    refine Ex.regSeq (ExL.pures 0 rfl ?_)
    refine ExL.op rfl (op_buildSlice (sz := 1) rfl rfl rfl rfl rfl rfl rfl rfl (by decide) rfl rfl rfl (fun r3 => ?_))
    refine ExL.pures 2 rfl ?_
    refine ExL.nil ?_
    refine Ex.seq ?_
    refine Ex.regSeq (ExL.pures 3 rfl ?_)
    refine ExL.free (fr_load rfl rfl rfl rfl (CellO.blk (i := 1) rfl rfl)) rfl rfl rfl ?_
    refine ExL.pures 2 rfl ?_
    refine ExL.nil ?_
    refine Ex.block ?_
    refine Ex.loopA (fun k A c => [(13, .slice A ((befL lo hi (fun k => (x1.K.getD k zX).xs) k)).length c), (12, .int .i64 (totW lo hi (fun k => (x1.K.getD k zX).xs) k)), (39, .int .i64 k)]) (fun k A c => [.row (.slice A ((befL lo hi (fun k => (x1.K.getD k zX).xs) k)).length c) 2 1 ((befL lo hi (fun k => (x1.K.getD k zX).xs) k)).length (((befL lo hi (fun k => (x1.K.getD k zX).xs) k)).flatMap (eI .i64))]) (fun k => k ≤ x1.K.length ∧ ∀ i, i < k → wOver lo hi (fun k => (x1.K.getD k zX).xs) i = false) (fun k => x1.K.length - k) 0 ((some ⟨r3, 0, none⟩)) (0) [(10, _), (37, _), (38, _)] [_, _, _] 4 [0, 1, 2, 3] ⟨rfl, rfl, rfl, trivial⟩ ⟨rfl, rfl, rfl, trivial⟩ (rfl) rfl ⟨Nat.zero_le _, fun i hi => by omega⟩ (fun k A c hI => ?_)
    have hI : k ≤ x1.K.length ∧ ∀ i, i < k → wOver lo hi (fun k => (x1.K.getD k zX).xs) i = false := hI
    obtain ⟨hk, hall⟩ := hI
    refine Ex.regSeq (ExL.pures 0 rfl ?_)
    refine ExL.lss rfl rfl rfl rfl rfl rfl (fun h4 => ?_) (fun h4 => ?_)
    · refine ExL.nil ?_
      refine Ex.seq ?_
      refine Ex.cond_t rfl ?_
      refine Ex.skip ?_
      refine Ex.seq ?_
      refine Ex.block ?_
      have hkL : k < L.length := by omega
      have hvl := hfl k hkL
      have hvl1 := hfl (k - 1) (by omega)
      refine Ex.regSeq (ExL.pures 1 rfl ?_)
      refine ExL.free (fr_indexAddrR (sz := 1) 2 rfl rfl rfl rfl rfl rfl (by omega)) rfl rfl rfl ?_
      refine ExL.free (fr_load rfl rfl rfl rfl (by first | exact cellN (Reads.row (i := 2) rfl) encX_len zX 0 rfl (by omega) rfl | exact cellF (Reads.row (i := 2) rfl) encX_len zX 0 rfl (by omega) rfl)) rfl rfl rfl ?_
      refine ExL.pures 2 rfl ?_
      refine ExL.nil ?_
      refine Ex.regSeq (ExL.pures 2 rfl ?_)
      refine ExL.op rfl (op_makeSlice (sz := 8) rfl rfl rfl rfl rfl rfl rfl rfl (⟨by omega, by unfold maxLen; omega⟩) rfl rfl (fun r5 => ?_))
      refine ExL.pures 1 rfl ?_
      refine ExL.nil ?_
      refine Ex.regSeq (ExL.pures 1 rfl ?_)
      refine ExL.nil ?_
      refine Ex.seq ?_
      refine Ex.regSeq (ExL.pures 3 rfl ?_)
      refine ExL.nil ?_
      refine Ex.block ?_
      refine Ex.loopK (X := Nat) (fun i => [(12, .int .i64 (sumT (wayL lo hi (fun k => (x1.K.getD k zX).xs) k) i)), (49, .int .i64 i)]) (fun i => [.row (.slice (some ⟨r5, 0, none⟩) (x1.K.getD k zX).xs.length (x1.K.getD k zX).xs.length) 2 1 (x1.K.getD k zX).xs.length ((Sx.part 0 (wayL lo hi (fun k => (x1.K.getD k zX).xs) k) i).flatMap (eI .i64))]) (fun i => i ≤ (x1.K.getD k zX).xs.length ∧ sumT (wayL lo hi (fun k => (x1.K.getD k zX).xs) k) i ≤ 1000000000000000) (fun i => (x1.K.getD k zX).xs.length - i) 0 [(10, _), (13, _), (14, _), (16, _), (37, _), (38, _), (39, _), (47, _), (48, _)] [_, _, _, _] 5 [0, 1, 2, 3, 4] ⟨rfl, rfl, trivial⟩ ⟨rfl, rfl, rfl, rfl, rfl, rfl, rfl, rfl, rfl, trivial⟩ (pkR (zroW rfl)) rfl ⟨Nat.zero_le _, by simp [sumT]⟩ (fun i hI => ?_)
      have hI : i ≤ (x1.K.getD k zX).xs.length ∧ sumT (wayL lo hi (fun k => (x1.K.getD k zX).xs) k) i ≤ 1000000000000000 := hI
      have hiN := hI.1
      have hwb := way_bd (lo := lo) (hi := hi) (F := (fun k => (x1.K.getD k zX).xs)) hall i
      have hsum := hI.2
      refine Ex.regSeq (ExL.pures 0 rfl ?_)
      refine ExL.lss rfl rfl rfl rfl rfl rfl (fun h6 => ?_) (fun h6 => ?_)
      · refine ExL.nil ?_
        refine Ex.seq ?_
        refine Ex.cond_t rfl ?_
        refine Ex.skip ?_
        refine Ex.seq ?_
        refine Ex.block ?_
        have hii : i < (x1.K.getD k zX).xs.length := by omega
        have hvi := hfv k i hkL
        refine Ex.regSeq (ExL.pures 1 rfl ?_)
        refine ExL.free (fr_indexAddrF (readsX (i := 4) rfl (k := k) (by omega)) (eI_len .i64) rfl rfl rfl rfl rfl rfl (by omega)) rfl rfl rfl ?_
        refine ExL.free (fr_load rfl rfl rfl rfl (by first | exact cellN (readsX (i := 4) rfl (k := k) (by omega)) (eI_len .i64) 0 0 rfl (by omega) rfl | exact cellF (readsX (i := 4) rfl (k := k) (by omega)) (eI_len .i64) 0 0 rfl (by omega) rfl)) rfl rfl rfl ?_
        refine ExL.pures 2 rfl ?_
        refine ExL.nil ?_
        refine Ex.seq ?_
        refine Ex.regSeq (ExL.pures 1 rfl ?_)
        refine ExL.eql rfl rfl rfl rfl rfl rfl (fun h7 => ?_) (fun h7 => ?_)
        · refine ExL.nil ?_
          refine Ex.cond_t rfl ?_
          refine Ex.region (ExL.pures 2 rfl ?_)
          refine ExL.free (fr_indexAddr (sz := 1) rfl rfl rfl rfl rfl rfl (by omega)) rfl rfl rfl ?_
          refine ExL.op rfl (op_storeRowF (i := 0) rfl rfl rfl rfl rfl rfl rfl rfl (room (eI_len .i64) (k := i) (by rw [partW_len (by omega)]; omega) (by simp) rfl) (List.cons_ne_nil _ _) rfl (rowW_0y hii (by omega) (by simp) rfl) ?_)
          refine ExL.nil ?_
          refine Ex.seq ?_
          refine Ex.regSeq (ExL.pures 3 rfl ?_)
          refine ExL.nil ?_
          refine Ex.block ?_
          refine Ex.loopK (X := Nat) (fun j => [(61, .int .i64 j)]) (fun j => [.row (.slice (some ⟨r5, 0, none⟩) (x1.K.getD k zX).xs.length (x1.K.getD k zX).xs.length) 2 1 (x1.K.getD k zX).xs.length ((rowW lo hi (fun k => (x1.K.getD k zX).xs) k i j).flatMap (eI .i64))]) (fun j => j ≤ (befL lo hi (fun k => (x1.K.getD k zX).xs) k).length) (fun j => (befL lo hi (fun k => (x1.K.getD k zX).xs) k).length - j) 0 [(10, _), (12, _), (13, _), (14, _), (16, _), (17, _), (18, _), (37, _), (38, _), (39, _), (47, _), (48, _), (49, _), (59, _), (60, _)] [_, _, _, _] 5 [0, 1, 2, 3, 4] ⟨rfl, trivial⟩ ⟨rfl, rfl, rfl, rfl, rfl, rfl, rfl, rfl, rfl, rfl, rfl, rfl, rfl, rfl, rfl, trivial⟩ (by first | rfl | exact pkR (congrArg (fun z => List.flatMap (eI .i64) z) (rowW_0n hii (by omega)))) rfl (Nat.zero_le _) (fun j hI => ?_)
          have hI : j ≤ (befL lo hi (fun k => (x1.K.getD k zX).xs) k).length := hI
          refine Ex.regSeq (ExL.pures 0 rfl ?_)
          refine ExL.lss rfl rfl rfl rfl rfl rfl (fun h8 => ?_) (fun h8 => ?_)
          · refine ExL.nil ?_
            refine Ex.seq ?_
            refine Ex.cond_t rfl ?_
            refine Ex.skip ?_
            refine Ex.seq ?_
            refine Ex.block ?_
            have hjb : j < (befL lo hi (fun k => (x1.K.getD k zX).xs) k).length := by omega
            have hk0 := bef_pos hjb
            have hbl := bef_len (lo := lo) (hi := hi) (F := (fun k => (x1.K.getD k zX).xs)) hk0
            have hvj := hfv (k - 1) j (by omega)
            have hcb := curW_bd (i := i) (j := j) hall (fun _ => by omega)
            have hbb := bef_bd hall j
            refine Ex.regSeq (ExL.pures 1 rfl ?_)
            refine ExL.free (fr_indexAddrR (sz := 1) 1 rfl rfl rfl rfl rfl rfl (by omega)) rfl rfl rfl ?_
            refine ExL.free (fr_load rfl rfl rfl rfl (by first | exact cellN (Reads.row (i := 1) rfl) (eI_len .i64) 0 0 rfl (by omega) rfl | exact cellF (Reads.row (i := 1) rfl) (eI_len .i64) 0 0 rfl (by omega) rfl)) rfl rfl rfl ?_
            refine ExL.pures 2 rfl ?_
            refine ExL.nil ?_
            refine Ex.regSeq (ExL.pures 4 rfl ?_)
            refine ExL.free (fr_load rfl rfl rfl rfl (CellO.blk (i := 2) rfl rfl)) rfl rfl rfl ?_
            refine ExL.pures 1 rfl ?_
            refine ExL.free (by first | exact fr_sub64 rfl rfl rfl (by omega) | exact fr_sub rfl rfl rfl) rfl rfl rfl ?_
            refine ExL.free (fr_indexAddrR (sz := 1) 3 rfl rfl rfl rfl rfl rfl (by omega)) rfl rfl rfl ?_
            refine ExL.free (fr_load rfl rfl rfl rfl (cellJ (i := (↑k - 1)) ((k - 1)) (Reads.row (i := 3) rfl) encX_len zX 0 rfl (by omega) (by omega) rfl)) rfl rfl rfl ?_
            refine ExL.pures 1 rfl ?_
            refine ExL.free (fr_indexAddrF (readsX (i := 4) rfl (k := (k - 1)) (by omega)) (eI_len .i64) rfl rfl rfl rfl rfl rfl (by omega)) rfl rfl rfl ?_
            refine ExL.free (fr_load rfl rfl rfl rfl (by first | exact cellN (readsX (i := 4) rfl (k := (k - 1)) (by omega)) (eI_len .i64) 0 0 rfl (by omega) rfl | exact cellF (readsX (i := 4) rfl (k := (k - 1)) (by omega)) (eI_len .i64) 0 0 rfl (by omega) rfl)) rfl rfl rfl ?_
            refine ExL.pures 1 rfl ?_
            refine ExL.op rfl (op_ret rfl rfl rfl (c_goes _ lo hi (by omega) _ ((x1.K.getD (k - 1) zX).xs.getD j 0) ((x1.K.getD k zX).xs.getD i 0) (by omega) (by omega)) (Reads.get (Reads.blk (i := 2) rfl)) rfl rfl (fun x9 hx9 => ?_))
            refine ExL.nil ?_
            refine Ex.cond rfl (fun hb10 => ?_) (fun hb10 => ?_)
            · refine Ex.region (ExL.pures 2 rfl ?_)
              refine ExL.free (fr_indexAddr (sz := 1) rfl rfl rfl rfl rfl rfl (by omega)) rfl rfl rfl ?_
              refine ExL.free (fr_load rfl rfl rfl rfl (cellW (v := .int .i64 (curW lo hi (fun k => (x1.K.getD k zX).xs) k i j)) (i := ↑i) i (Reads.row (i := 0) rfl) (eI_len .i64) 0 0 rfl (by omega) (by rw [rowW_len (by omega)]; omega) (rowW_at hii) rfl)) rfl rfl rfl ?_
              refine ExL.pures 1 rfl ?_
              refine ExL.free (by first | exact fr_add64 rfl rfl rfl (by omega) | exact fr_add rfl rfl rfl) rfl rfl rfl ?_
              refine ExL.free (fr_indexAddr (sz := 1) rfl rfl rfl rfl rfl rfl (by omega)) rfl rfl rfl ?_
              refine ExL.op rfl (op_storeRowF (i := 0) rfl rfl rfl rfl rfl rfl rfl rfl (room (eI_len .i64) (k := i) (by rw [rowW_len (by omega)]; omega) (by simp) rfl) (List.cons_ne_nil _ _) rfl (rowW_s hii (by simp) (congrArg (eI .i64) (cw_y hk0 (by assumption)))) ?_)
              refine ExL.nil ?_
              refine Ex.region (ExL.pures 0 rfl ?_)
              refine ExL.free (by first | exact fr_add64 rfl rfl rfl (by omega) | exact fr_add rfl rfl rfl) rfl rfl rfl ?_
              refine ExL.pures 1 rfl ?_
              refine ExL.nil ?_
              refine Hand.mk (j + 1) 5 [0, 1, 2, 3, 4] ⟨rfl, trivial⟩ ⟨rfl, rfl, rfl, rfl, rfl, rfl, rfl, rfl, rfl, rfl, rfl, rfl, rfl, rfl, rfl, trivial⟩ (by first | rfl | exact pkR (congrArg (fun z => List.flatMap (eI .i64) z) (cw_n hk0 (by assumption)))) rfl (by omega) (by omega)
            · refine Ex.skip ?_
              refine Ex.region (ExL.pures 0 rfl ?_)
              refine ExL.free (by first | exact fr_add64 rfl rfl rfl (by omega) | exact fr_add rfl rfl rfl) rfl rfl rfl ?_
              refine ExL.pures 1 rfl ?_
              refine ExL.nil ?_
              refine Hand.mk (j + 1) 5 [0, 1, 2, 3, 4] ⟨rfl, trivial⟩ ⟨rfl, rfl, rfl, rfl, rfl, rfl, rfl, rfl, rfl, rfl, rfl, rfl, rfl, rfl, rfl, trivial⟩ (by first | rfl | exact pkR (congrArg (fun z => List.flatMap (eI .i64) z) (cw_n hk0 (by assumption)))) rfl (by omega) (by omega)
          · refine ExL.nil ?_
            refine Ex.seq ?_
            refine Ex.cond_f rfl ?_
            refine Ex.exit ?_
            rw [rowW_fin hii (by omega)]
            refine Ex.regSeq (ExL.pures 3 rfl ?_)
            refine ExL.free (fr_indexAddr (sz := 1) rfl rfl rfl rfl rfl rfl (by omega)) rfl rfl rfl ?_
            refine ExL.free (fr_load rfl rfl rfl rfl (cellW (v := .int .i64 ((wayL lo hi (fun k => (x1.K.getD k zX).xs) k).getD i 0)) (i := ↑i) i (Reads.row (i := 0) rfl) (eI_len .i64) 0 0 rfl (by omega) (by rw [partW_len (by omega)]; omega) (partW_at hii) rfl)) rfl rfl rfl ?_
            refine ExL.free (by first | exact fr_add64 rfl rfl rfl (by omega) | exact fr_add rfl rfl rfl) rfl rfl rfl ?_
            refine ExL.pures 1 rfl ?_
            refine ExL.nil ?_
            refine Ex.regSeq (ExL.pures 1 rfl ?_)
            refine ExL.gtr rfl rfl rfl rfl rfl rfl (fun h11 => ?_) (fun h11 => ?_)
            · refine ExL.nil ?_
              refine Ex.cond_t rfl ?_
              refine Ex.regSeq (ExL.pures 2 rfl ?_)
              refine ExL.nil ?_
              refine Ex.ret ?_
              refine RetQ.mk () rfl (.tmp rfl (.tmp rfl .nil)) (t2 (vI (by first | (rw [wvk_3 (k := k) (i := i + 1) hx1 hc0 (by omega) (by omega) (by rw [sumT]; omega)]; first | done | rfl) | (rw [wvk_0 (k := k) hx1 hc0 (by omega) (by omega) hall]; first | done | rfl))) (vI (by first | (rw [wvk_3 (k := k) (i := i + 1) hx1 hc0 (by omega) (by omega) (by rw [sumT]; omega)]; first | done | rfl) | (rw [wvk_0 (k := k) hx1 hc0 (by omega) (by omega) hall]; first | done | rfl)))) [] (rfl) rfl (trivial)
            · refine ExL.nil ?_
              refine Ex.cond_f rfl ?_
              refine Ex.skip ?_
              refine Ex.region (ExL.pures 0 rfl ?_)
              refine ExL.free (by first | exact fr_add64 rfl rfl rfl (by omega) | exact fr_add rfl rfl rfl) rfl rfl rfl ?_
              refine ExL.pures 1 rfl ?_
              refine ExL.nil ?_
              refine Hand.mk (i + 1) 5 [0, 1, 2, 3, 4] ⟨rfl, rfl, trivial⟩ ⟨rfl, rfl, rfl, rfl, rfl, rfl, rfl, rfl, rfl, trivial⟩ (rfl) rfl (⟨by omega, by rw [sumT]; omega⟩) (by omega)
        · refine ExL.nil ?_
          refine Ex.cond_f rfl ?_
          refine Ex.skip ?_
          refine Ex.seq ?_
          refine Ex.regSeq (ExL.pures 3 rfl ?_)
          refine ExL.nil ?_
          refine Ex.block ?_
          refine Ex.loopK (X := Nat) (fun j => [(61, .int .i64 j)]) (fun j => [.row (.slice (some ⟨r5, 0, none⟩) (x1.K.getD k zX).xs.length (x1.K.getD k zX).xs.length) 2 1 (x1.K.getD k zX).xs.length ((rowW lo hi (fun k => (x1.K.getD k zX).xs) k i j).flatMap (eI .i64))]) (fun j => j ≤ (befL lo hi (fun k => (x1.K.getD k zX).xs) k).length) (fun j => (befL lo hi (fun k => (x1.K.getD k zX).xs) k).length - j) 0 [(10, _), (12, _), (13, _), (14, _), (16, _), (17, _), (18, _), (37, _), (38, _), (39, _), (47, _), (48, _), (49, _), (59, _), (60, _)] [_, _, _, _] 5 [0, 1, 2, 3, 4] ⟨rfl, trivial⟩ ⟨rfl, rfl, rfl, rfl, rfl, rfl, rfl, rfl, rfl, rfl, rfl, rfl, rfl, rfl, rfl, trivial⟩ (by first | rfl | exact pkR (congrArg (fun z => List.flatMap (eI .i64) z) (rowW_0n hii (by omega)))) rfl (Nat.zero_le _) (fun j hI => ?_)
          have hI : j ≤ (befL lo hi (fun k => (x1.K.getD k zX).xs) k).length := hI
          refine Ex.regSeq (ExL.pures 0 rfl ?_)
          refine ExL.lss rfl rfl rfl rfl rfl rfl (fun h12 => ?_) (fun h12 => ?_)
          · refine ExL.nil ?_
            refine Ex.seq ?_
            refine Ex.cond_t rfl ?_
            refine Ex.skip ?_
            refine Ex.seq ?_
            refine Ex.block ?_
            have hjb : j < (befL lo hi (fun k => (x1.K.getD k zX).xs) k).length := by omega
            have hk0 := bef_pos hjb
            have hbl := bef_len (lo := lo) (hi := hi) (F := (fun k => (x1.K.getD k zX).xs)) hk0
            have hvj := hfv (k - 1) j (by omega)
            have hcb := curW_bd (i := i) (j := j) hall (fun _ => by omega)
            have hbb := bef_bd hall j
            refine Ex.regSeq (ExL.pures 1 rfl ?_)
            refine ExL.free (fr_indexAddrR (sz := 1) 1 rfl rfl rfl rfl rfl rfl (by omega)) rfl rfl rfl ?_
            refine ExL.free (fr_load rfl rfl rfl rfl (by first | exact cellN (Reads.row (i := 1) rfl) (eI_len .i64) 0 0 rfl (by omega) rfl | exact cellF (Reads.row (i := 1) rfl) (eI_len .i64) 0 0 rfl (by omega) rfl)) rfl rfl rfl ?_
            refine ExL.pures 2 rfl ?_
            refine ExL.nil ?_
            refine Ex.regSeq (ExL.pures 4 rfl ?_)
            refine ExL.free (fr_load rfl rfl rfl rfl (CellO.blk (i := 2) rfl rfl)) rfl rfl rfl ?_
            refine ExL.pures 1 rfl ?_
            refine ExL.free (by first | exact fr_sub64 rfl rfl rfl (by omega) | exact fr_sub rfl rfl rfl) rfl rfl rfl ?_
            refine ExL.free (fr_indexAddrR (sz := 1) 3 rfl rfl rfl rfl rfl rfl (by omega)) rfl rfl rfl ?_
            refine ExL.free (fr_load rfl rfl rfl rfl (cellJ (i := (↑k - 1)) ((k - 1)) (Reads.row (i := 3) rfl) encX_len zX 0 rfl (by omega) (by omega) rfl)) rfl rfl rfl ?_
            refine ExL.pures 1 rfl ?_
            refine ExL.free (fr_indexAddrF (readsX (i := 4) rfl (k := (k - 1)) (by omega)) (eI_len .i64) rfl rfl rfl rfl rfl rfl (by omega)) rfl rfl rfl ?_
            refine ExL.free (fr_load rfl rfl rfl rfl (by first | exact cellN (readsX (i := 4) rfl (k := (k - 1)) (by omega)) (eI_len .i64) 0 0 rfl (by omega) rfl | exact cellF (readsX (i := 4) rfl (k := (k - 1)) (by omega)) (eI_len .i64) 0 0 rfl (by omega) rfl)) rfl rfl rfl ?_
            refine ExL.pures 1 rfl ?_
            refine ExL.op rfl (op_ret rfl rfl rfl (c_goes _ lo hi (by omega) _ ((x1.K.getD (k - 1) zX).xs.getD j 0) ((x1.K.getD k zX).xs.getD i 0) (by omega) (by omega)) (Reads.get (Reads.blk (i := 2) rfl)) rfl rfl (fun x13 hx13 => ?_))
            refine ExL.nil ?_
            refine Ex.cond rfl (fun hb14 => ?_) (fun hb14 => ?_)
            · refine Ex.region (ExL.pures 2 rfl ?_)
              refine ExL.free (fr_indexAddr (sz := 1) rfl rfl rfl rfl rfl rfl (by omega)) rfl rfl rfl ?_
              refine ExL.free (fr_load rfl rfl rfl rfl (cellW (v := .int .i64 (curW lo hi (fun k => (x1.K.getD k zX).xs) k i j)) (i := ↑i) i (Reads.row (i := 0) rfl) (eI_len .i64) 0 0 rfl (by omega) (by rw [rowW_len (by omega)]; omega) (rowW_at hii) rfl)) rfl rfl rfl ?_
              refine ExL.pures 1 rfl ?_
              refine ExL.free (by first | exact fr_add64 rfl rfl rfl (by omega) | exact fr_add rfl rfl rfl) rfl rfl rfl ?_
              refine ExL.free (fr_indexAddr (sz := 1) rfl rfl rfl rfl rfl rfl (by omega)) rfl rfl rfl ?_
              refine ExL.op rfl (op_storeRowF (i := 0) rfl rfl rfl rfl rfl rfl rfl rfl (room (eI_len .i64) (k := i) (by rw [rowW_len (by omega)]; omega) (by simp) rfl) (List.cons_ne_nil _ _) rfl (rowW_s hii (by simp) (congrArg (eI .i64) (cw_y hk0 (by assumption)))) ?_)
              refine ExL.nil ?_
              refine Ex.region (ExL.pures 0 rfl ?_)
              refine ExL.free (by first | exact fr_add64 rfl rfl rfl (by omega) | exact fr_add rfl rfl rfl) rfl rfl rfl ?_
              refine ExL.pures 1 rfl ?_
              refine ExL.nil ?_
              refine Hand.mk (j + 1) 5 [0, 1, 2, 3, 4] ⟨rfl, trivial⟩ ⟨rfl, rfl, rfl, rfl, rfl, rfl, rfl, rfl, rfl, rfl, rfl, rfl, rfl, rfl, rfl, trivial⟩ (by first | rfl | exact pkR (congrArg (fun z => List.flatMap (eI .i64) z) (cw_n hk0 (by assumption)))) rfl (by omega) (by omega)
            · refine Ex.skip ?_
              refine Ex.region (ExL.pures 0 rfl ?_)
              refine ExL.free (by first | exact fr_add64 rfl rfl rfl (by omega) | exact fr_add rfl rfl rfl) rfl rfl rfl ?_
              refine ExL.pures 1 rfl ?_
              refine ExL.nil ?_
              refine Hand.mk (j + 1) 5 [0, 1, 2, 3, 4] ⟨rfl, trivial⟩ ⟨rfl, rfl, rfl, rfl, rfl, rfl, rfl, rfl, rfl, rfl, rfl, rfl, rfl, rfl, rfl, trivial⟩ (by first | rfl | exact pkR (congrArg (fun z => List.flatMap (eI .i64) z) (cw_n hk0 (by assumption)))) rfl (by omega) (by omega)
          · refine ExL.nil ?_
            refine Ex.seq ?_
            refine Ex.cond_f rfl ?_
            refine Ex.exit ?_
            rw [rowW_fin hii (by omega)]
            refine Ex.regSeq (ExL.pures 3 rfl ?_)
            refine ExL.free (fr_indexAddr (sz := 1) rfl rfl rfl rfl rfl rfl (by omega)) rfl rfl rfl ?_
            refine ExL.free (fr_load rfl rfl rfl rfl (cellW (v := .int .i64 ((wayL lo hi (fun k => (x1.K.getD k zX).xs) k).getD i 0)) (i := ↑i) i (Reads.row (i := 0) rfl) (eI_len .i64) 0 0 rfl (by omega) (by rw [partW_len (by omega)]; omega) (partW_at hii) rfl)) rfl rfl rfl ?_
            refine ExL.free (by first | exact fr_add64 rfl rfl rfl (by omega) | exact fr_add rfl rfl rfl) rfl rfl rfl ?_
            refine ExL.pures 1 rfl ?_
            refine ExL.nil ?_
            refine Ex.regSeq (ExL.pures 1 rfl ?_)
            refine ExL.gtr rfl rfl rfl rfl rfl rfl (fun h15 => ?_) (fun h15 => ?_)
            · refine ExL.nil ?_
              refine Ex.cond_t rfl ?_
              refine Ex.regSeq (ExL.pures 2 rfl ?_)
              refine ExL.nil ?_
              refine Ex.ret ?_
              refine RetQ.mk () rfl (.tmp rfl (.tmp rfl .nil)) (t2 (vI (by first | (rw [wvk_3 (k := k) (i := i + 1) hx1 hc0 (by omega) (by omega) (by rw [sumT]; omega)]; first | done | rfl) | (rw [wvk_0 (k := k) hx1 hc0 (by omega) (by omega) hall]; first | done | rfl))) (vI (by first | (rw [wvk_3 (k := k) (i := i + 1) hx1 hc0 (by omega) (by omega) (by rw [sumT]; omega)]; first | done | rfl) | (rw [wvk_0 (k := k) hx1 hc0 (by omega) (by omega) hall]; first | done | rfl)))) [] (rfl) rfl (trivial)
            · refine ExL.nil ?_
              refine Ex.cond_f rfl ?_
              refine Ex.skip ?_
              refine Ex.region (ExL.pures 0 rfl ?_)
              refine ExL.free (by first | exact fr_add64 rfl rfl rfl (by omega) | exact fr_add rfl rfl rfl) rfl rfl rfl ?_
              refine ExL.pures 1 rfl ?_
              refine ExL.nil ?_
              refine Hand.mk (i + 1) 5 [0, 1, 2, 3, 4] ⟨rfl, rfl, trivial⟩ ⟨rfl, rfl, rfl, rfl, rfl, rfl, rfl, rfl, rfl, trivial⟩ (rfl) rfl (⟨by omega, by rw [sumT]; omega⟩) (by omega)
      · refine ExL.nil ?_
        refine Ex.seq ?_
        refine Ex.cond_f rfl ?_
        refine Ex.exit ?_
        obtain rfl : i = (x1.K.getD k zX).xs.length := (by omega)
        rw [partW_full rfl]
        refine Ex.region (ExL.pures 2 rfl ?_)
        refine ExL.nil ?_
        refine Ex.region (ExL.pures 0 rfl ?_)
        refine ExL.free (by first | exact fr_add64 rfl rfl rfl (by omega) | exact fr_add rfl rfl rfl) rfl rfl rfl ?_
        refine ExL.pures 1 rfl ?_
        refine ExL.nil ?_
        refine HandA.of (k + 1) ((some ⟨r5, 0, none⟩)) ((x1.K.getD k zX).xs.length) 5 [0, 2, 3, 4] ⟨(by rw [bef_s]; rfl), rfl, rfl, trivial⟩ ⟨rfl, rfl, rfl, trivial⟩ (by first | rfl | (rw [bef_s]; rfl)) rfl (⟨by omega, all_snoc hall (over_no (by omega))⟩) (by omega)
    · refine ExL.nil ?_
      refine Ex.seq ?_
      refine Ex.cond_f rfl ?_
      refine Ex.exit ?_
      refine Ex.regSeq (ExL.pures 3 rfl ?_)
      refine ExL.nil ?_
      refine Ex.ret ?_
      refine RetQ.mk () rfl (.tmp rfl (.tmp rfl .nil)) (t2 (vI (by first | (rw [wvk_3 (k := k) (i := i + 1) hx1 hc0 (by omega) (by omega) (by rw [sumT]; omega)]; first | done | rfl) | (rw [wvk_0 (k := k) hx1 hc0 (by omega) (by omega) hall]; first | done | rfl))) (vI (by first | (rw [wvk_3 (k := k) (i := i + 1) hx1 hc0 (by omega) (by omega) (by rw [sumT]; omega)]; first | done | rfl) | (rw [wvk_0 (k := k) hx1 hc0 (by omega) (by omega) hall]; first | done | rfl)))) [] (rfl) rfl (trivial)
theorem c_iWays (s : List Int) (hu : Nums 255 s) (As : Option Addr) (cs : Nat) (hls : s.length ≤ maxLen) (L : List VPh) (hLk : ∀ k, k < L.length → OkPh (L.getD k zPh)) (bl cL : Nat) (hlL : L.length ≤ maxLen) (lo hi : Int) : Ret Tryz.prog 26 [.slice As s.length cs, .slice (some ⟨bl, 0, none⟩) L.length cL, .int .i64 lo, .int .i64 hi] (fun w => Rd w As (s.flatMap (eI .u8)) ∧ Rd w (some ⟨bl, 0, none⟩) (L.flatMap encPh)) (fun x : Unit => .tuple #[.int .i64 (waysV s L lo hi).1, .int .i64 (waysV s L lo hi).2]) (fun x => []) (fun x => True) := by
  by_cases h : codeF s L lo hi lo = 0
  · exact c_iWays_t s hu As cs hls L hLk bl cL hlL lo hi  h
  · exact c_iWays_f s hu As cs hls L hLk bl cL hlL lo hi  h
end Go.Proofs.YtfcmehdmbfhodaaGreat

/- What these functions of the program hand back, each proved by walking its operations. -/
set_option linter.unusedVariables false
set_option linter.unusedSimpArgs false
set_option maxRecDepth 4000
namespace Go.Proofs.YtfcmehdmbfhodaaGreat
open Go Go.Sx Go.RowKit Go.W Go.Proofs
attribute [local irreducible] Ex ExL ExD Op1 Free RetQ MutQ Reads CellO SegO LoadsAs
end Go.Proofs.YtfcmehdmbfhodaaGreat

/- What these functions of the program hand back, each proved by walking its operations. -/
set_option linter.unusedVariables false
set_option linter.unusedSimpArgs false
set_option maxRecDepth 4000
namespace Go.Proofs.YtfcmehdmbfhodaaGreat
open Go Go.Sx Go.RowKit Go.W Go.Proofs
attribute [local irreducible] Ex ExL ExD Op1 Free RetQ MutQ Reads CellO SegO LoadsAs
theorem e_7 : Enters Tryz.prog 7 := Enters.of Tryz.func7 rfl
theorem c_P6Pick (code : List Int) (Ac : Option Addr) (cc : Nat) (hcl : code.length ≤ maxLen) (hcu : Nums 255 code) (n : Int) (hn : n ≤ 9223372036854775807) : Ret Tryz.prog 7 [.slice Ac code.length cc, .int .i64 n] (fun w => Rd w Ac (code.flatMap (eI .u8))) (fun x : Int => .int .i64 x) (fun x => []) (fun x => 0 ≤ x ∧ (x < n ∨ x = 0) ∧ x ≤ 65535) := by
  refine Ret.of e_7 Tryz.func7 rfl Tryz.ntmps7 rfl rfl (fun w hpre => ?_)
  have hcode := hpre.base
  have hm0 : maxLen = 9223372036854775807 := rfl
  refine Ex.regSeq (ExL.pures 1 rfl ?_)
  refine ExL.nil ?_
  refine Ex.regSeq (ExL.pures 1 rfl ?_)
  refine ExL.op rfl (op_ret rfl rfl rfl (c_l00From code _ _) (fun _ _ => trivial) rfl rfl (fun x1 hx1 => ?_))
  refine ExL.pures 1 rfl ?_
  refine ExL.op rfl (op_mut rfl rfl rfl (c_pick code _ _ (by omega) (by assumption) _ 0 _ (by omega) n (by omega)) (perm_at (i := 0) rfl) (hcode) rfl rfl (fun x2 hx2 => ?_))
  refine ExL.pures 1 rfl ?_
  refine ExL.nil ?_
  refine Ex.ret ?_
  refine RetQ.mk _ rfl (.tmp rfl .nil) (rfl) [] (rfl) rfl (by refine ⟨?_, ?_, ?_⟩ <;> omega)
end Go.Proofs.YtfcmehdmbfhodaaGreat
